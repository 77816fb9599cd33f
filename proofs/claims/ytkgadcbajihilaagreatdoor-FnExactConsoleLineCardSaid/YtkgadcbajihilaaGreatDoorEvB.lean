import Derived.Test.YtkgadcbajihilaaGreatDoorEvA
set_option linter.unusedVariables false
set_option linter.unusedSimpArgs false
set_option linter.defProp false
set_option maxRecDepth 100000
noncomputable section
namespace Go.Proofs.YtkgadcbajihilaaGreatDoor.Am
open Go
section
variable{β:Type}
def HP{α:Type}{p:Prop}[Decidable p]{b:Bool}(h:b=true↔p)(x y:α):(if p then x else y)=cond b x y:=by
 cases b with
 |true=>rw[if_pos (h.1 rfl)];rfl
 |false=>rw[if_neg (λhp=>by have:=h.2 hp;cases this)];rfl
def YW{m n:Nat}:Nat.blt m n=true↔m<n:=by rw[Nat.blt_eq]
def Se{m n:Nat}:Nat.ble m n=true↔m≤n:=by rw[Nat.ble_eq]
def zP{α:Type}(b:Bool)(x y:α)(_:Lk (x,y)):α:=cond b x y
def QeA{α:Type}(x y:α)(l):zP true x y l=x:=Qj
def QeP{α:Type}(x y:α)(l):zP false x y l=y:=Qj
def QjE(v)(k:AV→Option β)(l):UB v k l=k v:=Qj
def Qc8(K)(k:KS→Option β)(l):Jp K k l=k K:=Qj
def Qso(f:Fr)(d:Nat)(v:AV)(t:Nat):up f d v t=zP (d==t) v (f t) ():=by
 unfold up zP;by_cases h:t=d
 ·simp[h]
 ·have:(d==t)=false:=by simp;exact λh'=>h h'.symm
  simp[h,this]
def Qo2(m n:Nat):Nat.ble m n=decide (m≤n):=by rw[Bool.eq_iff_iff,Nat.ble_eq];simp
def Qof(m n:Nat):Nat.blt m n=decide (m<n):=by rw[Bool.eq_iff_iff,Nat.blt_eq];simp
def QxR(h:Decidable True):@decide True h=true:=by simp
def Qv7(h:Decidable False):@decide False h=false:=by simp
def QjT(m n:Nat)(f:Fr)(t:Nat):tH m n f t=zP (Nat.ble m t&&Nat.blt t n) .u (f t) ():=Qj
def rN(t:Nat):Q7 [] t=.u:=Qj
def nh(d:Nat)(v:AV)(l:List (Nat×AV))(t:Nat):Q7 ((d,v)::l) t=zP (d==t) v (Q7 l t) ():=by
 show up (Q7 l) d v t=_;exact Qso _ _ _ _
def mg(t:Nat):X0 [] t=.u:=by simp[X0]
def kN(v:AV)(l:List AV):X0 (v::l) 0=v:=Qj
def ly(v:AV)(l:List AV)(t:Nat):X0 (v::l) (t+1)=X0 l t:=Qj
def vJ(f:Fr)(t:Tmp):ev f (.tmp t)=f t:=Qj
def nN(f:Fr)(v:Value):ev f (.const v)=cv v:=Qj
def sy(f:Fr)(g:FuncId):ev f (.func g)=.clo g []:=Qj
def rZ(b:Bool):cv (.bool b)=.b b:=Qj
def vR(k:IntKind)(i:Int):cv (.int k i)=.i k i:=Qj
def Qal(x:ByteArray):cv (.string x)=.s x.data.toList:=Qj
def QaN:cv (.slice none 0 0)=.nil:=Qj
def jc{α:Type}(x y:α):cond true x y=x:=Qj
def kj{α:Type}(x y:α):cond false x y=y:=Qj
def T7(q:Option β)(l):V9 true q l=q:=Qj
def Xt{ρ δ γ:Type}(o:Option (Fl ρ δ))(p:ρ→γ)(q:δ→γ):Option γ:=o.map (J1 p q)
def hU{ρ δ γ:Type}(o:Option (Fl ρ δ))(p:ρ→γ)(q:δ→γ)(k:γ→Option β)(l):Ad (Xt o p q) k l=o.bind (J1 (λr=>k (p r)) (λr=>k (q r))):=by
 cases o with
 |none=>rfl
 |some o=>cases o<;>rfl
def Tm{α:Type}(x:α)(k:α→Option β)(l):Ad (some x) k l=k x:=Qj
def gL{α:Type}(k:α→Option β)(l):Ad (none:Option α) k l=none:=Qj
def gX{α:Type}(b:Bool)(q:Option α)(k:α→Option β)(l)(l'):Ad (V9 b q l') k l=V9 b (Ad q k l) ():=by cases b<;>rfl
def kF{α γ:Type}(o:Option γ)(e:γ→α)(k:α→Option β)(l):Ad (o.map e) k l=o.bind (λr=>k (e r)):=by cases o<;>rfl
def dq{α:Type}(i):lk ([]:List (Nat×α)) i=none:=Qj
def fQ{α:Type}(i)(x:α)(l j):lk ((i,x)::l) j=zP (i==j) (some x) (lk l j) ():=Qj
end
section
variable{β:Type}{P:Program}{D:Orc}{a:Ann}{f:Fr}{K:KS}{Q:KT β}{k:AV→KS→Option β}
def QjB(l):XY P D a .skip Q f K l=Q .normal f K:=Qj
def Qpe(l):XY P D a .ret Q f K l=Q .ret f K:=Qj
def QhV(id l):XY P D a (.exit id) Q f K l=Q (.exit id) f K:=Qj
def QqP(x y l):XY P D a (.seq x y) Q f K l=XY P D a x (lh (λf K=>XY P D a y Q f K ()) Q) f K ():=Qj
def Qpq(v:AV)(x y:Option β)(_:Lk (x,y)):Option β:=match v with|.b b=>cond b x y|_=>none
def QiK(c x y l):XY P D a (.cond c x y) Q f K l=Qpq (ev f c) (XY P D a x Q f K ()) (XY P D a y Q f K ()) ():=Qj
def QpH(b)(x y:Option β)(l):Qpq (.b b) x y l=cond b x y:=Qj
def Qcf(id c l):XY P D a (.block id c) Q f K l=XY P D a c (sx id Q) f K ():=Qj
def zS(id ol l):XY P D a (.region id (List.toArray ol) false) Q f K l=ofz (lk a.fz id) (lk a.fc id) f K (λf K=>S1 P D a id (lk a.av id) (List.toArray ol) Q f K ()) ():=Qj
def QeH{α:Type}(x:α)(xs ys:List α):List.append (x::xs) ys=x::List.append xs ys:=Qj
def Qhc{α:Type}(ys:List α):List.append [] ys=ys:=Qj
def Qvv(f:Fr)(K:KS)(k:Fr→KS→Option β)(l):ofz none none f K k l=k f K:=Qj
def Qxv(f:Fr)(K:KS)(ss)(k:Fr→KS→Option β)(l):ofz (some ss) none f K k l=gN ss f K k ():=Qj
def Qxs(f:Fr)(K:KS)(cs)(k:Fr→KS→Option β)(l):ofz none (some cs) f K k l=iO cs f K k ():=Qj
def Qyg(f:Fr)(K:KS)(k:Fr→KS→Option β)(l):iO [] f K k l=k f K:=Qj
def Qyd(f:Fr)(K:KS)(s o ss)(k:Fr→KS→Option β)(l):iO ((s,o)::ss) f K k l=Qbz o (f s) K (λK=>iO ss f K k ()) ():=Qj
def Qt7(o jb i q)(K:KS)(k:KS→Option β)(l):Qbz o (.ptr jb i q) K k l=Qdk o jb (kg K jb) K k ():=Qj
def QuS(o jb cs)(K:KS)(k:KS→Option β)(l):Qdk o jb (some (.box cs)) K k l=Qd8 o jb cs (cs.drop o) K k ():=Qj
def QwJ(o jb j cs ds)(K:KS)(k:KS→Option β)(l):Qd8 o jb cs (.sl j::ds) K k l=QbE o jb j cs (kg K j) K k ():=Qj
def Qwz(o jb j cs m rows)(K:KS)(k:KS→Option β)(l):QbE o jb j cs (some (.lst m rows)) K k l=k ((K.set j none).set jb (some (.box (cs.set o (.imm m (Vf rows)))))):=Qj
def Qxw(f:Fr)(K:KS)(k:Fr→KS→Option β)(l):gN [] f K k l=k f K:=Qj
def QuG(f:Fr)(K:KS)(s ss)(k:Fr→KS→Option β)(l):gN (s::ss) f K k l=Qdd s (f s) f K (λf K=>gN ss f K k ()) ():=Qj
def QvH(f:Fr)(K:KS)(s j)(k:Fr→KS→Option β)(l):Qdd s (.sl j) f K k l=QbY s j (kg K j) f K k ():=Qj
def Quv(f:Fr)(K:KS)(s j m rows)(k:Fr→KS→Option β)(l):QbY s j (some (.lst m rows)) f K k l=k (up f s (.imm m (Vf rows))) (K.set j none):=Qj
def Qq0(id ol l):S1 P D a id none (List.toArray ol) Q f K l=kX P D a id (lk a.an id) (List.toArray ol) ol Q f K ():=Qj
def Qni(id vs ol l):S1 P D a id (some vs) (List.toArray ol) Q f K l=C1 vs P D (List.toArray ol) ol f K (λf K=>Q .normal f K) ():=Qj
def QjV(vs ops)(k:Fr→KS→Option β)(l):C1 vs P D ops [] f K k l=k f K:=Qj
def QeD(vs ops d o t p af r)(k:Fr→KS→Option β)(l):C1 vs P D ops (⟨some d,o,t,p,af,none⟩::r) f K k l=YE vs P D o f K (λv K'=>UB v (λv=>C1 vs P D ops r (up f d v) K' k ()) ()) ():=Qj
def ze(vs ops o t p af r)(k:Fr→KS→Option β)(l):C1 vs P D ops (⟨none,o,t,p,af,none⟩::r) f K k l=YE vs P D o f K (λv K'=>C1 vs P D ops r f K' k ()) ():=Qj
def QxJ(vs ops r)(k:Fr→KS→Option β)(d op t pos after j want l):C1 vs P D ops (⟨some d,op,t,pos,after,some (j,want)⟩::r) f K k l =
  ogd ((ops[j]?).bind (·.dst)) want f (λf=>YE vs P D op f K (λv K'=>UB v (λv=>C1 vs P D ops r (up f d v) K' k ()) ()) ()) (λf=>UB (.tup []) (λv=>C1 vs P D ops r (up f d v) K k ()) ()) ():=Qj
def QsT(vs ops r)(k:Fr→KS→Option β)(op t pos after j want l):C1 vs P D ops (⟨none,op,t,pos,after,some (j,want)⟩::r) f K k l =
  ogd ((ops[j]?).bind (·.dst)) want f (λf=>YE vs P D op f K (λv K'=>C1 vs P D ops r f K' k ()) ()) (λf=>C1 vs P D ops r f K k ()) ():=Qj
def Kw:Op→Bool
 |.call ⟨.value (.func _),_,_⟩=>true
 |_=>false
def Qxj(vs o l)(k:AV→KS→Option β)(h:Kw o=false):YE vs P D o f K k l=ER P D o f K k ():=by
 unfold Kw at h;unfold YE
 split
 ·cases h
 ·rfl
def QoB(vs g args ts l)(k:AV→KS→Option β):YE vs P D (.call ⟨.value (.func g),args,ts⟩) f K k l=cond (vs.contains g) (HQ P D (.call ⟨.value (.func g),args,ts⟩) f K k ()) (ER P D (.call ⟨.value (.func g),args,ts⟩) f K k ()):=Qj
def Qc0(x args ts):Kw (.call ⟨.value (.tmp x),args,ts⟩)=false:=Qj
def Qs6(b args ts):Kw (.call ⟨.builtin b,args,ts⟩)=false:=Qj
def Qej(x):Kw (.move x)=false:=Qj
def Qhu(x):Kw (.assign x)=false:=Qj
def QbB(t x):Kw (.load t x)=false:=Qj
def Qa7(t x y):Kw (.store t x y)=false:=Qj
def Qsn(t x i):Kw (.fieldAddr t x i)=false:=Qj
def Qmc(t x i):Kw (.indexAddr t x i)=false:=Qj
def Qjf(x i):Kw (.extract x i)=false:=Qj
def Qi8(t x i):Kw (.field t x i)=false:=Qj
def Qg6(o t x y u):Kw (.binOp o t x y u)=false:=Qj
def Qq8(o t x):Kw (.unOp o t x)=false:=Qj
def Qiw(x):Kw (.nilCheck x)=false:=Qj
def Qbs(c x y):Kw (.pick c x y)=false:=Qj
def yM(t ps):Kw (.build t ps)=false:=Qj
def QpJ(t n ps):Kw (.buildSlice t n ps)=false:=Qj
def wB(t):Kw (.alloc t)=false:=Qj
def Qkj(t x):Kw (.box t x)=false:=Qj
def Qk5(t x lo hi m):Kw (.slice t x lo hi m)=false:=Qj
def Qiz(t x i):Kw (.index t x i)=false:=Qj
def Qnw(s t x):Kw (.convert s t x)=false:=Qj
def oo(id ops ol l):kX P D a id none ops ol Q f K l=jE P D a id (lk a.ac id) ops ol Q f K ():=Qj
def pN(id us ops ol l):kX P D a id (some us) ops ol Q f K l=PA P D ops us ol f K (λf K=>Q .normal f K) ():=Qj
def oq(id ops ol l):jE P D a id none ops ol Q f K l=bY P D a id ops ol Q f K ():=Qj
def rB(id x ops ol l):jE P D a id (some x) ops ol Q f K l=MY P D ops ol f K (λf K=>Q .normal f K) ():=Qj
def Qko(ops)(k:Fr→KS→Option β)(l):MY P D ops [] f K k l=k f K:=Qj
def Qdf(ops d o t p af r)(k:Fr→KS→Option β)(l):MY P D ops (⟨some d,o,t,p,af,none⟩::r) f K k l=HQ P D o f K (λv K'=>UB v (λv=>MY P D ops r (up f d v) K' k ()) ()) ():=Qj
def zh(ops o t p af r)(k:Fr→KS→Option β)(l):MY P D ops (⟨none,o,t,p,af,none⟩::r) f K k l=HQ P D o f K (λv K'=>MY P D ops r f K' k ()) ():=Qj
def Qd5(x l):HQ P D (.move x) f K k l=ER P D (.move x) f K k ():=Qj
def rK(x l):HQ P D (.assign x) f K k l=ER P D (.assign x) f K k ():=Qj
def Qdx(t x l):HQ P D (.load t x) f K k l=ER P D (.load t x) f K k ():=Qj
def yJ(t x y l):HQ P D (.store t x y) f K k l=ER P D (.store t x y) f K k ():=Qj
def Qo1(t x i l):HQ P D (.fieldAddr t x i) f K k l=ER P D (.fieldAddr t x i) f K k ():=Qj
def Qqe(t x i l):HQ P D (.indexAddr t x i) f K k l=ER P D (.indexAddr t x i) f K k ():=Qj
def Qjz(t x i l):HQ P D (.field t x i) f K k l=ER P D (.field t x i) f K k ():=Qj
def Qh4(x i l):HQ P D (.extract x i) f K k l=ER P D (.extract x i) f K k ():=Qj
def QiG(o t x y u l):HQ P D (.binOp o t x y u) f K k l=ER P D (.binOp o t x y u) f K k ():=Qj
def vh(t ps l):HQ P D (.build t ps) f K k l=ER P D (.build t ps) f K k ():=Qj
def QnN(o t x l):HQ P D (.unOp o t x) f K k l=ER P D (.unOp o t x) f K k ():=Qj
def Qis(x l):HQ P D (.nilCheck x) f K k l=ER P D (.nilCheck x) f K k ():=Qj
def Qex(c x y l):HQ P D (.pick c x y) f K k l=ER P D (.pick c x y) f K k ():=Qj
def QaG(t l):HQ P D (.alloc t) f K k l=ER P D (.alloc t) f K k ():=Qj
def Qks(t x lo hi m l):HQ P D (.slice t x lo hi m) f K k l=ER P D (.slice t x lo hi m) f K k ():=Qj
def QkK(t x i l):HQ P D (.index t x i) f K k l=ER P D (.index t x i) f K k ():=Qj
def Qot(b xs ts l):HQ P D (.call ⟨.builtin b,xs,ts⟩) f K k l=ER P D (.call ⟨.builtin b,xs,ts⟩) f K k ():=Qj
def Qqf(s t x l):HQ P D (.convert s t x) f K k l=ER P D (.convert s t x) f K k ():=Qj
def QjS(t x l):HQ P D (.box t x) f K k l=ER P D (.box t x) f K k ():=Qj
def sW(b c d e:Bool)(D:Orc)(g:FuncId)(K:KS)(vs:List AV)(k:AV→KS→Option β)(_:Lk (vs,k)):Option β:=cond b (eK K vs k ()) (cond c (cl K vs k ()) (cond d (Uv D g K vs k ()) (cond e (PV D g K vs k ()) (MO D g K vs k ()))))
def QcE(x xs ts l):HQ P D (.call ⟨.value x,List.toArray xs,ts⟩) f K k l=nX (ev f x) (λg caps=>sW (D.s g) (D.q g) (D.w g) (D.v g) D g K (xs.map (ev f)++caps) k ()) ():=Qj
def s_t(g c d e)(K:KS)(vs)(k:AV→KS→Option β)(l):sW true c d e D g K vs k l=eK K vs k ():=Qj
def s_q(g d e)(K:KS)(vs)(k:AV→KS→Option β)(l):sW false true d e D g K vs k l=cl K vs k ():=Qj
def s_f(g)(K:KS)(vs)(k:AV→KS→Option β)(l):sW false false false false D g K vs k l=MO D g K vs k ():=Qj
def s_w(g e)(K:KS)(vs)(k:AV→KS→Option β)(l):sW false false true e D g K vs k l=YP D g K (K6 vs) vs k ():=Qj
def w_j(g)(K:KS)(js vs)(k:AV→KS→Option β)(l):YP D g K js vs k l=V9 (tC js) (Y6 D g K js (Hb js vs) k ()) ():=Qj
def w_s(g)(K:KS)(js cs)(k:AV→KS→Option β)(l):Y6 D g K js (some cs) k l=V9 (PU (Z4 K js)) (Ad (D.a g (Z4 K js) cs) (λr=>k (Ft js K.length r.1) (I2 K js r.2)) ()) ():=Qj
def s_v(g)(K:KS)(vs)(k:AV→KS→Option β)(l):sW false false false true D g K vs k l=YL D g K (K6 vs) vs k ():=Qj
def v_j(g)(K:KS)(js vs)(k:AV→KS→Option β)(l):YL D g K js vs k l=V9 (tC js) (YS D g K js (Hb js vs) k ()) ():=Qj
def v_s(g)(K:KS)(js cs)(k:AV→KS→Option β)(l):YS D g K js (some cs) k l=V9 (mM (Z4 K js)) (Ad (D.m g (Z4 K js) cs) (λx=>k (XH K.length x).1 (Bz K js (Eg js)++(XH K.length x).2)) ()) ():=Qj
def Qm8:Eg []=[]:=Qj
def Qr5(j js):Eg (j::js)=none::Eg js:=Qj
def p_0(vs):dA [] vs=vs:=by cases vs<;>rfl
def p_e(ss):dA ss []=[]:=by cases ss<;>rfl
def p_s(s ss v vs):dA (s::ss) (v::vs)=nv s v::dA ss vs:=Qj
def p_n(v):nv .n v=v:=by cases v<;>rfl
def p_z(k v):nv (.z k) v=uf k v:=by cases v<;>rfl
def p_a(ns cs):nv (.a ns) (.agg cs)=.agg (ni ns cs):=Qj
def QvL(cs):ni [] cs=cs:=by cases cs<;>rfl
def QuQ(n ns c cs):ni (n::ns) (c::cs)=uf n c::ni ns cs:=Qj
def QwD(n):uf (n+1) .nil=.imm (n+1) []:=Qj
def Qvu:uf 0 .nil=.nil:=Qj
def Qyx(n c x):uf n (.i c x)=.i c x:=Qj
def Qu7(n x):uf n (.b x)=.b x:=Qj
def Qx2(n x):uf n (.s x)=.s x:=Qj
def Qyq(n m r):uf n (.imm m r)=.imm m r:=Qj
def Qvz:K6 []=[]:=Qj
def QvT(c cs):K6 (c::cs)=aD c++K6 cs:=Qj
def Qql(j):aD (.sl j)=[j]:=Qj
def QlO(j a b):aD (.ptr j a b)=[j]:=Qj
def QqB(js j a b):Hh js (.ptr j a b)=(F6 js j).map λi=>.ptr i a b:=Qj
def Qvq(K js es):I2 K js es=Bz K js es++PG js es:=Qj
def Qux(es):PG [] es=es:=Qj
def Qub(j js e es):PG (j::js) (e::es)=PG js es:=Qj
def QxT(k i):IS [] k i=k+i:=Qj
def Quo(j js k):IS (j::js) k 0=j:=Qj
def Qyy(j js k):IS (j::js) k 1=IS js k 0:=Qj
def Quy(j js k):IS (j::js) k 2=IS js k 1:=Qj
def Qt6(j js k):IS (j::js) k 3=IS js k 2:=Qj
def Qum(j js k):IS (j::js) k 4=IS js k 3:=Qj
def Qt2(j js k):IS (j::js) k 5=IS js k 4:=Qj
def Qx5(j js k):IS (j::js) k 6=IS js k 5:=Qj
def Qv4(j js k):IS (j::js) k 7=IS js k 6:=Qj
def Qwa(j js k):IS (j::js) k 8=IS js k 7:=Qj
def QtW(j js k):IS (j::js) k 9=IS js k 8:=Qj
def QwY(j js k):IS (j::js) k 10=IS js k 9:=Qj
def QvD(j js k):IS (j::js) k 11=IS js k 10:=Qj
def Qu1(j js k):IS (j::js) k 12=IS js k 11:=Qj
def Quq(j js k):IS (j::js) k 13=IS js k 12:=Qj
def Qxa(j js k):IS (j::js) k 14=IS js k 13:=Qj
def Qv3(j js k):IS (j::js) k 15=IS js k 14:=Qj
def QwF(j js k):IS (j::js) k 16=IS js k 15:=Qj
def Qvi(js k c n):Ft js k (.i c n)=.i c n:=by simp[Ft]
def Qxy(js k x):Ft js k (.b x)=.b x:=by simp[Ft]
def QvO(js k x):Ft js k (.s x)=.s x:=by simp[Ft]
def Qxb(js k):Ft js k .nil=.nil:=by simp[Ft]
def QxM(js k n r):Ft js k (.imm n r)=.imm n r:=by simp[Ft]
def Qnm(js k i):Ft js k (.sl i)=.sl (IS js k i):=by simp[Ft]
def QlD(js k i a b):Ft js k (.ptr i a b)=.ptr (IS js k i) a b:=by simp[Ft]
def QnT(js k cs):Ft js k (.agg cs)=.agg (LZ js k cs):=by simp[Ft]
def Qts(js k cs):Ft js k (.tup cs)=.tup (LZ js k cs):=by simp[Ft]
def Qvx(js k):LZ js k []=[]:=by simp[LZ]
def Qt9(js k c cs):LZ js k (c::cs)=Ft js k c::LZ js k cs:=by simp[LZ]
def Qu9(m c n):WH m (.i c n)=true:=Qj
def Qt4(m x):WH m (.b x)=true:=Qj
def Qvn(m x):WH m (.s x)=true:=Qj
def QxY(m):WH m .nil=true:=Qj
def Qw4(m n r):WH m (.imm n r)=true:=Qj
def QpE(m i):WH m (.sl i)=Nat.ble (i+1) m:=Qj
def QsK(m i a b):WH m (.ptr i a b)=Nat.ble (i+1) m:=Qj
def Qtz(m cs):WH m (.agg cs)=d9 m cs:=Qj
def QoF(m cs):WH m (.tup cs)=d9 m cs:=Qj
def Qup(m):d9 m []=true:=Qj
def QwG(m c cs):d9 m (c::cs)=(WH m c&&d9 m cs):=Qj
def QvS(c n):clc (.i c n)=true:=Qj
def Qwe(x):clc (.b x)=true:=Qj
def QsE(x):clc (.s x)=true:=Qj
def Qxc:clc .nil=true:=Qj
def Qwu(n r):clc (.imm n r)=true:=Qj
def Qr1:iz []=true:=Qj
def Qsl(c cs):iz (c::cs)=(clc c&&iz cs):=Qj
def Qus:PU []=true:=Qj
def Qt0(n r K):PU (some (.lst n r)::K)=PU K:=Qj
def QlK(cs K):PU (some (.box cs)::K)=(iz cs&&PU K):=Qj
def Qh7(cs):aD (.agg cs)=K6 cs:=Qj
def QuA(c n):aD (.i c n)=[]:=Qj
def QxU(x):aD (.b x)=[]:=Qj
def Qpx(x):aD (.s x)=[]:=Qj
def Qv8:aD .nil=[]:=Qj
def Qwi(n r):aD (.imm n r)=[]:=Qj
def Qwv(g l):aD (.clo g l)=[]:=Qj
def QvC(js):Hb js []=some []:=Qj
def QtY(js c cs):Hb js (c::cs)=(Hh js c).bind λc'=>(Hb js cs).map (c'::·):=Qj
def QmZ(js j):Hh js (.sl j)=(F6 js j).map .sl:=Qj
def QkY(js cs):Hh js (.agg cs)=(Hb js cs).map .agg:=Qj
def Qye(js c n):Hh js (.i c n)=some (.i c n):=Qj
def Qx8(js x):Hh js (.b x)=some (.b x):=Qj
def Qpb(js x):Hh js (.s x)=some (.s x):=Qj
def Qwt(js):Hh js .nil=some .nil:=Qj
def Qwn(js n r):Hh js (.imm n r)=some (.imm n r):=Qj
def Qx9(js g):Hh js (.clo g [])=some (.clo g []):=Qj
def UZ(x y:Nat):Nat.beq x y=(x==y):=by rw[Bool.eq_iff_iff];simp
def QxQ(x l j):F6 (x::l) j=zP (x==j) (some 0) ((F6 l j).map (·+1)) ():=by rw[←UZ];rfl
def Qx6(K):Z4 K []=[]:=Qj
def QvF(K j js):Z4 K (j::js)=kg K j::Z4 K js:=Qj
def Qww(K es):Bz K [] es=K:=by cases es<;>rfl
def QwR(K j js e es):Bz K (j::js) (e::es)=Bz (K.set j e) js es:=Qj
def Qve:mM []=true:=Qj
def QwC(n r K):mM (some (.lst n r)::K)=mM K:=Qj
def Qud(c n):AV.scal (.i c n)=true:=Qj
def QwP(x):AV.scal (.b x)=true:=Qj
def QvX(x):AV.scal (.s x)=true:=Qj
def QvI(c n):AV.flat (.i c n)=true:=Qj
def Qun(x):AV.flat (.b x)=true:=Qj
def Qur(x):AV.flat (.s x)=true:=Qj
def Qwr:AV.flat (.tup [])=true:=Qj
def QuO:xW .one=true:=Qj
def w_p(x g j i o)(k:AV→KS→Option β)(l):onp D f K (.ptr j i o) x g k l=onj D f K x g j i o (kg K j) k ():=Qj
def Qt3(x g j i o q r)(k:AV→KS→Option β)(l):onj D f K x g j i o (some (.lst q r)) k l=onx D f K x g j i o q r ((VI r i).drop o) k ():=Qj
def w_x(x g j i o q r m rs cs)(k:AV→KS→Option β)(l):onx D f K x g j i o q r (.own m rs::cs) k l=V9 x.scal (Ad (D.a g [some (.lst m rs)] [.sl 0,x]) (λs=>onr D f K j i o q r s k ()) ()) ():=Qj
def Qw1(u us ops d o t p af r)(k:Fr→KS→Option β)(l):PA P D ops (u::us) (⟨some d,o,t,p,af,none⟩::r) f K k l=ER P D o f K (λv K'=>UB v (λv=>PA P D ops us r (up f d v) K' k ()) ()) ():=Qj
def Qfb(d:Option Tmp)(v:AV)(f:Fr)(k:Fr→Option β)(_:Lk (f,k)):Option β:=match d with
 |some d=>UB v (λv=>k (up f d v)) ()
 |none=>k f
def Qe4(d v f)(k:Fr→Option β)(l):Qfb (some d) v f k l=UB v (λv=>k (up f d v)) ():=Qj
def Qyj(ops d t p y1 p1 a1 e x y2 p2 a2 dst g d' e' ts y3 p3 a3 r)(k:Fr→KS→Option β)(l):PA P D ops [] (⟨some d,.load t p,y1,p1,a1,none⟩::⟨some e,.move x,y2,p2,a2,none⟩::⟨dst,.call ⟨.value (.func g),List.toArray [.tmp d',.tmp e'],ts⟩,y3,p3,a3,none⟩::r) f K k l =
  V9 (xW (tk P t)&&((d==d')&&((e==e')&&!(d==e)))) (onp D f K (ev f p) (ev (up f d (.sl K.length)) x) g (λv K'=>Qfb dst v (up (up f d (.sl K.length)) e (ev (up f d (.sl K.length)) x)) (λf=>MY P D ops r f K' k ()) ()) ()) ():=by rw[←UZ,←UZ,←UZ];cases dst<;>rfl
def Qq2(a b l):ER P D (.makeInterface a b) f K k l=none:=Qj
def Qmx(a l):ER P D (.panic a) f K k l=none:=Qj
def fR(t len ps l):HQ P D (.buildSlice t len ps) f K k l=ER P D (.buildSlice t len ps) f K k ():=Qj
def ml(o:Option (List Int))(K:KS)(j:Nat)(k:AV→KS→Option β)(_:Lk k):Option β:=match o with
 |some xs=>V9 (decide (xs.length<4611686018427387904)) (Jp (K.set j none++[some (.lst 1 ((Zz xs).map cI))]) (λK'=>k (.sl K.length) K') ()) ()
 |none=>none
def zK(e:Option QE)(K:KS)(j:Nat)(k:AV→KS→Option β)(_:Lk k):Option β:=match e with
 |some (.lst 1 rows)=>ml (Hr rows) K j k ()
 |_=>none
def QvR(K:KS)(j)(k:AV→KS→Option β)(l):cl K [.sl j] k l=zK (kg K j) K j k ():=Qj
def Qrr(r)(K:KS)(j)(k:AV→KS→Option β)(l):zK (some (.lst 1 r)) K j k l=ml (Hr r) K j k ():=Qj
def QjL(xs)(K:KS)(j)(k:AV→KS→Option β)(l):ml (some xs) K j k l=V9 (decide (xs.length<4611686018427387904)) (Jp (K.set j none++[some (.lst 1 ((Zz xs).map cI))]) (λK'=>k (.sl K.length) K') ()) ():=Qj
def ma(o:Option (List Int))(K:KS)(j:Nat)(k:AV→KS→Option β)(_:Lk k):Option β:=match o with
 |some xs=>V9 (decide (xs.length<4611686018427387904)) (Jp (K.set j (some (.lst 1 ((Al xs).map cI)))) (λK=>k (.tup []) K) ()) ()
 |none=>none
def xM(e:Option QE)(K:KS)(j:Nat)(k:AV→KS→Option β)(_:Lk k):Option β:=match e with
 |some (.lst 1 rows)=>ma (Hr rows) K j k ()
 |_=>none
def Qwh(K:KS)(j)(k:AV→KS→Option β)(l):eK K [.sl j] k l=xM (kg K j) K j k ():=Qj
def Qrt(r)(K:KS)(j)(k:AV→KS→Option β)(l):xM (some (.lst 1 r)) K j k l=ma (Hr r) K j k ():=Qj
def Qht(xs)(K:KS)(j)(k:AV→KS→Option β)(l):ma (some xs) K j k l=V9 (decide (xs.length<4611686018427387904)) (Jp (K.set j (some (.lst 1 ((Al xs).map cI)))) (λK=>k (.tup []) K) ()) ():=Qj
def lU:∀xs:List Int,Hr (xs.map λx=>[.i .i64 x])=some xs
 |[]=>rfl
 |x::xs=>by rw[List.map_cons,Hr,lU xs];rfl
def xA(P:Program)(D:Orc)(a:Ann)(id:Nat)(ops:Array Oper)(o:Option (List Nat))(Q:KT β)(f:Fr)(K:KS)(_:Lk (ops,Q,f)):Option β:=bY P D a id ops (lc ops o) Q f K ()
def Qds(id ol l):XY P D a (.region id (List.toArray ol) true) Q f K l=ofz (lk a.fz id) (lk a.fc id) f K (λf K=>SX P D a id (lk a.av id) (List.toArray ol) Q f K ()) ():=Qj
def QoR(id ol l):SX P D a id none (List.toArray ol) Q f K l=jz P D a id (lk a.eb id) (List.toArray ol) Q f K ():=Qj
def Qrf(id vs ol l):SX P D a id (some vs) (List.toArray ol) Q f K l=lK vs P D a id (lk a.ot id) (List.toArray ol) Q f K ():=Qj
def Qpi(id vs ol l):lK vs P D a id none (List.toArray ol) Q f K l=qI vs P D (List.toArray ol) (lk a.ord id) Q f K ():=Qj
def Qrh(id vs t ops l):lK vs P D a id (some t) ops Q f K l=Gp vs P D ops t f K (λf K=>Q .normal f K) ():=Qj
def QsA(vs ol l):qI vs P D (List.toArray ol) none Q f K l=C1 vs P D (List.toArray ol) ol f K (λf K=>Q .normal f K) ():=Qj
def Qo0(id ops l):jz P D a id none ops Q f K l=NC P D a id ops (lk a.ot id) Q f K ():=Qj
def QgL(P:Program)(D:Orc)(a:Ann)(id:Nat)(ol:List Oper)(Q:KT β)(f:Fr)(K:KS)(_:Lk (Q,f)):Option β:=NC P D a id (List.toArray ol) (lk a.ot id) Q f K ()
def QqE(id ds ol l):jz P D a id (some ds) (List.toArray ol) Q f K l=QgL P D a id (ol.map (ZA ds)) Q f K ():=by
 show NC P D a id ((List.toArray ol).map (ZA ds)) (lk a.ot id) Q f K ()=NC P D a id (List.toArray (ol.map (ZA ds))) (lk a.ot id) Q f K ();rw[List.map_toArray]
def c_M(id o r l):QgL P D a id (o::r) Q f K l=NC P D a id (List.toArray (o::r)) (lk a.ot id) Q f K ():=Qj
def QqH(ds d t y p e g):ZA ds ⟨d,.buildSlice t 0 (List.toArray []),y,p,e,g⟩=⟨d,.move (.const (.slice none 0 0)),y,p,e,g⟩:=Qj
def Qn0(ds d t m ps y p e g):ZA ds ⟨d,.buildSlice t (m+1) ps,y,p,e,g⟩=⟨d,.buildSlice t (m+1) ps,y,p,e,g⟩:=Qj
def QhN(ds d s x ts y p e g):ZA ds ⟨d,.call ⟨.builtin .append,List.toArray [.tmp s,x],ts⟩,y,p,e,g⟩=cond (ds.contains s) ⟨d,.call ⟨.builtin .append,List.toArray [.const (.slice none 0 0),x],ts⟩,y,p,e,g⟩ ⟨d,.call ⟨.builtin .append,List.toArray [.tmp s,x],ts⟩,y,p,e,g⟩:=Qj
def QjF(ds d xs ts y p e g):ZA ds ⟨d,.call ⟨.builtin .len,xs,ts⟩,y,p,e,g⟩=⟨d,.call ⟨.builtin .len,xs,ts⟩,y,p,e,g⟩:=Qj
def QdY(ds d v xs ts y p e g):ZA ds ⟨d,.call ⟨.value v,xs,ts⟩,y,p,e,g⟩=⟨d,.call ⟨.value v,xs,ts⟩,y,p,e,g⟩:=Qj
def Qcm(ds d x y p e g):ZA ds ⟨d,.move x,y,p,e,g⟩=⟨d,.move x,y,p,e,g⟩:=Qj
def Qj5(ds d x y p e g):ZA ds ⟨d,.assign x,y,p,e,g⟩=⟨d,.assign x,y,p,e,g⟩:=Qj
def Qb7(ds d t x y p e g):ZA ds ⟨d,.load t x,y,p,e,g⟩=⟨d,.load t x,y,p,e,g⟩:=Qj
def w8(ds d t x z y p e g):ZA ds ⟨d,.store t x z,y,p,e,g⟩=⟨d,.store t x z,y,p,e,g⟩:=Qj
def Ql3(ds d t x i y p e g):ZA ds ⟨d,.fieldAddr t x i,y,p,e,g⟩=⟨d,.fieldAddr t x i,y,p,e,g⟩:=Qj
def Qng(ds d t x i y p e g):ZA ds ⟨d,.indexAddr t x i,y,p,e,g⟩=⟨d,.indexAddr t x i,y,p,e,g⟩:=Qj
def xw(ds d t ps y p e g):ZA ds ⟨d,.build t ps,y,p,e,g⟩=⟨d,.build t ps,y,p,e,g⟩:=Qj
def QkL(ds d o t x z u y p e g):ZA ds ⟨d,.binOp o t x z u,y,p,e,g⟩=⟨d,.binOp o t x z u,y,p,e,g⟩:=Qj
def Qjo(ds d x y p e g):ZA ds ⟨d,.nilCheck x,y,p,e,g⟩=⟨d,.nilCheck x,y,p,e,g⟩:=Qj
def QqT(ds d o t x y p e g):ZA ds ⟨d,.unOp o t x,y,p,e,g⟩=⟨d,.unOp o t x,y,p,e,g⟩:=Qj
def Qh2(ds d t x i y p e g):ZA ds ⟨d,.field t x i,y,p,e,g⟩=⟨d,.field t x i,y,p,e,g⟩:=Qj
def Qhr(ds d x i y p e g):ZA ds ⟨d,.extract x i,y,p,e,g⟩=⟨d,.extract x i,y,p,e,g⟩:=Qj
def Qhq(ds d t x y p e g):ZA ds ⟨d,.box t x,y,p,e,g⟩=⟨d,.box t x,y,p,e,g⟩:=Qj
def y7(ds d t y p e g):ZA ds ⟨d,.alloc t,y,p,e,g⟩=⟨d,.alloc t,y,p,e,g⟩:=Qj
def uu(ds d t x lo hi mx y p e g):ZA ds ⟨d,.slice t x lo hi mx,y,p,e,g⟩=⟨d,.slice t x lo hi mx,y,p,e,g⟩:=Qj
def yL(id ol l):NC P D a id (List.toArray ol) none Q f K l=xA P D a id (List.toArray ol) (lk a.ord id) Q f K ():=Qj
def QaD(id ops t l):NC P D a id ops (some t) Q f K l=I9 P D ops t f K (λf K=>Q .normal f K) ():=Qj
def m9(P:Program)(D:Orc)(ops:Array Oper)(o:Option Oper)(t:OT)(f:Fr)(K:KS)(k:Fr→KS→Option β)(_:Lk (ops,f,k)):Option β:=match o with
 |some o=>Im P D ops [o] f K (λf K=>I9 P D ops t f K k ()) ()
 |none=>none
def zX(ops)(k:Fr→KS→Option β)(l):I9 P D ops .done f K k l=k f K:=Qj
def Qmf(ol i t)(k:Fr→KS→Option β)(l):I9 P D (List.toArray ol) (.one i t) f K k l=m9 P D (List.toArray ol) (ol[i]?) t f K k ():=by
 have:(List.toArray ol)[i]?=ol[i]?:=by simp
 unfold I9 m9;rw[this];cases ol[i]?<;>rfl
def uT(ops o t)(k:Fr→KS→Option β)(l):m9 P D ops (some o) t f K k l=Im P D ops [o] f K (λf K=>I9 P D ops t f K k ()) ():=Qj
def uQ(vs ops)(k:Fr→KS→Option β)(l):Gp vs P D ops .done f K k l=k f K:=Qj
def gu(vs:List Nat)(P:Program)(D:Orc)(ops:Array Oper)(o:Option Oper)(t:OT)(f:Fr)(K:KS)(k:Fr→KS→Option β)(_:Lk (ops,f,k)):Option β:=match o with
 |some o=>C1 vs P D ops [o] f K (λf K=>Gp vs P D ops t f K k ()) ()
 |none=>none
def Qf7(vs ol i t)(k:Fr→KS→Option β)(l):Gp vs P D (List.toArray ol) (.one i t) f K k l=gu vs P D (List.toArray ol) (ol[i]?) t f K k ():=by
 have:(List.toArray ol)[i]?=ol[i]?:=by simp
 unfold Gp gu;rw[this];cases ol[i]?<;>rfl
def yP(vs ops o t)(k:Fr→KS→Option β)(l):gu vs P D ops (some o) t f K k l=C1 vs P D ops [o] f K (λf K=>Gp vs P D ops t f K k ()) ():=Qj
def QgC(vs ops a b)(k:Fr→KS→Option β)(l):Gp vs P D ops (.alt a b) f K k l=tt (Gp vs P D ops a f K k ()) (Gp vs P D ops b f K k ()):=Qj
def QpP(ops a b)(k:Fr→KS→Option β)(l):I9 P D ops (.alt a b) f K k l=tt (I9 P D ops a f K k ()) (I9 P D ops b f K k ()):=Qj
def jG(x:Option β):tt x x=x:=by simp[tt]
def th(p q:Bool)(x:Option β)(l l':Unit):V9 p (V9 q x l) l'=V9 q (V9 p x l) l':=by cases p<;>cases q<;>rfl
def Qja(id ol l):xA P D a id (List.toArray ol) none Q f K l=bY P D a id (List.toArray ol) ol Q f K ():=Qj
def pk:List Oper→List Nat→List Oper
 |_,[]=>[]
 |ol,i::is=>match ol[i]? with|some o=>o::pk ol is|none=>pk ol is
def Qf2(P:Program)(D:Orc)(a:Ann)(id:Nat)(ops:Array Oper)(l:List Oper)(Q:KT β)(f:Fr)(K:KS)(_:Lk (ops,Q,f)):Option β:=bY P D a id ops l Q f K ()
def eW(ol is):lc (List.toArray ol) (some is)=pk ol is:=by
 show is.filterMap (λi=>(List.toArray ol)[i]?)=_
 induction is with
 |nil=>rfl
 |cons i is ih =>
  rw[pk,List.filterMap_cons];have:(List.toArray ol)[i]?=ol[i]?:=by simp
  rw[this];cases ol[i]? with
  |none=>simpa using ih
  |some o=>rw[←ih]
def QhU(id ol is l):xA P D a id (List.toArray ol) (some is) Q f K l=Qf2 P D a id (List.toArray ol) (pk ol is) Q f K ():=by
 show bY P D a id _ (lc _ _) Q f K ()=_;rw[eW];rfl
def QfA(vs:List Nat)(P:Program)(D:Orc)(ops:Array Oper)(l:List Oper)(Q:KT β)(f:Fr)(K:KS)(_:Lk (ops,Q,f)):Option β:=C1 vs P D ops l f K (λf K=>Q .normal f K) ()
def QtV(vs ol is l):qI vs P D (List.toArray ol) (some is) Q f K l=QfA vs P D (List.toArray ol) (pk ol is) Q f K ():=by
 show C1 vs P D _ (lc _ _) f K _ ()=_;rw[eW];rfl
def c_K(vs ops o r l):QfA vs P D ops (o::r) Q f K l=C1 vs P D ops (o::r) f K (λf K=>Q .normal f K) ():=Qj
def Qtq(ol):pk ol []=[]:=Qj
def pkO(o:Option Oper)(l:List Oper):List Oper:=match o with|some o=>o::l|none=>l
def QtD(ol i is):pk ol (i::is)=pkO (ol[i]?) (pk ol is):=by rw[pk];cases ol[i]?<;>rfl
def Qre(o l):pkO (some o) l=o::l:=Qj
def Qh3(id ops o r l):Qf2 P D a id ops (o::r) Q f K l=bY P D a id ops (o::r) Q f K ():=Qj
def QnZ{α:Type}(x:α)(l:List α):(x::l)[0]?=some x:=Qj
def QrD{α:Type}(x:α)(l:List α)(i:Nat):(x::l)[i+1]?=l[i]?:=Qj
def Qti{α:Type}(l:List α)(i:Nat):(List.toArray l)[i]?=l[i]?:=by simp
def qY{α γ:Type}(x:α)(g:α→Option γ):(some x).bind g=g x:=Qj
def wx(P:Program)(D:Orc)(j:Option (Nat×Nat×Nat))(ops:Array Oper)(l:List Oper)(Q:KT β)(f:Fr)(K:KS)(_:Lk (l,Q,f)):Option β :=
 match j with
 |none=>Im P D ops l f K (λf K=>Q .normal f K) ()
 |some (s,lo,hi)=>fZ (Im P D ops l f K (λf _=>asB (f s)) ()) (λc=>Q .normal (up (tH lo hi f) s (.b c)) K) ()
def Qn4(id ops ol l):bY P D a id ops ol Q f K l=wx P D (lk a.jn id) ops ol Q f K ():=Qj
def QaR(ops ol l):wx P D none ops ol Q f K l=Im P D ops ol f K (λf K=>Q .normal f K) ():=Qj
def vU(s lo hi ops ol l):wx P D (some (s,lo,hi)) ops ol Q f K l=fZ (Im P D ops ol f K (λf _=>asB (f s)) ()) (λc=>Q .normal (up (tH lo hi f) s (.b c)) K) ():=Qj
def QeJ(o)(k:Bool→Option β)(l):fZ o k l=o.bind k:=Qj
def QmW(b)(k:Bool→Option β)(l):fZ (WL b) k l=k b:=Qj
def Qbm(b x y):cond b (WL x) (WL y)=WL (cond b x y):=by cases b<;>rfl
def Qt8(b):WL b=some b:=Qj
def Qqp(a b:Bool):cond a b false=(a&&b):=by cases a<;>rfl
def QvZ(a b:Bool):cond a true b=(a||b):=by cases a<;>rfl
def Qhn(a b:Bool):cond a false b=(!a&&b):=by cases a<;>rfl
def QmI(b):asB (.b b)=WL b:=Qj
def Qgt(D:Orc)(t:Nat)(z:List Nat)(la:Option LA)(Q:KT β)(f:Fr)(K:KS)(_:Lk Q):Option β :=
 match la with
 |some la=>Lg z la.sl la.rg f K (λf K=>Ad (D.l t f K) (λo=>Q o.1 o.2.1 o.2.2) ()) ()
 |none=>none
def QjM(c l):XY P D a (.loop c) Q f K l=Qgt D (MR c) a.ak (lk a.lp (MR c)) Q f K ():=Qj
def pJ(t z la l):Qgt D t z (some la) Q f K l=Lg z la.sl la.rg f K (λf K=>Ad (D.l t f K) (λo=>Q o.1 o.2.1 o.2.2) ()) ():=Qj
def S5(id o d):MR (.region id o d)=id:=Qj
def tu(x y):MR (.seq x y)=MR x:=Qj
def mN(c x y):MR (.cond c x y)=MR x:=Qj
def km(i x):MR (.block i x)=MR x:=Qj
def lZ(x):MR (.loop x)=MR x:=Qj
def y6(k:Fr→KS→Option β)(Q f K):lh k Q .normal f K=k f K:=Qj
def xm(k:Fr→KS→Option β)(Q f K):lh k Q .ret f K=Q .ret f K:=Qj
def uw(k:Fr→KS→Option β)(Q id f K):lh k Q (.exit id) f K=Q (.exit id) f K:=Qj
def Qbq(i f K):sx i Q .normal f K=Q .normal f K:=Qj
def Qer(i f K):sx i Q .ret f K=Q .ret f K:=Qj
def QcJ(i j f K):sx i Q (.exit j) f K=zP (j==i) (Q .normal f K) (Q (.exit j) f K) ():=Qj
def QsU(ops)(k:Fr→KS→Option β)(l):Im P D ops [] f K k l=k f K:=Qj
def QiR(ops r)(k:Fr→KS→Option β)(d op t pos after l):Im P D ops (⟨some d,op,t,pos,after,none⟩::r) f K k l=ER P D op f K (λv K'=>UB v (λv=>Im P D ops r (up f d v) K' k ()) ()) ():=Qj
def QcM(ops r)(k:Fr→KS→Option β)(op t pos after l):Im P D ops (⟨none,op,t,pos,after,none⟩::r) f K k l=ER P D op f K (λv K'=>Im P D ops r f K' k ()) ():=Qj
def c_g(ops r)(k:Fr→KS→Option β)(d op t pos after j want l):Im P D ops (⟨some d,op,t,pos,after,some (j,want)⟩::r) f K k l =
  ogd ((ops[j]?).bind (·.dst)) want f (λf=>ER P D op f K (λv K'=>UB v (λv=>Im P D ops r (up f d v) K' k ()) ()) ()) (λf=>UB (.tup []) (λv=>Im P D ops r (up f d v) K k ()) ()) ():=Qj
def Qvb(ops r)(k:Fr→KS→Option β)(op t pos after j want l):Im P D ops (⟨none,op,t,pos,after,some (j,want)⟩::r) f K k l =
  ogd ((ops[j]?).bind (·.dst)) want f (λf=>ER P D op f K (λv K'=>Im P D ops r f K' k ()) ()) (λf=>Im P D ops r f K k ()) ():=Qj
def QbD(v:AV)(d:Nat)(want:Bool)(f:Fr)(yes no:Fr→Option β)(_:Lk (f,yes,no)):Option β :=
 match v with
 |.b x=>cond x (cond want (yes (up f d (.b true))) (no (up f d (.b true)))) (cond want (no (up f d (.b false))) (yes (up f d (.b false))))
 |.tup []=>no f
 |_=>none
def Qvd(d want)(yes no:Fr→Option β)(l):ogd (some d) want f yes no l=QbD (f d) d want f yes no ():=by
 cases want<;>rfl
def Qf6(b d)(yes no:Fr→Option β)(l):QbD (.b b) d true f yes no l=cond b (yes (up f d (.b true))) (no (up f d (.b false))):=Qj
def Qgq(b d)(yes no:Fr→Option β)(l):QbD (.b b) d false f yes no l=cond b (no (up f d (.b true))) (yes (up f d (.b false))):=Qj
def QfW(d w)(yes no:Fr→Option β)(l):QbD (.tup []) d w f yes no l=no f:=Qj
def Qkq(x l):ER P D (.move x) f K k l=k (ev f x) K:=Qj
def wG(x l):ER P D (.assign x) f K k l=k (ev f x) K:=Qj
def QkB(c x y l):ER P D (.pick c x y) f K k l=bQ (ev f c) (ev f x) (ev f y) (λv=>k v K) ():=Qj
def Qc1(t l):ER P D (.alloc t) f K k l=aC K (WA P t) k ():=Qj
def QpL(t v l):ER P D (.box t v) f K k l=nB K (ev f v) k ():=Qj
def QdG(t ps l):ER P D (.build t (List.toArray ps)) f K k l=Ur K (YN P t) (ps.map λp=>(p.1,ev f p.2)) (λv=>k v K) ():=Qj
def uy(t len ps l):ER P D (.buildSlice t len (List.toArray ps)) f K k l=OF (zB (IY P t)) (IY P t) K (LQ P t) len (ps.map λp=>(p.1,ev f p.2)) k ():=Qj
def QjY(t x l):ER P D (.load t x) f K k l=MG (tk P t) (Z7 K (ev f x)) (λv=>k v K) ():=Qj
def Qed(t p v l):ER P D (.store t p v) f K k l=Su (flT P t) (slz P 9 t) K (tk P t) (ev f p) (ev f v) (λK=>k .u K) ():=Qj
def QlG(op t x y s l):ER P D (.binOp op t x (.tmp y) s) f K k l=Bb (Yt P t) op (ev f x) (ev f (.tmp y)) (λv=>k v K) ():=Qj
def QiW(op t x c n s l):ER P D (.binOp op t x (.const (.int c n)) s) f K k l=Bb (Yt P t) op (ev f x) (ev f (.const (.int c n))) (λv=>k v K) ():=Qj
def Qif(op t x c s l):ER P D (.binOp op t x (.const (.bool c)) s) f K k l=Bb (Yt P t) op (ev f x) (ev f (.const (.bool c))) (λv=>k v K) ():=Qj
def Qia(op t x c s l):ER P D (.binOp op t x (.const (.string c)) s) f K k l=Bb (Yt P t) op (ev f x) (ev f (.const (.string c))) (λv=>k v K) ():=Qj
def Qjg(op t x s l)(h:K5 P t=true):ER P D (.binOp op t x (.const (.slice none 0 0)) s) f K k l=Uz op (ev f x) (λv=>k v K) ():=by simp[ER,Gn,h]
def QnR(g caps l):ER P D (.makeFunc (.func g) (List.toArray []) (List.toArray caps)) f K k l=k (.clo g (caps.map (ev f))) K:=by simp[ER]
def Qr9(s t x l)(h:bsl P s=true):ER P D (.convert s t x) f K k l=jT K (ti P t) (ev f x) (λv=>k v K) ():=by simp[ER,h]
def QlP(s t x l)(h:bsl P s=false)(h2:tok P s=true):ER P D (.convert s t x) f K k l=ls (ti P t) (ev f x) (λv=>k v K) ():=by simp[ER,h,h2]
def QlF(t x lo hi l):ER P D (.slice t x lo hi none) f K k l=Pr (ti P t) (ev f x) (lo.map (ev f)) (hi.map (ev f)) (λv=>k v K) ():=Qj
def Qs7(t x i l):ER P D (.index t x i) f K k l=xS (ti P t) (ev f x) (ev f i) (λv=>k v K) ():=Qj
def Qtp(x l):ER P D (.nilCheck x) f K k l=yo K (ev f x) (λv=>k v K) ():=Qj
def QwO(op t x l):ER P D (.unOp op t x) f K k l=oun op (ev f x) (λv=>k v K) ():=Qj
def QwL(t x fl l):ER P D (.fieldAddr t x fl) f K k l=tU K (ev f x) (Zb P t fl) (λv=>k v K) ():=Qj
def Qt5(t x i l):ER P D (.indexAddr t x i) f K k l=kU K (ti P t) (ev f x) (ev f i) (λv=>k v K) ():=Qj
def Qpn(t x i l):ER P D (.field t x i) f K k l=wz (Zb P t i) (ev f x) (λv=>k v K) ():=Qj
def Qrq(x i l):ER P D (.extract x i) f K k l=u0 (ev f x) i (λv=>k v K) ():=Qj
def Qmj(x t ts l):ER P D (.call ⟨.builtin .len,List.toArray [x],List.toArray (t::ts)⟩) f K k l=jB K (ti P t) (ev f x) (λv=>k v K) ():=Qj
def Qme(x y ts l):ER P D (.call ⟨.builtin .min,List.toArray [x,y],ts⟩) f K k l=zo (ev f x) (ev f y) (λv=>k v K) ():=Qj
def QpV(x y ts l):ER P D (.call ⟨.builtin .max,List.toArray [x,y],ts⟩) f K k l=xy (ev f x) (ev f y) (λv=>k v K) ():=Qj
def QgX(g args ts l):ER P D (.call ⟨.value g,List.toArray args,ts⟩) f K k l=nX (ev f g) (λg caps=>MO D g K (args.map (ev f)++caps) k ()) ():=Qj
def Qob(g caps)(k:FuncId→List AV→Option β)(l):nX (.clo g caps) k l=k g caps:=Qj
def Qcq(g vs l):MO D g K vs k l=Ad (D.p g (dA (D.z g) (If K vs))) (λx=>k (XH K.length x).1 (K++(XH K.length x).2)) ():=Qj
end
def QiU{β:Type}(o:Option Bool)(k:Bool→Option β)(_:Lk k):Option β:=match o with|some b=>k b|none=>none
section
variable{β:Type}{k:AV→Option β}{c:IntKind}{a b:Int}{te:Option (List CK)}
def Qhg(K j i o l):yo K (.ptr j i o) k l=qw (kg K j) (.ptr j i o) k ():=Qj
def QjC(e x l):qw (some e) x k l=k x:=Qj
def QkR(K n r i o l):yo K (.iptr n r i o) k l=k (.iptr n r i o):=Qj
def QgT(l):Bb te .and (.i c a) (.i c b) k l=k (.i c (em .and c a b)):=by simp[Bb,Nd]
def QoH(l):Bb te .or (.i c a) (.i c b) k l=k (.i c (em .or c a b)):=by simp[Bb,Nd]
def QlZ(l):Bb te .xor (.i c a) (.i c b) k l=k (.i c (em .xor c a b)):=by simp[Bb,Nd]
def Qtl(d l):Bb te .shl (.i c a) (.i d b) k l=V9 (decide (0≤b)) (k (.i c (shI .shl c a b))) ():=by simp[Bb,Nd]
def Qn3(d l):Bb te .shr (.i c a) (.i d b) k l=V9 (decide (0≤b)) (k (.i c (shI .shr c a b))) ():=by simp[Bb,Nd]
def QlL(l):Bb te .add (.i c a) (.i c b) k l=k (.i c (c.wrap (a+b))):=by simp[Bb,Nd]
def QlR(l):Bb te .sub (.i c a) (.i c b) k l=k (.i c (c.wrap (a-b))):=by simp[Bb,Nd]
def QrE(l):Bb te .mul (.i c a) (.i c b) k l=k (.i c (c.wrap (a*b))):=by simp[Bb,Nd]
def QrO(l):Bb te .quo (.i c a) (.i c b) k l=V9 (!decide (b=0)) (k (.i c (c.wrap (a.tdiv b)))) ():=by simp[Bb,Nd]
def QsQ(l):Bb te .rem (.i c a) (.i c b) k l=V9 (!decide (b=0)) (k (.i c (a.tmod b))) ():=by simp[Bb,Nd]
def Qp7(l):Bb te .eql (.i c a) (.i c b) k l=k (.b (decide (a=b))):=by simp[Bb,Nd]
def QlN(l):Bb te .neq (.i c a) (.i c b) k l=k (.b (!decide (a=b))):=by simp[Bb,Nd]
def Qss(l):Bb te .lss (.i c a) (.i c b) k l=k (.b (decide (a<b))):=by simp[Bb,Nd]
def Qlo(l):Bb te .leq (.i c a) (.i c b) k l=k (.b (decide (a≤b))):=by simp[Bb,Nd]
def Qpj(l):Bb te .gtr (.i c a) (.i c b) k l=k (.b (decide (b<a))):=by simp[Bb,Nd]
def Qmi(l):Bb te .geq (.i c a) (.i c b) k l=k (.b (decide (b≤a))):=by simp[Bb,Nd]
def Qqy(ks xs ys l):Bb (some ks) .eql (.agg xs) (.agg ys) k l=QiU (VS ks xs ys) (λb=>k (.b b)) ():=Qj
def QmF(ks xs ys l):Bb (some ks) .neq (.agg xs) (.agg ys) k l=QiU (VS ks xs ys) (λb=>k (.b (!b))) ():=Qj
def QrJ(x y l):Bb (some [.t]) .eql (.b x) (.b y) k l=k (.b (decide (x=y))):=Qj
def QmY(x y l):Bb (some [.t]) .neq (.b x) (.b y) k l=k (.b (!decide (x=y))):=Qj
def QmX(b)(k:Bool→Option β)(l):QiU (some b) k l=k b:=Qj
def Qg5(x y l):Bb te .add (.s x) (.s y) k l=V9 (VM x y) (k (.s (QS x y))) ():=by simp[Bb,VM,QS]
def QhD(x y l):Bb te .eql (.s x) (.s y) k l=k (.b (decide (x=y))):=by simp[Bb]
def QkT(x y l):Bb te .neq (.s x) (.s y) k l=k (.b (!decide (x=y))):=by simp[Bb]
def QfK(o:Option AV)(k:AV→Option β)(_:Lk k):Option β:=match o with|some c=>k c|none=>none
def QoU(cs i l):u0 (.tup cs) i k l=QfK (cs[i]?) k ():=Qj
def QkG(c l):QfK (some c) k l=k c:=Qj
def QsW:VS [] [] []=some true:=Qj
def Qp1(ks c x y xs ys):VS (.i::ks) (.i c x::xs) (.i c y::ys)=(VS ks xs ys).map (decide (x=y)&&·):=by simp[VS]
def QmC(ks x y xs ys):VS (.b::ks) (.b x::xs) (.b y::ys)=(VS ks xs ys).map (decide (x=y)&&·):=Qj
def QoD(ks x y xs ys):VS (.s::ks) (.s x::xs) (.s y::ys)=(VS ks xs ys).map (decide (x=y)&&·):=Qj
def Qmk(x l):oun .not (.b x) k l=k (.b (!x)):=Qj
def QrH(l):oun .neg (.i c a) k l=k (.i c (c.wrap (-a))):=Qj
def Qdn(x y:AV)(l):bQ (.b true) x y k l=k x:=Qj
def Qbt(x y:AV)(l):bQ (.b false) x y k l=k y:=Qj
def QdP(x y:Bool)(c:Bool)(l):bQ (.b c) (.b x) (.b y) k l=k (.b (cond c x y)):=by cases c<;>rfl
def Qr6(l):zo (.i c a) (.i c b) k l=k (.i c (if b<a then b else a)):=Qj
def Qrz(l):xy (.i c a) (.i c b) k l=k (.i c (if a<b then b else a)):=Qj
def Qqg(e:Option QE)(K:KS):kg (e::K) 0=e:=Qj
def QlY(e:Option QE)(K:KS)(j:Nat):kg (e::K) (j+1)=kg K j:=Qj
def QjR{α:Type}(e e':α)(K:List α):(e::K).set 0 e'=e'::K:=Qj
def QhR{α:Type}(e e':α)(K:List α)(j:Nat):(e::K).set (j+1) e'=e::K.set j e':=Qj
def QsC{α:Type}(e:α)(K L:List α):(e::K)++L=e::(K++L):=Qj
def Qii{α:Type}(L:List α):[]++L=L:=Qj
def QhZ{α:Type}:([]:List α).length=0:=Qj
def Qkr{α:Type}(e:α)(K:List α):(e::K).length=K.length+1:=Qj
def Qen{α:Type}(K:List α):K.drop 0=K:=Qj
def QcL{α:Type}(e:α)(K:List α)(n:Nat):(e::K).drop (n+1)=K.drop n:=Qj
def Qdm{α:Type}(K:List α):K.take 0=[]:=by simp
def QdX{α:Type}(e:α)(K:List α)(n:Nat):(e::K).take (n+1)=e::K.take n:=Qj
def si(r:List (List AV)):Int:=r.length
def uh(K e m n r l):jB K (.sl e m) (.imm n r) k l=k (.i .i64 (si r)):=Qj
def Qq1(n r)(k:AV→Option β)(l):Uz .eql (.imm n r) k l=Yj r.isEmpty (k (.b true)) (k (.b false)):=Qj
def QhP(n r)(k:AV→Option β)(l):Uz .neq (.imm n r) k l=Yj r.isEmpty (k (.b false)) (k (.b true)):=Qj
def QgW(x:Option β)(b):Yj b x x=x:=by cases b<;>simp[Yj,tt]
def Qi6(n:Nat)(R:List (List AV))(b:Nat)(m):Yj R.isEmpty (some (AV.own n [])) (V9 (decide (R.length*b≤140737488355328)) (some (AV.own n R)) m)=V9 (decide (R.length*b≤140737488355328)) (some (AV.own n R)) ():=by
 cases R with
 |nil=>simp[Yj,tt,V9]
 |cons r R=>rfl
def wc(K e m l):jB K (.sl e m) .nil k l=k (.i .i64 0):=Qj
def Qft(e:Option QE)(k:AV→Option β)(_:Lk k):Option β:=match e with|some e=>k (.i .i64 (si e.rows))|none=>none
def Qip(c d a l):ls (.int c) (.i d a) k l=k (.i c (c.wrap a)):=Qj
def nY(o:Option (List UInt8))(k:AV→Option β)(_:Lk k):Option β:=match o with|some s=>k (.s s)|none=>none
def xD(e:Option QE)(k:AV→Option β)(_:Lk k):Option β:=match e with|some (.lst 1 rows)=>nY (GN rows) k ()|_=>none
def QpM(K j l):jT K .str (.sl j) k l=xD (kg K j) k ():=Qj
def QkU(r l):xD (some (.lst 1 r)) k l=nY (GN r) k ():=Qj
def Qjp(s l):nY (some s) k l=k (.s s):=Qj
def QhA:GN []=some []:=Qj
def QeF(n r):GN ([.i .u8 n]::r)=(GN r).map (UInt8.ofNat n.toNat::·):=by
 show(match iU [.i .u8 n],GN r with|some x,some xs=>some (x::xs)|_,_=>none)=_
 simp only[iU];cases GN r<;>rfl
def Qbv(K e m j l):jB K (.sl e m) (.sl j) k l=Qft (kg K j) k ():=Qj
def vV(n r l):Qft (some (.lst n r)) k l=k (.i .i64 (si r)):=Qj
def vL(K x l):jB K .str (.s x) k l=k (.i .i64 (ln x)):=Qj
def QjX(K n r i p o t l):tU K (.iptr n r i p) (some (o,t)) k l=k (.iptr n r i (p+o)):=Qj
def QgK(e:Option QE)(v:AV)(k:AV→Option β)(_:Lk k):Option β:=match e with|some _=>k v|none=>none
def Qsk(K j i p o t l):tU K (.ptr j i p) (some (o,t)) k l=QgK (kg K j) (.ptr j i (p+o)) k ():=Qj
def QjZ(e v l):QgK (some e) v k l=k v:=Qj
def QiQ(K e m r kd i l):kU K (.sl e m) (.imm m r) (.i kd i) k l=V9 (Q1 r i) (k (.iptr m r i.toNat 0)) ():=by simp[kU]
def yU(e:Option QE)(m:Nat)(j:Nat)(i:Int)(k:AV→Option β)(_:Lk k):Option β:=match e with|some e=>if m=e.n then V9 (Q1 e.rows i) (k (.ptr j i.toNat 0)) ()else none|none=>none
def QsB(K e m j kd i l):kU K (.sl e m) (.sl j) (.i kd i) k l=yU (kg K j) m j i k ():=Qj
def Qj2(m r j i l):yU (some (.lst m r)) m j i k l=V9 (Q1 r i) (k (.ptr j i.toNat 0)) ():=by simp[yU,QE.n,QE.rows]
def Qgo(e:Option QE)(n:Nat)(i:Int)(p:AV)(k:AV→Option β)(_:Lk k):Option β:=match e with|some _=>V9 (gB n i) (k p) ()|none=>none
def Qhp(K e n m j r o kd i l):kU K (.arr n e m) (.ptr j r o) (.i kd i) k l=Qgo (kg K j) n i (.ptr j r (o+i.toNat*m)) k ():=Qj
def Qio(e n i p l):Qgo (some e) n i p k l=V9 (gB n i) (k p) ():=Qj
def Qkp(e m r h c l):Pr (.sl e m) (.imm m r) none (some (.i c h)) k l=V9 (Ff 0 h (si r)) (k (.imm m (cut r 0 h))) ():=by simp[Pr,bd,si]
def Qin(e m r h c l):Pr (.sl e m) (.imm m r) (some (.i c h)) none k l=V9 (Ff h (si r) (si r)) (k (.imm m (cut r h (si r)))) ():=by simp[Pr,bd,si]
def QjD(e m r h h' c c' l):Pr (.sl e m) (.imm m r) (some (.i c h)) (some (.i c' h')) k l=V9 (Ff h h' (si r)) (k (.imm m (cut r h h'))) ():=by simp[Pr,bd,si]
def Qg4(r h c l):Pr .str (.s r) none (some (.i c h)) k l=V9 (Ff 0 h (ln r)) (k (.s (cut r 0 h))) ():=by simp[Pr,bd,ln]
def Qg2(r h c l):Pr .str (.s r) (some (.i c h)) none k l=V9 (Ff h (ln r) (ln r)) (k (.s (cut r h (ln r)))) ():=by simp[Pr,bd,ln]
def Qg9(r h h' c c' l):Pr .str (.s r) (some (.i c h)) (some (.i c' h')) k l=V9 (Ff h h' (ln r)) (k (.s (cut r h h'))) ():=by simp[Pr,bd,ln]
def Qos(r i c l):xS .str (.s r) (.i c i) k l=V9 (Q1 r i) (k (.i .u8 ((gt r i).toNat:Int))) ():=Qj
class Strs (cs:List AV) (xs:outParam (List (List UInt8))):Prop where
 eq:cs=xs.map AV.s
instance:Strs [] []:=⟨rfl⟩
instance(x cs xs)[h:Strs cs xs]:Strs (.s x::cs) (x::xs):=⟨by rw[h.eq];rfl⟩
def QiB{cs:List AV}{xs:List (List UInt8)}[h:Strs cs xs](i:Int)(hi:gB cs.length i=true)(l):MG .one (cs.drop (0+i.toNat*1)) k l=k (.s (gt xs i)):=by
 have hcs:=h.eq;subst hcs;simp[gB]at hi;have h2:i.toNat<xs.length:=by omega
 rw[Nat.zero_add,Nat.mul_one,List.drop_eq_getElem_cons (by simpa using h2)]
 simp[MG,gt,List.getD_eq_getElem?_getD,h2]
def QxB(K n r i o):Z7 K (.iptr n r i o)=((VI r i).drop o).map ld:=Qj
def mV(e:Option QE)(i o:Nat):List AV:=match e with|some (.box cs)=>if i=0 then cs.drop o else[]|some (.lst _ rows)=>((VI rows i).drop o).map ld|none=>[]
def m_c(K j i o):Z7 K (.ptr j i o)=mV (kg K j) i o:=Qj
def Qkv(cs o):mV (some (.box cs)) 0 o=cs.drop o:=Qj
def Qkf(n r i o):mV (some (.lst n r)) i o=((VI r i).drop o).map ld:=Qj
def QjQ{α γ:Type}(g:α→γ):[].map g=[]:=Qj
def Qhw{α γ:Type}(g:α→γ)(x l):(x::l).map g=g x::l.map g:=Qj
def Qqq(x):ld (.b x)=.b x:=Qj
def Qmv(c x):ld (.i c x)=.i c x:=Qj
def Qm4(x):ld (.s x)=.s x:=Qj
def QcN(n x):ld (.imm n x)=.imm n x:=Qj
def Qcv:ld .nil=.nil:=Qj
def QcK(n x):ld (.own n x)=.u:=Qj
def Qmo(o t cs l):wz (some (o,t)) (.agg cs) k l=MG t (cs.drop o) k ():=Qj
def Qd0(c cs l):MG .one (c::cs) k l=k c:=Qj
def Qap(b:Bool)(v:AV)(k:AV→Option β)(_:Lk k):Option β:=cond b (k v) none
def QcQ(m cs l):MG (.agg m) cs k l=Qap (Nat.blt 0 m&&Nat.ble m cs.length) (.agg (cs.take m)) k () :=
 HP (by simp only[Bool.and_eq_true,YW,Se]) _ _
def Qeb(v l):Qap true v k l=k v:=Qj
def Qcw(K cs)(k:AV→KS→Option β)(l):aC K (some cs) k l=Jp (K++[some (.box cs)]) (λK'=>k (.ptr K.length 0 0) K') ():=Qj
def jj(b:Bool)(x:Option β)(_:Lk x):Option β:=cond b x none
def QwA(x:Option β)(l):jj true x l=x:=Qj
def Qkk(K cs)(k:AV→KS→Option β)(l):nB K (.agg cs) k l=jj (cs.all (B3 K)) (Jp (K++[some (.box cs)]) (λK'=>k (.ptr K.length 0 0) K') ()) ():=by
 simp only[nB,jj];cases cs.all (B3 K)<;>rfl
def Qkb(K c x)(k:AV→KS→Option β)(l):nB K (.i c x) k l=Jp (K++[some (.box [.i c x])]) (λK'=>k (.ptr K.length 0 0) K') ():=Qj
def QiO{α:Type}(p:α→Bool):[].all p=true:=Qj
def Qhb{α:Type}(p:α→Bool)(x l):(x::l).all p=(p x&&l.all p):=Qj
def Qp9(K x):B3 K (.b x)=true:=Qj
def Qqr(K c x):B3 K (.i c x)=true:=Qj
def Qle(K x):B3 K (.s x)=true:=Qj
def QoZ(K):B3 K .nil=true:=Qj
def QoS(K):B3 K .z=true:=Qj
def Qcb(K n r):B3 K (.imm n r)=true:=Qj
def QdK(K n r):B3 K (.clo n r)=true:=Qj
def QkF(K j):B3 K (.sl j)=(kg K j).isSome:=Qj
def QcS(K j i o):B3 K (.ptr j i o)=(kg K j).isSome:=Qj
def QuX{α:Type}(x:α):(some x).isSome=true:=Qj
def QrT(x):AV.closed (.b x)=true:=Qj
def Qtf(c x):AV.closed (.i c x)=true:=Qj
def Qro(x):AV.closed (.s x)=true:=Qj
def Qo6:AV.closed .nil=true:=Qj
def Qem(n r):AV.closed (.imm n r)=true:=Qj
def Qkm(x:Bool):(false&&x)=false:=Qj
def Qsm(x:Bool):(true&&x)=x:=Qj
def OA(fl:Bool)(ns:List Nat)(K:KS)(e:Option QE)(t:TK)(j i o:Nat)(v:AV)(k:KS→Option β)(_:Lk k):Option β :=
 match e with
  |some (.box cs)=>if i=0 then Pp cs o t v (B3 K) (λcs=>Jp (K.set j (some (.box cs))) k ()) ()else none
  |some (.lst n rows)=>if(Du v).all ud=true then(if i<rows.length then Pp (VI rows i) o t v AV.closed (λr=>Jp (K.set j (some (.lst n (rows.set i r)))) k ()) ()else none)else if fl=false then TY ns K t j i o n rows v k ()else none
  |none=>none
def QbC(fl ns K t j i o v)(k:KS→Option β)(l):Su fl ns K t (.ptr j i o) v k l=OA fl ns K (kg K j) t j i o v k ():=by
 show(match kg K j with|some (.lst n rows)=>_|_=>_)=_
 cases h:kg K j with
 |none=>simp[OA,Ui,h]
 |some e=>cases e<;>simp[OA,Ui,h]
def vK(fl ns K cs t j o v)(k:KS→Option β)(l):OA fl ns K (some (.box cs)) t j 0 o v k l=Pp cs o t v (B3 K) (λcs=>Jp (K.set j (some (.box cs))) k ()) ():=Qj
def YO(b fl:Bool)(ns:List Nat)(K:KS)(n:Nat)(r:List (List AV))(t:TK)(j i o:Nat)(v:AV)(k:KS→Option β)(_:Lk k):Option β :=
 cond b (if i<r.length then Pp (VI r i) o t v AV.closed (λr'=>Jp (K.set j (some (.lst n (r.set i r')))) k ()) ()else none) (if fl=false then TY ns K t j i o n r v k ()else none)
def Qag(fl ns K n r t j i o v)(k:KS→Option β)(l):OA fl ns K (some (.lst n r)) t j i o v k l=YO ((Du v).all ud) fl ns K n r t j i o v k ():=by
 simp only[OA,YO];cases (Du v).all ud<;>rfl
def QnL(ds):Du (.agg ds)=ds:=Qj
def QtA(c x):Du (.i c x)=[.i c x]:=Qj
def QsO(x):Du (.b x)=[.b x]:=Qj
def QoP(x):Du (.s x)=[.s x]:=Qj
def Qms:Du .nil=[.nil]:=Qj
def QrC(n r):Du (.imm n r)=[.imm n r]:=Qj
def Qpf(j):Du (.sl j)=[.sl j]:=Qj
def Qi3(j):ud (.sl j)=false:=Qj
def Qst(x):ud (.b x)=true:=Qj
def Qpo(c x):ud (.i c x)=true:=Qj
def Qlx(x):ud (.s x)=true:=Qj
def Ql9:ud .nil=false:=Qj
def QsP(n r):ud (.imm n r)=true:=Qj
def Qwg(cs):nz [] cs=cs:=by cases cs<;>rfl
def QvG(ns):nz ns []=[]:=by cases ns<;>rfl
def Qvm(n ns c cs):nz (n::ns) (c::cs)=ug n c::nz ns cs:=Qj
def QwI(n x):ug n (.b x)=.b x:=Qj
def Qxk(n c x):ug n (.i c x)=.i c x:=Qj
def QuI(n x):ug n (.s x)=.s x:=Qj
def QvJ(n):ug n .nil=.own n []:=Qj
def QuY(n m r):ug n (.own m r)=.own m r:=Qj
def Qwc(n m r):ug n (.imm m r)=.imm m r:=Qj
def QvN(k v):gP (.z k) v=ug k v:=Qj
def QvM(v):gP .n v=v:=Qj
def QuL(ns cs):gP (.a ns) (.agg cs)=.agg (nz ns cs):=Qj
def QvV(v):ee [] v=v:=Qj
def Qw8(s v):ee [s] v=gP s v:=Qj
def QxW(s s' ss vs):ee (s::s'::ss) (.tup vs)=.tup (kw (s::s'::ss) vs):=Qj
def Quz(s ss v vs):kw (s::ss) (v::vs)=gP s v::kw ss vs:=Qj
def QlV(vs):kw [] vs=vs:=Qj
def Qqu(m ds l):ir (.agg m) (.agg ds) l=(m==l):=Qj
def QpO(j l):ir .one (.sl j) l=(l==1):=Qj
def qC(ns:List Nat)(K:KS)(a:Option (KS×List AV))(t:TK)(j o n i:Nat)(r:List (List AV))(v:AV)(k:KS→Option β)(_:Lk k):Option β :=
 match a with
  |some (K1,ds)=>if(kg K1 j).isSome=true∧ir t v ds.length=true∧o+ds.length≤(VI r i).length then Jp (K1.set j (some (.lst n (r.set i (putCells (VI r i) o (nz ns ds)))))) k ()else none
  |none=>none
def QuW(ns K K1 ds t j o n i r v)(k:KS→Option β)(l):qC ns K (some (K1,ds)) t j o n i r v k l=jj ((kg K1 j).isSome&&(ir t v ds.length&&Nat.ble (o+ds.length) (VI r i).length)) (Jp (K1.set j (some (.lst n (r.set i (putCells (VI r i) o (nz ns ds)))))) k ()) () :=
 HP (by simp only[Bool.and_eq_true,Se]) _ _
def dV(r:List (List AV))(i:Nat):Bool:=Nat.blt i r.length
def w_n(D:Orc)(f:Fr)(K:KS)(j i o q r v m rs)(k:AV→KS→Option β)(l):onr D f K j i o q r (v,[some (.lst m rs)]) k l=V9 (v.flat&&dV r i) (Jp (K.set j (some (.lst q (r.set i (putCells (VI r i) o [.own m rs]))))++[none]) (λK'=>k v K') ()) ():=Qj
def Qji(x r):dV (x::r) 0=true:=by simp[dV,Nat.blt_eq]
def QkN(x r i):dV (x::r) (i+1)=dV r i:=by
 unfold dV;rw[Bool.eq_iff_iff,Nat.blt_eq,Nat.blt_eq];simp
def Qg7(fl ns K n r t j i o v)(k:KS→Option β)(l):YO true fl ns K n r t j i o v k l=jj (dV r i) (Pp (VI r i) o t v AV.closed (λr'=>Jp (K.set j (some (.lst n (r.set i r')))) k ()) ()) () :=
 HP YW _ _
def Qkd(ns K n r t j i o v)(k:KS→Option β)(l):YO false false ns K n r t j i o v k l=jj (dV r i) (qC ns K (Xv K (Du v)) t j o n i r v k ()) () :=
 HP YW _ _
def Qie(cs o m ds ok)(k:List AV→Option β)(l):Pp cs o (.agg m) (.agg ds) ok k l=jj ((m==ds.length)&&(Nat.ble (o+m) cs.length&&ds.all ok)) (k (putCells cs o ds)) () :=
 HP (by simp only[Bool.and_eq_true,beq_iff_eq,Se]) _ _
def rH(cs:List AV)(o:Nat)(v:AV)(ok:AV→Bool)(k:List AV→Option β):(if o<cs.length∧ok v=true then k (cs.set o v)else none)=jj (Nat.blt o cs.length&&ok v) (k (cs.set o v)) () :=
 HP (by simp only[Bool.and_eq_true,YW]) _ _
def Qih(cs o x ok)(k:List AV→Option β)(l):Pp cs o .one (.b x) ok k l=jj (Nat.blt o cs.length&&ok (.b x)) (k (cs.set o (.b x))) ():=rH ..
def QkX(cs o c x ok)(k:List AV→Option β)(l):Pp cs o .one (.i c x) ok k l=jj (Nat.blt o cs.length&&ok (.i c x)) (k (cs.set o (.i c x))) ():=rH ..
def QiM(cs o x ok)(k:List AV→Option β)(l):Pp cs o .one (.s x) ok k l=jj (Nat.blt o cs.length&&ok (.s x)) (k (cs.set o (.s x))) ():=rH ..
def QiZ(cs o ok)(k:List AV→Option β)(l):Pp cs o .one .nil ok k l=jj (Nat.blt o cs.length&&ok .nil) (k (cs.set o .nil)) ():=rH ..
def QcW(cs o j ok)(k:List AV→Option β)(l):Pp cs o .one (.sl j) ok k l=jj (Nat.blt o cs.length&&ok (.sl j)) (k (cs.set o (.sl j))) ():=rH ..
def Qas(cs o n r ok)(k:List AV→Option β)(l):Pp cs o .one (.imm n r) ok k l=jj (Nat.blt o cs.length&&ok (.imm n r)) (k (cs.set o (.imm n r))) ():=rH ..
def Qul(cs o ds):putCells cs o ds=cs.take o++ds++cs.drop (o+ds.length):=Qj
def Qhv(P z nr S rs f K):WK P z nr S rs .normal f K=bU P z S rs nr f K ():=Qj
def QhQ(P z nr S rs f K):WK P z nr S rs .ret f K=bU P z S rs nr f K ():=Qj
def Qpl(P z S rs f K l):bU P z S rs none f K l=Ad (Hc f K P rs) (λvs=>V9 (WH (i8 z K).length (Ma vs)&&(PU (i8 z K)&&Nat.ble z.length (i8 z K).length)) (some (Ma vs,i8 z K)) ()) ():=Qj
def QlH(P z S rs r f K l):bU P z S rs (some r) f K l=Ad (Hc f K P rs) (λvs=>Lg z [S] r (up f S (Ma vs)) K (λf K=>UB (f S) (λv=>V9 (WH K.length v&&(PU K&&Nat.ble z.length K.length)) (some (v,K)) ()) ()) ()) ():=Qj
def QmL{α:Type}:(none:Option α).isSome=false:=Qj
def QpN{α:Type}(x:α):(some x).isSome=true:=Qj
def QqI(K):i8 [] K=[]:=by cases K<;>rfl
def Qmb(x z e K):i8 (x::z) (e::K)=e::i8 z K:=Qj
def Qcz(P sh rs f K):Rh P sh rs .normal f K=Ad (Hc f K P rs) (λvs=>(Fd (fgt sh rs) K (Ma vs)).map λp=>ee sh p.2) ():=Qj
def Qev(P sh rs f K):Rh P sh rs .ret f K=Ad (Hc f K P rs) (λvs=>(Fd (fgt sh rs) K (Ma vs)).map λp=>ee sh p.2) ():=Qj
def Qqc(f K P):Hc f K P []=some []:=Qj
def Qsr(f K P t rs):Hc f K P (.tmp t::rs)=(Hc f K P rs).map (f t::·):=Qj
def QjU(f K P x t rs):Hc f K P (.cell x t::rs)=Ad (MG (tk P t) (Z7 K (f x)) some ()) (λv=>(Hc f K P rs).map (v::·)) ():=Qj
def bO{α γ:Type}(g:α→γ)(x:α):(some x).map g=some (g x):=Qj
def nO{α γ:Type}(g:α→γ):(none:Option α).map g=none:=Qj
def QtH(v):Ma [v]=v:=Qj
def QrB(v w vs):Ma (v::w::vs)=.tup (v::w::vs):=Qj
def Qje:Ma []=.tup []:=Qj
def x_b(q)(K x):Fd q K (.b x)=some (K,.b x):=Qj
def x_i(q)(K c x):Fd q K (.i c x)=some (K,.i c x):=Qj
def x_s(q)(K x):Fd q K (.s x)=some (K,.s x):=Qj
def Qno(q)(K):Fd q K .nil=some (K,.nil):=Qj
def Qom(q)(K n r):Fd q K (.imm n r)=cond q (some (K,.z)) none:=by simp[Fd]
def x_u(q)(K):Fd q K .u=some (K,.u):=by simp[Fd]
def Qo7(q)(K cs):Fd q K (.agg cs)=(Le q K cs).map λp=>(p.1,.agg p.2):=by simp[Fd]
def Qrm(q)(K cs):Fd q K (.tup cs)=(Le q K cs).map λp=>(p.1,.tup p.2):=by simp[Fd]
def Qe9(K:KS)(e:Option QE)(j:Nat):Option (KS×AV):=match e with|some (.lst n rows)=>if Vd rows=true then some (K.set j none,.own n rows)else none|_=>none
def QxL(q)(K j):Fd q K (.sl j)=Qe9 K (kg K j) j:=by rw[Fd];rfl
def Qua:Vd []=true:=Qj
def Qwm(r rs):Vd (r::rs)=cond (XP r) (Vd rs) false:=by rw[show Vd (r::rs)=(XP r&&Vd rs)by simp[Vd]];cases XP r<;>rfl
def Qxe:XP []=true:=Qj
def Quw(c cs):XP (c::cs)=cond (AV.clean c) (XP cs) false:=by rw[show XP (c::cs)=(AV.clean c&&XP cs)by simp[XP]];cases AV.clean c<;>rfl
def k_i(k n):AV.clean (.i k n)=true:=Qj
def k_b(x):AV.clean (.b x)=true:=Qj
def k_s(x):AV.clean (.s x)=true:=Qj
def QsF(K n r j):Qe9 K (some (.lst n r)) j=cond (Vd r) (some (K.set j none,.own n r)) none:=HP Iff.rfl _ _
def Qic(q)(K):Le q K []=some (K,[]):=by simp[Le]
def n8(q:Bool)(e:Option (KS×AV))(cs:List AV):Option (KS×List AV):=match e with|some (K1,c')=>(Le q K1 cs).map λp=>(p.1,c'::p.2)|none=>none
def Qeu(q)(K c cs):Le q K (c::cs)=n8 q (Fd q K c) cs:=by rw[Le];rfl
def QyA(q)(K c cs):n8 q (some (K,c)) cs=(Le q K cs).map λp=>(p.1,c::p.2):=Qj
def QuV(q)(cs):n8 q none cs=none:=Qj
def Qvp(r):fgt [] r=false:=Qj
def QxN(x s):fgt (x::s) []=true:=Qj
def Que(x s y r):fgt (x::s) (y::r)=fgt s r:=Qj
def QkI(z sl rg f K)(k:Fr→KS→Option β)(l):Lg z sl rg f K k l=XD rg f K [] (λf K π=>V9 (tC π) (onz z π (Jp (QbA K π) (λK'=>k (Qes f π sl) K') ()) ()) ()) ():=Qj
def Qnh(π)(q:Option β)(l):onz [] π q l=q:=Qj
def QlU(x z π)(q:Option β)(l):onz (x::z) π q l=V9 (pfx (x::z) π) q ():=Qj
def Qxf(π):pfx [] π=true:=Qj
def Qvc(x z y π):pfx (x::z) (y::π)=((x==y)&&pfx z π):=by rw[←UZ];rfl
def Qwf(x:Nat):([]:List Nat).contains x=false:=Qj
def Qw3(x y:Nat)(l:List Nat):(y::l).contains x=((x==y)||l.contains x):=List.contains_cons
def QuZ(b:Bool):(false||b)=b:=by cases b<;>rfl
def QvW(b:Bool):(true||b)=true:=by cases b<;>rfl
def Qe7(f K π)(k:Fr→KS→List Nat→Option β)(l):XD [] f K π k l=k f K π:=Qj
def n_r(i r f K π)(k:Fr→KS→List Nat→Option β)(l):XD (.r i::r) f K π k l=XD r f K (π++[i]) k ():=Qj
def du(v:AV)(t n:Nat)(r:List Pt)(f:Fr)(K:KS)(π:List Nat)(k:Fr→KS→List Nat→Option β)(_:Lk (f,k)):Option β:=match v with
  |.sl j=>XD r f K (π++[j]) k ()
  |.ptr j _ _=>XD r f K (π++[j]) k ()
  |.nil=>XD r (up f t (.sl K.length)) (K++[some (.lst n [])]) (π++[K.length]) k ()
  |_=>none
def n_s(t n r f K π)(k:Fr→KS→List Nat→Option β)(l):XD (.s t n::r) f K π k l=du (f t) t n r f K π k ():=by simp only[XD,du];rfl
def Qqo(j t n r f K π)(k:Fr→KS→List Nat→Option β)(l):du (.sl j) t n r f K π k l=XD r f K (π++[j]) k ():=Qj
def Qi4(j i o t n r f K π)(k:Fr→KS→List Nat→Option β)(l):du (.ptr j i o) t n r f K π k l=XD r f K (π++[j]) k ():=Qj
def Qkt(t n r f K π)(k:Fr→KS→List Nat→Option β)(l):du .nil t n r f K π k l=XD r (up f t (.sl K.length)) (K++[some (.lst n [])]) (π++[K.length]) k ():=Qj
def Uc(c:Option AV)(cs:List AV)(j o n:Nat)(r:List Pt)(f:Fr)(K:KS)(π:List Nat)(k:Fr→KS→List Nat→Option β)(_:Lk (f,k)):Option β:=match c with
  |some (.sl i)=>XD r f K (π++[i]) k ()
  |some (.ptr i _ _)=>XD r f K (π++[i]) k ()
  |some .nil=>XD r f ((K++[some (QE.lst n [])]).set j (some (QE.box (cs.set o (.sl K.length))))) (π++[K.length]) k ()
  |_=>none
def gw(e:Option QE)(j o n:Nat)(r:List Pt)(f:Fr)(K:KS)(π:List Nat)(k:Fr→KS→List Nat→Option β)(_:Lk (f,k)):Option β:=match e with
  |some (.box cs)=>Uc (cs[o]?) cs j o n r f K π k ()
  |_=>none
def nk(q:Option Nat)(o n:Nat)(r:List Pt)(f:Fr)(K:KS)(π:List Nat)(k:Fr→KS→List Nat→Option β)(_:Lk (f,k)):Option β:=match q with
  |some j=>gw (kg K j) j o n r f K π k ()
  |none=>none
def n_c(q o n r f K π)(k:Fr→KS→List Nat→Option β)(l):XD (.c q o n::r) f K π k l=nk (π[q]?) o n r f K π k ():=by
 simp only[XD,nk,gw,Uc];cases π[q]? with
 |none=>rfl
 |some j =>
  simp only;cases kg K j with
  |none=>rfl
  |some e =>
   cases e with
   |box cs =>
    simp only;cases cs[o]? with
    |none=>rfl
    |some c=>cases c<;>rfl
   |lst _ _=>rfl
def Qor(j o n r f K π)(k:Fr→KS→List Nat→Option β)(l):nk (some j) o n r f K π k l=gw (kg K j) j o n r f K π k ():=Qj
def Qln(cs j o n r f K π)(k:Fr→KS→List Nat→Option β)(l):gw (some (.box cs)) j o n r f K π k l=Uc (cs[o]?) cs j o n r f K π k ():=Qj
def Qpt(i cs j o n r f K π)(k:Fr→KS→List Nat→Option β)(l):Uc (some (.sl i)) cs j o n r f K π k l=XD r f K (π++[i]) k ():=Qj
def QnI(i a b cs j o n r f K π)(k:Fr→KS→List Nat→Option β)(l):Uc (some (.ptr i a b)) cs j o n r f K π k l=XD r f K (π++[i]) k ():=Qj
def QoC(cs j o n r f K π)(k:Fr→KS→List Nat→Option β)(l):Uc (some .nil) cs j o n r f K π k l=XD r f ((K++[some (QE.lst n [])]).set j (some (QE.box (cs.set o (.sl K.length))))) (π++[K.length]) k ():=Qj
def ap(c:Option AV)(cs:List AV)(t o n:Nat)(r:List Pt)(f:Fr)(K:KS)(π:List Nat)(k:Fr→KS→List Nat→Option β)(_:Lk (f,k)):Option β:=match c with
  |some (.sl j)=>XD r f K (π++[j]) k ()
  |some .nil=>XD r (up f t (.agg (cs.set o (.sl K.length)))) (K++[some (.lst n [])]) (π++[K.length]) k ()
  |_=>none
def nt(v:AV)(t o n:Nat)(r:List Pt)(f:Fr)(K:KS)(π:List Nat)(k:Fr→KS→List Nat→Option β)(_:Lk (f,k)):Option β:=match v with
  |.agg cs=>ap (cs[o]?) cs t o n r f K π k ()
  |_=>none
def n_g(t o n r f K π)(k:Fr→KS→List Nat→Option β)(l):XD (.g t o n::r) f K π k l=nt (f t) t o n r f K π k ():=by
 simp only[XD,nt,ap];cases f t with
 |agg cs =>
  simp only;cases cs[o]? with
  |none=>rfl
  |some c=>cases c<;>rfl
 |_=>rfl
def QtB(cs t o n r f K π)(k:Fr→KS→List Nat→Option β)(l):nt (.agg cs) t o n r f K π k l=ap (cs[o]?) cs t o n r f K π k ():=Qj
def Ql0(j cs t o n r f K π)(k:Fr→KS→List Nat→Option β)(l):ap (some (.sl j)) cs t o n r f K π k l=XD r f K (π++[j]) k ():=Qj
def Qtd(cs t o n r f K π)(k:Fr→KS→List Nat→Option β)(l):ap (some .nil) cs t o n r f K π k l=XD r (up f t (.agg (cs.set o (.sl K.length)))) (K++[some (.lst n [])]) (π++[K.length]) k ():=Qj
def Qog:tC []=true:=Qj
def Qrj(x l):tC (x::l)=(!l.contains x&&tC l):=Qj
def krn(K:KS)(π:List Nat)(l:List Nat):KS:=l.map λj=>(kg K j).map (RB π)
def Quf(K π):QbA K π=krn K π π:=Qj
def Qj4(K π):krn K π []=[]:=Qj
def Qk6(K π j l):krn K π (j::l)=(kg K j).map (RB π)::krn K π l:=Qj
def QrU(π cs):RB π (.box cs)=.box (KJ π cs):=Qj
def QrG(π n r):RB π (.lst n r)=.lst n r:=Qj
def Qs4(π):KJ π []=[]:=by simp[KJ]
def Qte(π c cs):KJ π (c::cs)=ren π c::KJ π cs:=by simp[KJ]
def slO:Option Nat→AV|some i=>.sl i|none=>.u
def QjO(i o:Nat):Option Nat→AV|some j=>.ptr j i o|none=>.u
def QqC(i):slO (some i)=.sl i:=Qj
def Qqa:slO none=.u:=Qj
def Qkl(i o j):QjO i o (some j)=.ptr j i o:=Qj
def Qjd(i o):QjO i o none=.u:=Qj
def Qh9(π j):ren π (.sl j)=slO (YF π j):=by simp only[ren];rfl
def QeN(π j i o):ren π (.ptr j i o)=QjO i o (YF π j):=by simp only[ren];rfl
def Qdp(π cs):ren π (.agg cs)=.agg (KJ π cs):=by simp[ren]
def QeL(π cs):ren π (.tup cs)=.tup (KJ π cs):=by simp[ren]
def QdC(π g cs):ren π (.clo g cs)=.clo g (KJ π cs):=by simp[ren]
def Qik(π x):ren π (.b x)=.b x:=by simp[ren]
def Qr0(π c x):ren π (.i c x)=.i c x:=by simp[ren]
def QsN(π x):ren π (.s x)=.s x:=by simp[ren]
def Qoj(π):ren π .nil=.nil:=by simp[ren]
def QrY(π):ren π .u=.u:=by simp[ren]
def Qd3(π n r):ren π (.imm n r)=.imm n r:=by simp[ren]
def yR(π n r i o):ren π (.iptr n r i o)=.iptr n r i o:=by simp[ren]
def Qhz(j):YF [] j=none:=Qj
def Qhk(x l j):YF (x::l) j=zP (x==j) (some 0) ((YF l j).map (·+1)) ():=by
 rw[YF];exact HP (by simp) _ _
def Qke(f π l):Qes f π l=Q7 (frl f π l):=Qj
def Qim(f π):frl f π []=[]:=Qj
def Qk8(f π t l):frl f π (t::l)=(t,ren π (f t))::frl f π l:=Qj
def QxS(z la rt f K):Ny z la rt .normal f K=Lg z la.sl la.rg f K (λf K=>some (.inl (f,K))) ():=Qj
def QuE(z la rt f K):Ny z la rt .ret f K=Lg z rt.sl rt.rg f K (λf K=>some (.inr (.ret,f,K))) ():=Qj
def Quk(z la rt i f K):Ny z la rt (.exit i) f K=Lg z la.xs la.xr f K (λf K=>some (.inr (.exit i,f,K))) ():=Qj
def Qs1(t x y):VQ t (.seq x y)=(VQ t x).or (VQ t y):=Qj
def QkH(t c x y):VQ t (.cond c x y)=(VQ t x).or (VQ t y):=Qj
def QcA(t i x):VQ t (.block i x)=VQ t x:=Qj
def Qjt(t x):VQ t (.loop x)=zP (MR x==t) (some x) (VQ t x) ():=Qj
def xQ(t i o d):VQ t (.region i o d)=none:=Qj
def QiL(t):VQ t .skip=none:=Qj
def QrF(t):VQ t .ret=none:=Qj
def Qjr(t i):VQ t (.exit i)=none:=Qj
def Qfq(x:Option Code):(none:Option Code).or x=x:=by cases x<;>rfl
def Qfe(x:Code)(y:Option Code):(some x).or y=some x:=Qj
def l_0(K):If K []=[]:=by simp[If]
def l_s(K c cs):If K (c::cs)=DX K c::If K cs:=by simp[If]
def xZ(e:Option QE):AV:=match e with|some (.lst n rows)=>.imm n (Vf rows)|_=>.u
def Qu8(K j):DX K (.sl j)=xZ (kg K j):=by simp only[DX];rfl
def QqJ(n r):xZ (some (.lst n r))=.imm n (Vf r):=Qj
def Qmq(K j):fO K j=xZ (kg K j):=Qj
def mh(K:KS)(e:Option QE)(i o:Nat):AV:=match e with
 |some (.lst n rows)=>.iptr n (Vf rows) i o
 |some (.box cs)=>.iptr cs.length [cs.map (MZ K)] i o
 |none=>.u
def Qlj(K j i o):DX K (.ptr j i o)=mh K (kg K j) i o:=by simp only[DX];rfl
def Qiy(K cs i o):mh K (some (.box cs)) i o=.iptr cs.length [cs.map (MZ K)] i o:=Qj
def QiJ(K n r i o):mh K (some (.lst n r)) i o=.iptr n (Vf r) i o:=Qj
def Qhm(K n r i o):DX K (.iptr n r i o)=.iptr n r i o:=by simp[DX]
def QqY(K j):MZ K (.sl j)=fO K j:=Qj
def QuF(K x):MZ K (.b x)=.b x:=Qj
def Qxh(K c x):MZ K (.i c x)=.i c x:=Qj
def Qxm(K x):MZ K (.s x)=.s x:=Qj
def Qxo(K):MZ K .nil=.nil:=Qj
def Qwo(K n r):MZ K (.imm n r)=.imm n r:=Qj
def Qij(r:List AV)(rs):VI (r::rs) 0=r:=Qj
def QqU(K cs):DX K (.agg cs)=.agg (If K cs):=by simp[DX]
def QnF(K cs):DX K (.tup cs)=.tup (If K cs):=by simp[DX]
def QmN(K g cs):DX K (.clo g cs)=.clo g (If K cs):=by simp[DX]
def l_b(K x):DX K (.b x)=.b x:=by simp[DX]
def l_i(K c x):DX K (.i c x)=.i c x:=by simp[DX]
def Qyr(K x):DX K (.s x)=.s x:=by simp[DX]
def l_n(K):DX K .nil=.nil:=by simp[DX]
def Qly(K n r):DX K (.imm n r)=.imm n r:=by simp[DX]
def QbW:Vf []=[]:=by simp[Vf]
def QbL(r rs):Vf (r::rs)=Xk r::Vf rs:=by simp[Vf]
def QhY:Xk []=[]:=by simp[Xk]
def Qhe(c cs):Xk (c::cs)=XC c::Xk cs:=by simp[Xk]
def QvA(x):XC (.b x)=.b x:=by simp[XC]
def QuM(c x):XC (.i c x)=.i c x:=by simp[XC]
def QuP(x):XC (.s x)=.s x:=by simp[XC]
def QxE:XC .nil=.nil:=by simp[XC]
def QhW(n r):XC (.imm n r)=.imm n r:=by simp[XC]
def QkA(n r):XC (.own n r)=.imm n (Vf r):=by simp[XC]
def Qqw(m n r):XH m (.own n r)=(.sl m,[some (.lst n r)]):=by simp[XH]
def QoV(m cs):XH m (.agg cs)=(.agg (Gk m cs).1,(Gk m cs).2):=by simp[XH]
def Qtj(m cs):XH m (.tup cs)=(.tup (Gk m cs).1,(Gk m cs).2):=by simp[XH]
def i_b(m x):XH m (.b x)=(.b x,[]):=by simp[XH]
def i_i(m c x):XH m (.i c x)=(.i c x,[]):=by simp[XH]
def Qxx(m x):XH m (.s x)=(.s x,[]):=by simp[XH]
def i_n(m):XH m .nil=(.nil,[]):=by simp[XH]
def i_u(m):XH m .z=(.z,[]):=by simp[XH]
def Qw9(m):Gk m []=([],[]):=by simp[Gk]
def QxG(m c cs):Gk m (c::cs)=((XH m c).1::(Gk (m+(XH m c).2.length) cs).1,(XH m c).2++(Gk (m+(XH m c).2.length) cs).2):=by simp[Gk]
def Qgd{α γ:Type}(x:α)(y:γ):(x,y).1=x:=Qj
def Qps{α γ:Type}(x:α)(y:γ):(x,y).2=y:=Qj
def gD(e:Option (List AV))(k:AV→Option β)(_:Lk k):Option β:=match e with|some cs=>k (.agg cs)|none=>none
def Qqb(K z p ps l):Ur K (.st z p) ps k l=gD (EB K (p[·]?) z ps) k ():=Qj
def QjI(K z m ps l):Ur K (.arr z m) ps k l=gD (EB K (λi=>some (i*m,m)) z ps) k ():=Qj
def Qpw(cs l):gD (some cs) k l=k (.agg cs):=Qj
def QfT(fl:Bool)(ns:List Nat)(e:Option (List AV))(K:KS)(len m:Nat)(k:AV→KS→Option β)(_:Lk k):Option β:=match e with
  |some cs=>cond (yB fl cs) (match Xv K cs with
   |some (K1,cs)=>Jp (K1++[some (.lst m ((Fv m len cs).map (nz ns)))]) (λK'=>k (.sl K.length) K') ()
   |none=>none) none
  |none=>none
def Qyv(fl ns K e m z)(k:AV→KS→Option β)(l):OF fl ns K (some (e,m,z)) 0 [] k l=Jp (K++[some (.lst m [])]) (λK'=>k (.sl K.length) K') ():=Qj
def s_b(fl ns K e m z len ps)(k:AV→KS→Option β)(l):OF fl ns K (some (e,m,z)) (len+1) ps k l=jj (Nat.ble ((len+1)*m) 16777216) (QfT fl ns (EB K (λi=>some (i*m,m)) (Iz (len+1) z) ps) K (len+1) m k ()) () :=
 HP Se _ _
def QfP(ns:List Nat)(e:Option (KS×List AV))(n len m:Nat)(k:AV→KS→Option β)(_:Lk k):Option β:=match e with
   |some (K1,cs)=>Jp (K1++[some (.lst m ((Fv m len cs).map (nz ns)))]) (λK'=>k (.sl n) K') ()
   |none=>none
def Qyp(fl ns K cs len m)(k:AV→KS→Option β)(l):QfT fl ns (some cs) K len m k l=cond (yB fl cs) (QfP ns (Xv K cs) K.length len m k ()) none:=Qj
def Qug:zB []=true:=Qj
def Qvr(l:List Nat):zB (0::l)=zB l:=Qj
def QwZ(n:Nat)(l:List Nat):zB ((n+1)::l)=false:=Qj
def Qu3(cs):yB false cs=true:=Qj
def QxH(cs):yB true cs=iv cs:=Qj
def Qu6:iv []=true:=Qj
def Qvl(c n l):iv (.i c n::l)=iv l:=Qj
def Qu4(x l):iv (.b x::l)=iv l:=Qj
def QxV(x l):iv (.s x::l)=iv l:=Qj
def QuC(l):iv (.nil::l)=iv l:=Qj
def Qw2(n r l):iv (.imm n r::l)=iv l:=Qj
def Qxp(j l):iv (.sl j::l)=false:=Qj
def QuK(ns K1 cs n len m)(k:AV→KS→Option β)(l):QfP ns (some (K1,cs)) n len m k l=Jp (K1++[some (.lst m ((Fv m len cs).map (nz ns)))]) (λK'=>k (.sl n) K') ():=Qj
def QwU(K p cs):EB K p cs []=some cs:=Qj
def yy(K:KS)(place:Nat→Option (Nat×Nat))(cs:List AV)(p:Option (Nat×Nat))(d:Option (List AV))(rest:List (Nat×AV)):Option (List AV):=match p,d with
  |some (o,m),some ds=>if ds.length=m∧o+m≤cs.length then EB K place (putCells cs o ds) rest else none
  |_,_=>none
def QxX(K p cs i v r):EB K p cs ((i,v)::r)=yy K p cs (p i) (HM K v) r:=by simp only[EB];rfl
def Qvk(K p cs o m ds r):yy K p cs (some (o,m)) (some ds) r=cond ((ds.length==m)&&Nat.ble (o+m) cs.length) (EB K p (putCells cs o ds) r) none :=
 HP (by simp only[Bool.and_eq_true,beq_iff_eq,Se]) _ _
def Qyl(K cs):HM K (.agg cs)=some cs:=Qj
def Qwj(K x):HM K (.b x)=some [.b x]:=Qj
def Qvt(K c x):HM K (.i c x)=some [.i c x]:=Qj
def Qvo(K x):HM K (.s x)=some [.s x]:=Qj
def Qwy(K):HM K .nil=some [.nil]:=Qj
def Qh6(K n r):HM K (.imm n r)=some [.imm n r]:=Qj
def Qlv(K j):HM K (.sl j)=cond (kg K j).isSome (some [.sl j]) none:=by
 show(if B3 K (.sl j)=true then some [AV.sl j]else none)=_;exact HP Iff.rfl _ _
def Qv2(z):Iz 0 z=[]:=by simp[Iz]
def Qwb(n z):Iz (n+1) z=z++Iz n z:=by simp[Iz,List.replicate_succ]
def QnY(K):Xv K []=some (K,[]):=Qj
def QsY(K x cs):Xv K (.b x::cs)=(Xv K cs).map λp=>(p.1,.b x::p.2):=by simp[Xv,AV.closed]
def Qse(K c x cs):Xv K (.i c x::cs)=(Xv K cs).map λp=>(p.1,.i c x::p.2):=by simp[Xv,AV.closed]
def Qm6(K x cs):Xv K (.s x::cs)=(Xv K cs).map λp=>(p.1,.s x::p.2):=by simp[Xv,AV.closed]
def QoA(K cs):Xv K (.nil::cs)=(Xv K cs).map λp=>(p.1,.nil::p.2):=by simp[Xv,AV.closed]
def Qeq(K n r cs):Xv K (.imm n r::cs)=(Xv K cs).map λp=>(p.1,.imm n r::p.2):=by simp[Xv,AV.closed]
def Qns(e:Option QE)(K:KS)(j:Nat)(cs:List AV):Option (KS×List AV):=match e with
  |some (.lst n rows)=>(Xv (K.set j none) cs).map λp=>(p.1,.own n rows::p.2)
  |_=>none
def Qjw(K j cs):Xv K (.sl j::cs)=Qns (kg K j) K j cs:=by simp only[Xv];rfl
def Qth(K n r j cs):Qns (some (.lst n r)) K j cs=(Xv (K.set j none) cs).map λp=>(p.1,.own n r::p.2):=Qj
def Qm0(m cs):Fv m 0 cs=[]:=Qj
def QmS(m l cs):Fv m (l+1) cs=cs.take m::Fv m l (cs.drop m):=Qj
def rx(e:Option (List (List AV)×KS))(n m b:Nat)(s:AV)(k:AV→KS→Option β)(_:Lk k):Option β:=match e with
  |some (rows',K1)=>match s with
   |.sl j=>match kg K1 j with
    |some (.lst n' rows)=>if n'=m then V9 (decide ((rows.length+rows'.length)*(b+1)≤140737488355328)) (Jp (K1.set j none++[some (.lst m (rows++rows'))]) (λK'=>k (.sl n) K') ()) ()else none
    |_=>none
   |.nil=>V9 (decide (rows'.length*(b+1)≤140737488355328)) (Jp (K1++[some (.lst m rows')]) (λK'=>k (.sl n) K') ()) ()
   |_=>none
  |none=>none
def vZ(e:Option QE)(r:List (List AV))(K1:KS)(n m b j:Nat)(k:AV→KS→Option β)(_:Lk k):Option β:=match e with
    |some (.lst n' rows)=>if n'=m then V9 (decide ((rows.length+r.length)*(b+1)≤140737488355328)) (Jp (K1.set j none++[some (.lst m (rows++r))]) (λK'=>k (.sl n) K') ()) ()else none
    |_=>none
def QjJ(K:KS)(t:Option (TypeId×Nat×List AV))(bytes:Option Nat)(s x:AV)(k:AV→KS→Option β)(_:Lk k):Option β:=YV K t bytes s x k ()
def Qee(P:Program)(t:Option (TypeId×Nat×List AV)):Option Nat:=t.bind λq=>tb P q.1
def QoI{P:Program}{D:Orc}{f:Fr}{K:KS}(s x t tx ts)(k:AV→KS→Option β)(l):ER P D (.call ⟨.builtin .append,List.toArray [s,x],List.toArray (t::tx::ts)⟩) f K k l=jj (E4 P tx&&!(Gn s&&LN (ev f x))) (QjJ K (LQ P t) (Qee P (LQ P t)) (ev f s) (ev f x) k ()) ():=by
 simp only[ER,jj,QjJ,Qee];cases E4 P tx<;>cases (Gn s&&LN (ev f x))<;>rfl
def Qv9(d):Gn (.tmp d)=false:=Qj
def QuD:Gn (.const (.slice none 0 0))=true:=Qj
def QvB(n r):LN (.imm n r)=false:=Qj
def Qv1:LN .nil=false:=Qj
def QuN(j):LN (.sl j)=true:=Qj
def QaE(ns:List Nat)(K:KS)(t:Option (TypeId×Nat×List AV))(bytes:Option Nat)(l c:AV)(k:AV→KS→Option β)(_:Lk k):Option β:=pG ns K t bytes l c k ()
def Qui{P:Program}{D:Orc}{f:Fr}{K:KS}(t x c)(k:AV→KS→Option β)(l):ER P D (.makeSlice t x c) f K k l=QaE (IY P t) K (LQ P t) (Qee P (LQ P t)) (ev f x) (ev f c) k ():=Qj
def Qrd(ns K e m z b i c)(k:AV→KS→Option β)(l):QaE ns K (some (e,m,z)) (some (b+1)) (.i .i64 i) (.i .i64 c) k l=V9 (decide (i=c)) (V9 (sO i (b+1)) (Jp (K++[some (.lst m (List.replicate i.toNat (nz ns z)))]) (λK'=>k (.sl K.length) K') ()) ()) ():=Qj
def Qxz(i:Int):(i=i)=True:=by simp
def QlT(P e m z):Qee P (some (e,m,z))=tb P e:=Qj
def a_1(K e m z b s x)(k:AV→KS→Option β)(l):QjJ K (some (e,m,z)) (some (b+1)) s x k l=rx (Hw K m x) K.length m b s k ():=Qj
def a_2(r K1 n m b j)(k:AV→KS→Option β)(l):rx (some (r,K1)) n m b (.sl j) k l=vZ (kg K1 j) r K1 n m b j k ():=Qj
def a_3(r K1 n m b)(k:AV→KS→Option β)(l):rx (some (r,K1)) n m b .nil k l=V9 (rm r.length (b+1)) (Jp (K1++[some (.lst m r)]) (λK'=>k (.sl n) K') ()) ():=by
 simp[rx,rm]
def a_4(r' r K1 n m b j)(k:AV→KS→Option β)(l):vZ (some (.lst m r')) r K1 n m b j k l=V9 (rm (r'.length+r.length) (b+1)) (Jp (K1.set j none++[some (.lst m (r'++r))]) (λK'=>k (.sl n) K') ()) ():=by
 simp[vZ,rm]
def Qxi(K m):Hw K m .nil=some ([],K):=Qj
def Qya(K m r):Hw K m (.imm m r)=some (r,K):=by simp[Hw]
def Qjs(e:Option QE)(K:KS)(m k:Nat):Option (List (List AV)×KS):=match e with
  |some (.lst n rows)=>if n=m then some (rows,K.set k none)else none
  |_=>none
def QxK(K m j):Hw K m (.sl j)=Qjs (kg K j) K m j:=Qj
def Qw6(K m j r):Qjs (some (.lst m r)) K m j=some (r,K.set j none):=by simp[Qjs]
end
section
variable(T:Tld)
def Qrb(n h):(L5 T (n+1) h).w=T.wt:=Qj
def Qnd(n h g):(L5 T n h).z g=(lk T.pz g).getD []:=by cases n<;>rfl
def Qsd(n h):(L5 T (n+1) h).v=T.vt:=Qj
def Qsx(n h):(L5 T n h).m=CM T n:=by cases n<;>rfl
def Qo3(n h):(L5 T n h).a=CA T n:=by cases n<;>rfl
def Qll(n h):(L5 T (n+1) h).q=T.qt:=Qj
def QpY(n h):(L5 T (n+1) h).s=T.st:=Qj
def Qoi(n h):(L5 T n h).p=CP T n:=by cases n<;>rfl
def QsJ(n h):(L5 T n h).l=LP T n h:=Qj
def cpF(T:Tld)(n g:Nat)(fn:Option Func)(a:Option Ann)(args:List AV):Option AV:=match a with
 |some a=>match fn with
  |some f=>cond (Nat.ble args.length f.ntmps) (XY T.P (L5 T n g) a (f.body.getD .skip) (Rh T.P a.sh f.results.toList) (X0 args) [] ()) none
  |none=>cond (Nat.ble args.length 0) (XY T.P (L5 T n g) a .skip (Rh T.P a.sh []) (X0 args) [] ()) none
 |none=>T.xt g args
def caF(T:Tld)(n g:Nat)(fn:Option Func)(a:Option Ann)(K:KS)(args:List AV):Option (AV×KS):=match a with
 |some a=>match fn with
  |some f=>cond (a.wr&&(Nat.beq K.length a.ak.length&&Nat.ble args.length f.ntmps)) (XY T.P (L5 T n g) a (f.body.getD .skip) (WK T.P a.ak a.nr f.ntmps f.results.toList) (X0 args) K ()) none
  |none=>cond (a.wr&&(Nat.beq K.length a.ak.length&&Nat.ble args.length 0)) (XY T.P (L5 T n g) a .skip (WK T.P a.ak a.nr 0 []) (X0 args) K ()) none
 |none=>none
def MJ(n g K args):CA T (n+1) g K args=caF T n g (T.P.funcs[g]?) (T.at g) K args:=by
 show(match T.at g with|some a=>cond _ _ _|none=>none)=_
 unfold caF body Yp lP;cases T.at g with
 |none=>rfl
 |some a=>cases T.P.funcs[g]?<;>rfl
def wJ(n g K args a)(x1 x2 x3 x4 x5 x6 m)(rs:List ResultVar)(c x7 x8 x9 x10 x11 x12 x13):caF T n g (some ⟨x1,x2,x3,x4,x5,x6,m,List.toArray rs,some c,x7,x8,x9,x10,x11,x12,x13⟩) (some a) K args=cond ((a.nr.isSome||!a.ak.isEmpty)&&((K.length==a.ak.length)&&Nat.ble args.length m)) (XY T.P (L5 T n g) a c (WK T.P a.ak a.nr m rs) (X0 args) K ()) none:=by rw[←UZ];rfl
def Qib{α:Type}(x:α)(l:List α):(x::l).isEmpty=false:=Qj
def Qyk:(!false)=true:=Qj
def cmF(T:Tld)(n g:Nat)(fn:Option Func)(a:Option Ann)(K:KS)(args:List AV):Option AV:=match a with
 |some a=>cond (Nat.ble args.length (match fn with|some f=>f.ntmps|none=>0)) (XY T.P (L5 T n g) a (match fn with|some f=>f.body.getD .skip|none=>.skip) (Rh T.P a.sh (match fn with|some f=>f.results.toList|none=>[])) (X0 args) K ()) none
 |none=>T.mt g K args
def Y8(n g K args):CM T (n+1) g K args=cmF T n g (T.P.funcs[g]?) (T.at g) K args:=by
 show(match T.at g with|some a=>_|none=>_)=_
 unfold cmF body Yp lP;cases T.at g with
 |none=>rfl
 |some a=>cases T.P.funcs[g]?<;>rfl
def QdZ(n g K args)(h:T.at g=none):CM T (n+1) g K args=T.mt g K args:=by rw[Y8,h];rfl
def zT(n g K args a)(x1 x2 x3 x4 x5 x6 m)(rs:List ResultVar)(c x7 x8 x9 x10 x11 x12 x13):cmF T n g (some ⟨x1,x2,x3,x4,x5,x6,m,List.toArray rs,some c,x7,x8,x9,x10,x11,x12,x13⟩) (some a) K args=cond (Nat.ble args.length m) (XY T.P (L5 T n g) a c (Rh T.P a.sh rs) (X0 args) K ()) none:=Qj
def QM(n g args):CP T (n+1) g args=cpF T n g (T.P.funcs[g]?) (T.at g) args:=by
 show(match T.at g with|some a=>cond _ _ _|none=>T.xt g args)=_
 unfold cpF body Yp lP;cases T.at g with
 |none=>rfl
 |some a=>cases T.P.funcs[g]?<;>rfl
def s9(n g args)(h:T.at g=none):CP T (n+1) g args=T.xt g args:=by rw[QM,h];rfl
def vI(n g args a)(x1 x2 x3 x4 x5 x6 m)(rs:List ResultVar)(c x7 x8 x9 x10 x11 x12 x13):cpF T n g (some ⟨x1,x2,x3,x4,x5,x6,m,List.toArray rs,some c,x7,x8,x9,x10,x11,x12,x13⟩) (some a) args=cond (Nat.ble args.length m) (XY T.P (L5 T n g) a c (Rh T.P a.sh rs) (X0 args) [] ()) none:=Qj
def lpG(T:Tld)(n h:Nat)(a:Ann)(c:Option Code)(la:Option LA)(f:Fr)(K:KS):Option (XE×Fr×KS):=match c,la with
    |some c,some la=>run (λs=>XY T.P (L5 T n h) a c (Ny a.ak la a.rt) s.1 s.2 ()) (f,K)
    |_,_=>none
def lpF(T:Tld)(n h t:Nat)(fn:Option Func)(a:Option Ann)(f:Fr)(K:KS):Option (XE×Fr×KS):=match a with
 |some a=>lpG T n h a (VQ t (match fn with|some f=>f.body.getD .skip|none=>.skip)) (lk a.lp t) f K
 |none=>none
def QY(n h t f K):LP T (n+1) h t f K=lpF T n h t (T.P.funcs[h]?) (T.at h) f K:=by
 show(match T.at h with|some a=>_|none=>none)=_
 unfold lpF;cases T.at h<;>rfl
def yC(n h t a f K)(x1 x2 x3 x4 x5 x6 m rs c x7 x8 x9 x10 x11 x12 x13):lpF T n h t (some ⟨x1,x2,x3,x4,x5,x6,m,rs,some c,x7,x8,x9,x10,x11,x12,x13⟩) (some a) f K=lpG T n h a (VQ t c) (lk a.lp t) f K:=Qj
def QV(n h a c la f K):lpG T n h a (some c) (some la) f K=run (λs=>XY T.P (L5 T n h) a c (Ny a.ak la a.rt) s.1 s.2 ()) (f,K):=Qj
def getD_some{α:Type}(x d:α):(some x).getD d=x:=Qj
def U7{α:Type}(d:α):(none:Option α).getD d=d:=Qj
end
section
variable{α β γ:Type}{c:α→List AV}
def eH(xs:List α)(i):Q1 (xs.map c) i=Q1 xs i:=by simp[Q1]
def QuH(xs:List α):si (xs.map c)=ln xs:=by simp[si,ln]
def fE[Inhabited α](xs:List α)(i:Int)(h:Q1 xs i=true):VI (xs.map c) i.toNat=c (gt xs i):=by
 obtain⟨h0,h1⟩:=C8.1 h;have h2:i.toNat<xs.length:=by omega
 simp[VI,gt,List.getD_eq_getElem?_getD,h2]
def Qpz(xs:List α)(i:Int)(h:Q1 xs i=true):dV (xs.map c) i.toNat=true:=by
 unfold dV;obtain⟨h0,h1⟩:=C8.1 h;rw[Nat.blt_eq];simp;omega
def QlW(xs:List α)(l h:Int):cut (xs.map c) l h=(cut xs l h).map c:=by simp[cut,List.map_take,List.map_drop]
def ie(xs:List α)(i:Int)(ys:List α)(b:Nat):IK (xs.map c) i (ys.map c) b=IK xs i ys b:=by simp[IK]
def iW(xs:List α)(i:Int)(ys:List α):VY (xs.map c) i (ys.map c)=(VY xs i ys).map c:=by simp[VY,List.map_take,List.map_drop]
def QmB(xs:List α):(xs.map c).length=xs.length:=by simp
def yt(xs:List α)(n:Nat)(x:α)(i:Int):Q1 (xs.set n x) i=Q1 xs i:=by simp[Q1]
def Qeh[Inhabited α](xs:List α)(x:α)(i:Int)(h:Q1 xs i=true):gt (xs.set i.toNat x) i=x:=by
 obtain⟨h0,h1⟩:=C8.1 h;have h2:i.toNat<xs.length:=by omega
 simp[gt,List.getD_eq_getElem?_getD,h2]
def zH(xs:List α)(n:Nat)(x y:α):(xs.set n x).set n y=xs.set n y:=by simp
def rL(o:Option α)(g:β→γ)(f:α→Option β):(o.bind f).map g=o.bind λx=>(f x).map g:=by cases o<;>rfl
def sX(b:Bool)(o:Option β)(g:β→γ)(l):(V9 b o l).map g=V9 b (o.map g) ():=by cases b<;>rfl
def sg(b:Bool)(x y:Option β)(g:β→γ):(cond b x y).map g=cond b (x.map g) (y.map g):=by cases b<;>rfl
def yX{ρ δ:Type}(p:ρ→Option β)(q:δ→Option β)(x)(g:β→γ):(J1 p q x).map g=J1 (λr=>(p r).map g) (λr=>(q r).map g) x:=by cases x<;>rfl
def k8(x:α)(f:α→Option β):(some x).bind f=f x:=Qj
def ji(o:Option α)(f:α→Option β)(g:β→Option γ):(o.bind f).bind g=o.bind λx=>(f x).bind g:=by cases o<;>rfl
def QeU{α' β':Type}(f:α→α')(g:β→β')(x):Sum.map f g (.inl x)=.inl (f x):=Qj
def Qdv{α' β':Type}(f:α→α')(g:β→β')(x):Sum.map f g (.inr x)=.inr (g x):=Qj
end
class QD {α:Type} (c:α→List AV) (r:List AV) (x:outParam α):Prop where
 eq:r=c x
class QC {α:Type} (c:α→List AV) (R:List (List AV)) (xs:outParam (List α)):Prop where
 eq:R=xs.map c
instance{α:Type}(c:α→List AV)(x:α):QD c (c x) x:=⟨rfl⟩
instance{α:Type}(c:α→List AV)(xs:List α):QC c (xs.map c) xs:=⟨rfl⟩
instance{α:Type}(c:α→List AV):QC c [] []:=⟨rfl⟩
instance{α:Type}(c:α→List AV)(r R x xs)[h:QD c r x][H:QC c R xs]:QC c (r::R) (x::xs):=⟨by rw[h.eq,H.eq];rfl⟩
instance{α:Type}(c:α→List AV)(R S xs ys)[h:QC c R xs][H:QC c S ys]:QC c (R++S) (xs++ys):=⟨by rw[h.eq,H.eq];simp⟩
instance{α:Type}(c:α→List AV)(R xs)(i:Nat)(r x)[h:QC c R xs][H:QD c r x]:QC c (R.set i r) (xs.set i x):=⟨by rw[h.eq,H.eq,List.map_set]⟩
instance{α:Type}(c:α→List AV)(n:Nat)(r x)[H:QD c r x]:QC c (List.replicate n r) (List.replicate n x):=⟨by rw[H.eq,List.map_replicate]⟩
def QkZ{α:Type}{c:α→List AV}(xs:List α)(R){ys}[h:QC c R ys]:xs.map c++R=(xs++ys).map c:=by rw[h.eq];simp
def QhS{α:Type}{c:α→List AV}(xs:List α)(n:Nat)(R){x}[h:QD c R x]:(xs.map c).set n R=(xs.set n x).map c:=by rw[h.eq,List.map_set]
def Bd{α:Type}{c:α→List AV}(h:∀x,XP (c x)=true)(xs:List α):Vd (xs.map c)=true:=by
 induction xs with
 |nil=>simp[Vd]
 |cons x xs ih=>simp[Vd,h,ih]
def D7{α:Type}{c c':α→List AV}(h:∀x,Xk (c x)=c' x)(xs:List α):Vf (xs.map c)=xs.map c':=by
 induction xs with
 |nil=>simp[Vf]
 |cons x xs ih=>simp[Vf,h,ih]
def Qj0{α:Type}{c:α→List AV}(xs:List α)(n b:Nat)(m):Yj (xs.map c).isEmpty (some (AV.own n [])) (V9 (rm (0+xs.length) b) (some (AV.own n (xs.map c))) m)=V9 (rm (0+xs.length) b) (some (AV.own n (xs.map c))) ():=by
 cases xs with
 |nil=>simp[Yj,tt,V9,rm]
 |cons r R=>rfl
def QW:=Qk @Qpi @Qrh @uQ @Qf7 @yP @QgC<|Qk @Qq0 @Qni @QjV @QeD @ze @QxJ<|Qk @QsT @Qxj @QoB @Qc0 @Qs6 @Qej<|Qk @Qhu @QbB @Qa7 @Qsn @Qmc @Qjf<|Qk @Qi8 @Qg6 @Qiw @Qq8 @Qbs @yM<|Qk @QpJ @wB @Qkj @Qk5 @Qiz @Qnw<|Qk @QoR @Qrf @QsA @vh @fR @Qis<|Qk @QnN @Qex @QaG @Qks @QkK @Qot<|Qk @Qqf @s_v @v_j @v_s @Qm8 @Qr5<|Qk @zT @qY @n_c @Qor @Qln @Qpt<|Qk @QoC @QnI @n_g @QtB @Ql0 @Qtd<|Qk @QjB @Qpe @QhV @QqP @QiK @Qcf<|Qk @zS @oo @pN @oq @rB @Qw1<|Qk @Qyj @Qe4 @Qnh @QlU @Qhv @QhQ<|Qk @Qko @Qdf @zh @Qd5 @rK @Qdx<|Qk @yJ @Qo1 @Qqe @Qh4 @Qjz @QiG<|aI @QjS <|  Qk @QcE @fR @Qq2 @Qmx @Qds @Qo0<|Qk @QqE @yL @QaD @zX @Qmf @uT<|aI @QpP<|aI @Qn4 <|
 Qk @QaR @vU @QjM @pJ @y6 @xm<|aI @uw<|aI @Qbq<|aI @Qer<|aI @QcJ <|
 Qk @QsU @QiR @QcM @c_g @Qvb @Qf6<|aI @Qgq<|aI @QfW <|
 aI @S5<|aI @tu<|aI @mN<|aI @km<|aI @lZ <|
 Qk @Qkq @wG @QkB @Qc1 @QpL @QdG<|Qk @uy @QjY @Qed @QlG @QiW @Qif<|Qk @Qia @Qjg @QnR @Qr9 @QlP @QlF<|aI @Qs7<|aI @Qtp<|aI @Qhg<|aI @QjC<|aI @QkR<|aI @QwO <|
 Qk @QwL @Qt5 @Qrq @Qpn @Qmj @Qme<|aI @QpV<|aI @QgX<|aI @Qcq<|aI @QoI<|aI @Qui <|
 Qk @Qso @QjT @rN @nh @mg @kN<|aI @ly<|aI @vJ<|aI @nN<|aI @sy <|
 aI @jc<|aI @kj<|aI @T7<|aI @Tm<|aI @dq<|aI @fQ <|
 Qk @Qcz @Qev @QkI @Qe7 @n_r @n_s<|aI @QxS<|aI @QuE<|aI @Quk <|
 Qk @Qs1 @QkH @QcA @Qjt @xQ @QiL<|aI @QrF<|aI @Qjr<|aI @Qfq<|aI @Qfe <|
 aI @getD_some<|aI @U7<|aI @vI<|aI @wJ<|aI @yC @Qgd
def Xw:=Qk @gX @gL @Qvv @Qua @Qwm @Qxe<|Qk @Quw @k_i @k_b @k_s @QeH @Qhc<|Qk @Qxv @Qxs @Qyg @Qyd @Qt7 @QuS<|Qk @QwJ @Qwz @Qxw @QuG @QvH @Quv<|Qk @Qug @Qvr @QwZ @Qu3 @QxH @Qu6<|Qk @Qvl @Qu4 @QxV @QuC @Qw2 @Qxp<|Qk @Qpi @Qrh @uQ @Qf7 @yP @QgC<|Qk @Qq0 @Qni @QoR @Qrf @QsA @QtV<|Qk @c_K @QoB @Qom @x_u @Qvp @QxN<|Qk @Que @QuV @s_v @v_j @v_s @Qm8<|Qk @Qr5 @zT @p_0 @p_e @p_s @p_n<|Qk @p_z @p_a @QvL @QuQ @QwD @Qvu<|Qk @Qyx @Qu7 @Qx2 @Qyq @Qnd @dq<|Qk @fQ @U7 @getD_some @n_c @Qor @Qln<|Qk @Qpt @QoC @QnI @n_g @QtB @Ql0<|Qk @Qtd @Qe7 @n_r @n_s @QeJ @QeA<|Qk @QeP @jc @kj @T7 @Tm @QaR<|Qk @vU @pJ @Qf6 @Qgq @Qfq @Qfe<|Qk @getD_some @U7 @yL @QaD @uT @zX<|Qk @jG @Qo0 @QqE @c_M @Qv9 @QuD<|Qk @QvB @Qv1 @QuN @QqH @Qn0 @QhN<|Qk @QjF @QdY @Qcm @Qj5 @Qb7 @w8<|Qk @Ql3 @Qng @xw @QkL @Qjo @QqT<|Qk @Qhr @Qh2 @Qhq @y7 @uu @oo<|Qk @pN @Qnh @QlU @Qxf @Qvc @Qwf<|Qk @Qw3 @QuZ @QvW @s_w @w_j @w_s<|Qk @Qvz @QvT @Qql @Qh7 @QuA @QxU<|Qk @Qpx @Qv8 @Qwi @QvC @QtY @QmZ<|Qk @QkY @Qye @Qx8 @Qpb @Qwt @Qwn<|Qk @Qx9 @Qwv @QxQ @Qx6 @QvF @Qww<|Qk @QwR @Qve @QwC @QlO @QqB @Qvq<|Qk @Qux @Qub @QxT @Quo @Qyy @Quy<|Qk @Qt6 @Qum @Qt2 @Qx5 @Qv4 @Qwa<|Qk @QtW @QwY @QvD @Qu1 @Quq @Qxa<|Qk @Qv3 @QwF @Qvi @Qxy @QvO @Qxb<|Qk @QxM @Qnm @QlD @QnT @Qts @Qvx<|Qk @Qt9 @Qu9 @Qt4 @Qvn @QxY @Qw4<|Qk @QpE @QsK @Qtz @QoF @Qup @QwG<|Qk @QvS @Qwe @QsE @Qxc @Qwu @Qr1<|Qk @Qsl @Qus @Qt0 @QlK @Qpl @QlH<|Qk @QmL @QpN @Bool.true_or @Bool.false_or @Qud @QwP<|Qk @QvX @QvI @Qun @Qur @Qwr @QuO<|Qk @w_p @Qt3 @w_x @w_n @Qe4 @QqI<|Qk @Qmb @wJ @Qib @Qyk @oq @rB<|Qk @s_t @s_q @s_f @QvR @Qrr @QjL<|Qk @Qwh @Qrt @Qht @lU @Qja @QhU<|Qk @Qtq @QtD @Qre @Qh3 @QnZ @QrD<|aI @Qti<|aI @qY<|aI @vI<|aI @yC<|aI @dq<|aI @S5 <|
 Qk @Qo2 @Qof @QxR @Qv7 @Qji @QkN<|Qk @QjE @Qc8 @rZ @vR @Qal @QaN<|aI @kF<|aI @QpH<|aI @QmI<|aI @Qvd<|aI @Qob <|
 Qk @QgT @QoH @QlZ @Qtl @Qn3 @QlL<|Qk @QlR @QrE @QrO @QsQ @Qp7 @QlN<|aI @Qss<|aI @Qlo<|aI @Qpj<|aI @Qmi<|aI @Qmk<|aI @QrH <|
 Qk @Qqy @QmF @QmX @QrJ @QmY @Qkm<|Qk @Qg5 @QhD @QkT @QoU @QkG @QsW<|Qk @Qp1 @QmC @QoD @Qhp @Qio @Qkp<|Qk @Qin @QjD @Qg4 @Qg2 @Qg9 @Qos<|aI @QiB <|
 Qk @QdP @Qdn @Qbt @QmW @Qbm @Qqp<|aI @QvZ<|aI @Qhn<|aI @hU<|aI @Qr6<|aI @Qrz <|
 Qk @Qqg @QlY @QjR @QhR @QsC @Qii<|aI @QhZ<|aI @Qkr<|aI @Qen<|aI @QcL<|aI @Qdm<|aI @QdX <|
 Qk @Qip @QpM @QkU @Qjp @QhA @QeF<|Qk @Qq1 @QhP @QgW @Qi6 @uh @wc<|Qk @Qbv @vV @vL @QjX @Qsk @QjZ<|aI @QiQ<|aI @QsB<|aI @Qj2 <|
 Qk @QxB @m_c @Qkv @Qkf @QjQ @Qhw<|aI @Qqq<|aI @Qmv<|aI @Qm4<|aI @QcN<|aI @Qcv<|aI @QcK <|
 Qk @Qd0 @Qmo @QcQ @Qeb @Qcw @QwA<|aI @Qkk<|aI @Qkb<|aI @QiO<|aI @Qhb <|
 Qk @Qp9 @Qqr @Qle @QoZ @QoS @Qcb<|Qk @QdK @QkF @QcS @QuX @QrT @Qtf<|aI @Qro<|aI @Qo6<|aI @Qem<|aI @Qsm <|
 Qk @QbC @vK @Qag @Qg7 @Qkd @QuW<|Qk @QnL @QtA @QsO @QoP @Qms @QrC<|Qk @Qpf @Qi3 @Qst @Qpo @Qlx @Ql9<|Qk @QsP @Qwg @QvG @Qvm @QwI @Qxk<|Qk @QuI @QvJ @QuY @Qwc @QvN @QvM<|Qk @QuL @QvV @Qw8 @QxW @Quz @QlV<|Qk @Qqu @QpO @Qie @Qih @QkX @QiM<|aI @QiZ<|aI @QcW<|aI @Qas<|aI @Qul <|
 Qk @Qqc @Qsr @QjU @bO @nO @QtH<|Qk @QrB @Qje @x_b @x_i @x_s @Qno<|Qk @Qo7 @Qrm @QxL @QsF @Qic @Qeu<|aI @QyA <|
 Qk @Qqo @Qi4 @Qkt @Qog @Qrj @Quf<|Qk @Qj4 @Qk6 @QrU @QrG @Qs4 @Qte<|aI @QqC<|aI @Qqa<|aI @Qkl<|aI @Qjd <|
 Qk @Qh9 @QeN @Qdp @QeL @QdC @Qik<|Qk @Qr0 @QsN @Qoj @QrY @Qd3 @yR<|aI @Qhz<|aI @Qhk<|aI @Qke<|aI @Qim<|aI @Qk8 <|
 Qk @l_0 @l_s @Qu8 @QqJ @Qmq @Qlj<|Qk @Qiy @QiJ @Qhm @QqY @QuF @Qxh<|Qk @Qxm @Qxo @Qwo @Qij @QqU @QnF<|Qk @QmN @l_b @l_i @Qyr @l_n @Qly<|Qk @QbW @QbL @QhY @Qhe @QvA @QuM<|aI @QuP<|aI @QxE<|aI @QhW<|aI @QkA <|
 Qk @Qqw @QoV @Qtj @i_b @i_i @Qxx<|aI @i_n<|aI @i_u<|aI @Qw9<|aI @QxG<|aI @Qgd<|aI @Qps <|
 Qk @Qqb @QjI @Qpw @Qyv @s_b @Qyp<|Qk @QuK @QwU @QxX @Qvk @Qyl @Qwj<|Qk @Qvt @Qvo @Qwy @Qh6 @Qlv @Qv2<|aI @Qwb <|
 Qk @QnY @QsY @Qse @Qm6 @QoA @Qeq<|aI @Qjw<|aI @Qth<|aI @Qm0<|aI @QmS <|
 Qk @QlT @Qrd @Qxz @QfW @a_1 @a_2<|aI @a_3<|aI @a_4<|aI @Qxi<|aI @Qya<|aI @QxK @Qw6
def evT:=Qk @eH @Qj0 @QlW @QuH @fE @Qpz<|Qk @QhS @QkZ @Qjj @QmB @yt @Qeh<|Qk @zH @lA @Qow @rL @sX @sg<|aI @k8<|aI @yX<|aI @ji<|aI @QeU @Qdv
def B8:=Qk @T7 @List.contains_nil @Qi @Bool.and_true @List.length_append @List.length_cons<|aI @List.length_nil<|aI @Nat.zero_add<|aI @th<|@jG
end Go.Proofs.YtkgadcbajihilaaGreatDoor.Am
