import Derived.Test.YtoilkmgiofimjaaGreatDoorEvA
noncomputable section
namespace Go.Proofs.YtoilkmgiofimjaaGreatDoor.Am
open Go
set_option linter.unusedVariables false
set_option linter.unusedSimpArgs false
section
variable{β:Type}
theorem FO{α:Type}{p:Prop}[Decidable p]{b:Bool}(h:b=true↔p)(x y:α):(if p then x else y)=cond b x y:=by
 cases b with
 |true=>rw[if_pos (h.1 rfl)];rfl
 |false=>rw[if_neg (λhp=>by have:=h.2 hp;cases this)];rfl
theorem TA{m n:Nat}:Nat.blt m n=true↔m<n:=by rw[Nat.blt_eq]
theorem PQ{m n:Nat}:Nat.ble m n=true↔m≤n:=by rw[Nat.ble_eq]
def sel{α:Type}(b:Bool)(x y:α)(_:Lk (x,y)):α:=cond b x y
theorem wT{α:Type}(x y:α)(l):sel true x y l=x:=Qj
theorem vj{α:Type}(x y:α)(l):sel false x y l=y:=Qj
theorem QcL(v)(k:AV→Option β)(l):Rb v k l=k v:=Qj
theorem xc(K)(k:KS→Option β)(l):X6 K k l=k K:=Qj
theorem Qf8(f:Fr)(d:Nat)(v:AV)(t:Nat):up f d v t=sel (d==t) v (f t) ():=by
 unfold up sel;by_cases h:t=d
 ·simp[h]
 ·have:(d==t)=false:=by simp;exact λh'=>h h'.symm
  simp[h,this]
theorem Qi1(m n:Nat):Nat.ble m n=decide (m≤n):=by rw[Bool.eq_iff_iff,Nat.ble_eq];simp
theorem Qhz(m n:Nat):Nat.blt m n=decide (m<n):=by rw[Bool.eq_iff_iff,Nat.blt_eq];simp
theorem Qst(h:Decidable True):@decide True h=true:=by simp
theorem Qn7(h:Decidable False):@decide False h=false:=by simp
theorem Qdv(m n:Nat)(f:Fr)(t:Nat):oE m n f t=sel (Nat.ble m t&&Nat.blt t n) .u (f t) ():=Qj
theorem mX(t:Nat):frm [] t=.u:=Qj
theorem gV(d:Nat)(v:AV)(l:List (Nat×AV))(t:Nat):frm ((d,v)::l) t=sel (d==t) v (frm l t) ():=by
 show up (frm l) d v t=_;exact Qf8 _ _ _ _
theorem iz(t:Nat):XC [] t=.u:=by simp[XC]
theorem du(v:AV)(l:List AV):XC (v::l) 0=v:=Qj
theorem fk(v:AV)(l:List AV)(t:Nat):XC (v::l) (t+1)=XC l t:=Qj
theorem sx(f:Fr)(t:Tmp):ev f (.tmp t)=f t:=Qj
theorem jg(f:Fr)(v:Value):ev f (.const v)=cv v:=Qj
theorem oL(f:Fr)(g:FuncId):ev f (.func g)=.clo g []:=Qj
theorem oI(b:Bool):cv (.bool b)=.b b:=Qj
theorem tu(k:IntKind)(i:Int):cv (.int k i)=.i k i:=Qj
theorem uz(x:ByteArray):cv (.string x)=.s x.data.toList:=Qj
theorem tK:cv (.slice none 0 0)=.nil:=Qj
theorem cE{α:Type}(x y:α):cond true x y=x:=Qj
theorem eP{α:Type}(x y:α):cond false x y=y:=Qj
theorem Vx(q:Option β)(l):VI true q l=q:=Qj
def Xy{ρ δ γ:Type}(o:Option (Fl ρ δ))(p:ρ→γ)(q:δ→γ):Option γ:=o.map (evO p q)
theorem ck{ρ δ γ:Type}(o:Option (Fl ρ δ))(p:ρ→γ)(q:δ→γ)(k:γ→Option β)(l):ZE (Xy o p q) k l=o.bind (evO (λr=>k (p r)) (λr=>k (q r))):=by
 cases o with
 |none=>rfl
 |some o=>cases o<;>rfl
theorem P3{α:Type}(x:α)(k:α→Option β)(l):ZE (some x) k l=k x:=Qj
theorem bZ{α:Type}(k:α→Option β)(l):ZE (none:Option α) k l=none:=Qj
theorem aR{α:Type}(b:Bool)(q:Option α)(k:α→Option β)(l)(l'):ZE (VI b q l') k l=VI b (ZE q k l) ():=by cases b<;>rfl
theorem dp{α γ:Type}(o:Option γ)(e:γ→α)(k:α→Option β)(l):ZE (o.map e) k l=o.bind (λr=>k (e r)):=by cases o<;>rfl
theorem US{α:Type}(i):lk ([]:List (Nat×α)) i=none:=Qj
theorem am{α:Type}(i)(x:α)(l j):lk ((i,x)::l) j=sel (i==j) (some x) (lk l j) ():=Qj
end
section
variable{β:Type}{P:Program}{D:Orc}{a:Ann}{f:Fr}{K:KS}{Q:KT β}{k:AV→KS→Option β}
theorem Qb5(l):Xx P D a .skip Q f K l=Q .normal f K:=Qj
theorem Qmy(l):Xx P D a .ret Q f K l=Q .ret f K:=Qj
theorem QbS(id l):Xx P D a (.exit id) Q f K l=Q (.exit id) f K:=Qj
theorem Qmr(x y l):Xx P D a (.seq x y) Q f K l=Xx P D a x (dZ (λf K=>Xx P D a y Q f K ()) Q) f K ():=Qj
def Qic(v:AV)(x y:Option β)(_:Lk (x,y)):Option β:=match v with|.b b=>cond b x y|_=>none
theorem Qbu(c x y l):Xx P D a (.cond c x y) Q f K l=Qic (ev f c) (Xx P D a x Q f K ()) (Xx P D a y Q f K ()) ():=Qj
theorem QmA(b)(x y:Option β)(l):Qic (.b b) x y l=cond b x y:=Qj
theorem uV(id c l):Xx P D a (.block id c) Q f K l=Xx P D a c (nY id Q) f K ():=Qj
theorem rj(id ol l):Xx P D a (.region id (List.toArray ol) false) Q f K l=ofz (lk a.fz id) (lk a.fc id) f K (λf K=>O2 P D a id (lk a.av id) (List.toArray ol) Q f K ()) ():=Qj
theorem yq{α:Type}(x:α)(xs ys:List α):List.append (x::xs) ys=x::List.append xs ys:=Qj
theorem Qbg{α:Type}(ys:List α):List.append [] ys=ys:=Qj
theorem QpN(f:Fr)(K:KS)(k:Fr→KS→Option β)(l):ofz none none f K k l=k f K:=Qj
theorem Qoy(f:Fr)(K:KS)(ss)(k:Fr→KS→Option β)(l):ofz (some ss) none f K k l=bU ss f K k ():=Qj
theorem QoV(f:Fr)(K:KS)(cs)(k:Fr→KS→Option β)(l):ofz none (some cs) f K k l=bJ cs f K k ():=Qj
theorem Qs6(f:Fr)(K:KS)(k:Fr→KS→Option β)(l):bJ [] f K k l=k f K:=Qj
theorem Qsr(f:Fr)(K:KS)(s o ss)(k:Fr→KS→Option β)(l):bJ ((s,o)::ss) f K k l=vd o (f s) K (λK=>bJ ss f K k ()) ():=Qj
theorem Qsx(o jb i q)(K:KS)(k:KS→Option β)(l):vd o (.ptr jb i q) K k l=xq o jb (kg K jb) K k ():=Qj
theorem QrE(o jb cs)(K:KS)(k:KS→Option β)(l):xq o jb (some (.box cs)) K k l=wV o jb cs (cs.drop o) K k ():=Qj
theorem QpA(o jb j cs ds)(K:KS)(k:KS→Option β)(l):wV o jb cs (.sl j::ds) K k l=wu o jb j cs (kg K j) K k ():=Qj
theorem QqF(o jb j cs m rows)(K:KS)(k:KS→Option β)(l):wu o jb j cs (some (.lst m rows)) K k l=k ((K.set j none).set jb (some (.box (cs.set o (.imm m (QH rows)))))):=Qj
theorem Qpu(f:Fr)(K:KS)(k:Fr→KS→Option β)(l):bU [] f K k l=k f K:=Qj
theorem Qrr(f:Fr)(K:KS)(s ss)(k:Fr→KS→Option β)(l):bU (s::ss) f K k l=xR s (f s) f K (λf K=>bU ss f K k ()) ():=Qj
theorem QrL(f:Fr)(K:KS)(s j)(k:Fr→KS→Option β)(l):xR s (.sl j) f K k l=uQ s j (kg K j) f K k ():=Qj
theorem Qpr(f:Fr)(K:KS)(s j m rows)(k:Fr→KS→Option β)(l):uQ s j (some (.lst m rows)) f K k l=k (up f s (.imm m (QH rows))) (K.set j none):=Qj
theorem Qll(id ol l):O2 P D a id none (List.toArray ol) Q f K l=dg P D a id (lk a.an id) (List.toArray ol) ol Q f K ():=Qj
theorem Qmk(id vs ol l):O2 P D a id (some vs) (List.toArray ol) Q f K l=BX vs P D (List.toArray ol) ol f K (λf K=>Q .normal f K) ():=Qj
theorem Qcm(vs ops)(k:Fr→KS→Option β)(l):BX vs P D ops [] f K k l=k f K:=Qj
theorem xa(vs ops d o t p af r)(k:Fr→KS→Option β)(l):BX vs P D ops (⟨some d,o,t,p,af,none⟩::r) f K k l=SV vs P D o f K (λv K'=>Rb v (λv=>BX vs P D ops r (up f d v) K' k ()) ()) ():=Qj
theorem uq(vs ops o t p af r)(k:Fr→KS→Option β)(l):BX vs P D ops (⟨none,o,t,p,af,none⟩::r) f K k l=SV vs P D o f K (λv K'=>BX vs P D ops r f K' k ()) ():=Qj
theorem QsU(vs ops r)(k:Fr→KS→Option β)(d op t pos after j want l):BX vs P D ops (⟨some d,op,t,pos,after,some (j,want)⟩::r) f K k l =
  ogd ((ops[j]?).bind (·.dst)) want f (λf=>SV vs P D op f K (λv K'=>Rb v (λv=>BX vs P D ops r (up f d v) K' k ()) ()) ()) (λf=>Rb (.tup []) (λv=>BX vs P D ops r (up f d v) K k ()) ()) ():=Qj
theorem QfS(vs ops r)(k:Fr→KS→Option β)(op t pos after j want l):BX vs P D ops (⟨none,op,t,pos,after,some (j,want)⟩::r) f K k l =
  ogd ((ops[j]?).bind (·.dst)) want f (λf=>SV vs P D op f K (λv K'=>BX vs P D ops r f K' k ()) ()) (λf=>BX vs P D ops r f K k ()) ():=Qj
def Hg:Op→Bool
 |.call ⟨.value (.func _),_,_⟩=>true
 |_=>false
theorem Qpw(vs o l)(k:AV→KS→Option β)(h:Hg o=false):SV vs P D o f K k l=oop P D o f K k ():=by
 unfold Hg at h;unfold SV
 split
 ·cases h
 ·rfl
theorem Qiz(vs g args ts l)(k:AV→KS→Option β):SV vs P D (.call ⟨.value (.func g),args,ts⟩) f K k l=cond (vs.contains g) (FQ P D (.call ⟨.value (.func g),args,ts⟩) f K k ()) (oop P D (.call ⟨.value (.func g),args,ts⟩) f K k ()):=Qj
theorem wH(x args ts):Hg (.call ⟨.value (.tmp x),args,ts⟩)=false:=Qj
theorem Qh6(b args ts):Hg (.call ⟨.builtin b,args,ts⟩)=false:=Qj
theorem wc(x):Hg (.move x)=false:=Qj
theorem QbB(x):Hg (.assign x)=false:=Qj
theorem ya(t x):Hg (.load t x)=false:=Qj
theorem tq(t x y):Hg (.store t x y)=false:=Qj
theorem QnA(t x i):Hg (.fieldAddr t x i)=false:=Qj
theorem Qmh(t x i):Hg (.indexAddr t x i)=false:=Qj
theorem QcS(x i):Hg (.extract x i)=false:=Qj
theorem Qbn(t x i):Hg (.field t x i)=false:=Qj
theorem Qct(o t x y u):Hg (.binOp o t x y u)=false:=Qj
theorem QnK(o t x):Hg (.unOp o t x)=false:=Qj
theorem Qbs(x):Hg (.nilCheck x)=false:=Qj
theorem wI(c x y):Hg (.pick c x y)=false:=Qj
theorem uj(t ps):Hg (.build t ps)=false:=Qj
theorem Qgj(t n ps):Hg (.buildSlice t n ps)=false:=Qj
theorem sO(t):Hg (.alloc t)=false:=Qj
theorem QcY(t x):Hg (.box t x)=false:=Qj
theorem Qcp(t x lo hi m):Hg (.slice t x lo hi m)=false:=Qj
theorem Qde(t x i):Hg (.index t x i)=false:=Qj
theorem Qe0(s t x):Hg (.convert s t x)=false:=Qj
theorem kC(id ops ol l):dg P D a id none ops ol Q f K l=d5 P D a id (lk a.ac id) ops ol Q f K ():=Qj
theorem mJ(id us ops ol l):dg P D a id (some us) ops ol Q f K l=M9 P D ops us ol f K (λf K=>Q .normal f K) ():=Qj
theorem ls(id ops ol l):d5 P D a id none ops ol Q f K l=WB P D a id ops ol Q f K ():=Qj
theorem kH(id x ops ol l):d5 P D a id (some x) ops ol Q f K l=Kv P D ops ol f K (λf K=>Q .normal f K) ():=Qj
theorem Qcc(ops)(k:Fr→KS→Option β)(l):Kv P D ops [] f K k l=k f K:=Qj
theorem yF(ops d o t p af r)(k:Fr→KS→Option β)(l):Kv P D ops (⟨some d,o,t,p,af,none⟩::r) f K k l=FQ P D o f K (λv K'=>Rb v (λv=>Kv P D ops r (up f d v) K' k ()) ()) ():=Qj
theorem qg(ops o t p af r)(k:Fr→KS→Option β)(l):Kv P D ops (⟨none,o,t,p,af,none⟩::r) f K k l=FQ P D o f K (λv K'=>Kv P D ops r f K' k ()) ():=Qj
theorem wA(x l):FQ P D (.move x) f K k l=oop P D (.move x) f K k ():=Qj
theorem nB(x l):FQ P D (.assign x) f K k l=oop P D (.assign x) f K k ():=Qj
theorem wG(t x l):FQ P D (.load t x) f K k l=oop P D (.load t x) f K k ():=Qj
theorem qp(t x y l):FQ P D (.store t x y) f K k l=oop P D (.store t x y) f K k ():=Qj
theorem QkZ(t x i l):FQ P D (.fieldAddr t x i) f K k l=oop P D (.fieldAddr t x i) f K k ():=Qj
theorem QiC(t x i l):FQ P D (.indexAddr t x i) f K k l=oop P D (.indexAddr t x i) f K k ():=Qj
theorem Qcn(t x i l):FQ P D (.field t x i) f K k l=oop P D (.field t x i) f K k ():=Qj
theorem Qeq(x i l):FQ P D (.extract x i) f K k l=oop P D (.extract x i) f K k ():=Qj
theorem QbO(o t x y u l):FQ P D (.binOp o t x y u) f K k l=oop P D (.binOp o t x y u) f K k ():=Qj
theorem pg(t ps l):FQ P D (.build t ps) f K k l=oop P D (.build t ps) f K k ():=Qj
theorem Qio(o t x l):FQ P D (.unOp o t x) f K k l=oop P D (.unOp o t x) f K k ():=Qj
theorem Qed(x l):FQ P D (.nilCheck x) f K k l=oop P D (.nilCheck x) f K k ():=Qj
theorem uT(c x y l):FQ P D (.pick c x y) f K k l=oop P D (.pick c x y) f K k ():=Qj
theorem sL(t l):FQ P D (.alloc t) f K k l=oop P D (.alloc t) f K k ():=Qj
theorem Qbo(t x lo hi m l):FQ P D (.slice t x lo hi m) f K k l=oop P D (.slice t x lo hi m) f K k ():=Qj
theorem QcO(t x i l):FQ P D (.index t x i) f K k l=oop P D (.index t x i) f K k ():=Qj
theorem Qng(b xs ts l):FQ P D (.call ⟨.builtin b,xs,ts⟩) f K k l=oop P D (.call ⟨.builtin b,xs,ts⟩) f K k ():=Qj
theorem Qif(s t x l):FQ P D (.convert s t x) f K k l=oop P D (.convert s t x) f K k ():=Qj
theorem Qd5(t x l):FQ P D (.box t x) f K k l=oop P D (.box t x) f K k ():=Qj
def nv(b c d e:Bool)(D:Orc)(g:FuncId)(K:KS)(vs:List AV)(k:AV→KS→Option β)(_:Lk (vs,k)):Option β:=cond b (Y7 K vs k ()) (cond c (Ui K vs k ()) (cond d (Sn D g K vs k ()) (cond e (Ob D g K vs k ()) (Kt D g K vs k ()))))
theorem wN(x xs ts l):FQ P D (.call ⟨.value x,List.toArray xs,ts⟩) f K k l=gC (ev f x) (λg caps=>nv (D.s g) (D.q g) (D.w g) (D.v g) D g K (xs.map (ev f)++caps) k ()) ():=Qj
theorem s_t(g c d e)(K:KS)(vs)(k:AV→KS→Option β)(l):nv true c d e D g K vs k l=Y7 K vs k ():=Qj
theorem s_q(g d e)(K:KS)(vs)(k:AV→KS→Option β)(l):nv false true d e D g K vs k l=Ui K vs k ():=Qj
theorem s_f(g)(K:KS)(vs)(k:AV→KS→Option β)(l):nv false false false false D g K vs k l=Kt D g K vs k ():=Qj
theorem s_w(g e)(K:KS)(vs)(k:AV→KS→Option β)(l):nv false false true e D g K vs k l=TS D g K (HN vs) vs k ():=Qj
theorem w_j(g)(K:KS)(js vs)(k:AV→KS→Option β)(l):TS D g K js vs k l=VI (ndB js) (TE D g K js (Fz js vs) k ()) ():=Qj
theorem w_s(g)(K:KS)(js cs)(k:AV→KS→Option β)(l):TE D g K js (some cs) k l=VI (Nj (Zs K js)) (ZE (D.a g (Zs K js) cs) (λr=>k (Ef js K.length r.1) (GM K js r.2)) ()) ():=Qj
theorem s_v(g)(K:KS)(vs)(k:AV→KS→Option β)(l):nv false false false true D g K vs k l=Ty D g K (HN vs) vs k ():=Qj
theorem v_j(g)(K:KS)(js vs)(k:AV→KS→Option β)(l):Ty D g K js vs k l=VI (ndB js) (TM D g K js (Fz js vs) k ()) ():=Qj
theorem v_s(g)(K:KS)(js cs)(k:AV→KS→Option β)(l):TM D g K js (some cs) k l=VI (jh (Zs K js)) (ZE (D.m g (Zs K js) cs) (λx=>k (Xk K.length x).1 (AX K js (Dq js)++(Xk K.length x).2)) ()) ():=Qj
theorem QhG:Dq []=[]:=Qj
theorem Qjm(j js):Dq (j::js)=none::Dq js:=Qj
theorem p_0(vs):Yo [] vs=vs:=by cases vs<;>rfl
theorem p_e(ss):Yo ss []=[]:=by cases ss<;>rfl
theorem p_s(s ss v vs):Yo (s::ss) (v::vs)=gM s v::Yo ss vs:=Qj
theorem p_n(v):gM .n v=v:=by cases v<;>rfl
theorem p_z(k v):gM (.z k) v=nic k v:=by cases v<;>rfl
theorem p_a(ns cs):gM (.a ns) (.agg cs)=.agg (ni ns cs):=Qj
theorem QoH(cs):ni [] cs=cs:=by cases cs<;>rfl
theorem QqS(n ns c cs):ni (n::ns) (c::cs)=nic n c::ni ns cs:=Qj
theorem Qql(n):nic (n+1) .nil=.imm (n+1) []:=Qj
theorem Qta:nic 0 .nil=.nil:=Qj
theorem Qox(n c x):nic n (.i c x)=.i c x:=Qj
theorem Qoz(n x):nic n (.b x)=.b x:=Qj
theorem Qsh(n x):nic n (.s x)=.s x:=Qj
theorem Qp2(n m r):nic n (.imm m r)=.imm m r:=Qj
theorem Qpv:HN []=[]:=Qj
theorem Qto(c cs):HN (c::cs)=WU c++HN cs:=Qj
theorem Qhs(j):WU (.sl j)=[j]:=Qj
theorem QlD(j a b):WU (.ptr j a b)=[j]:=Qj
theorem QeX(js j a b):FG js (.ptr j a b)=(EE js j).map λi=>.ptr i a b:=Qj
theorem QnU(K js es):GM K js es=AX K js es++Ng js es:=Qj
theorem Qq0(es):Ng [] es=es:=Qj
theorem Qs1(j js e es):Ng (j::js) (e::es)=Ng js es:=Qj
theorem Qrj(k i):rix [] k i=k+i:=Qj
theorem Qpf(j js k):rix (j::js) k 0=j:=Qj
theorem QqD(j js k):rix (j::js) k 1=rix js k 0:=Qj
theorem Qsa(j js k):rix (j::js) k 2=rix js k 1:=Qj
theorem QoD(j js k):rix (j::js) k 3=rix js k 2:=Qj
theorem QpC(j js k):rix (j::js) k 4=rix js k 3:=Qj
theorem QsR(j js k):rix (j::js) k 5=rix js k 4:=Qj
theorem QnZ(j js k):rix (j::js) k 6=rix js k 5:=Qj
theorem QqP(j js k):rix (j::js) k 7=rix js k 6:=Qj
theorem Qr3(j js k):rix (j::js) k 8=rix js k 7:=Qj
theorem Qqp(j js k):rix (j::js) k 9=rix js k 8:=Qj
theorem QoM(j js k):rix (j::js) k 10=rix js k 9:=Qj
theorem QoN(j js k):rix (j::js) k 11=rix js k 10:=Qj
theorem QoX(j js k):rix (j::js) k 12=rix js k 11:=Qj
theorem QnW(j js k):rix (j::js) k 13=rix js k 12:=Qj
theorem Qr7(j js k):rix (j::js) k 14=rix js k 13:=Qj
theorem QpB(j js k):rix (j::js) k 15=rix js k 14:=Qj
theorem QpG(j js k):rix (j::js) k 16=rix js k 15:=Qj
theorem QqV(js k c n):Ef js k (.i c n)=.i c n:=by simp[Ef]
theorem QpY(js k x):Ef js k (.b x)=.b x:=by simp[Ef]
theorem Qqc(js k x):Ef js k (.s x)=.s x:=by simp[Ef]
theorem Qok(js k):Ef js k .nil=.nil:=by simp[Ef]
theorem Qrb(js k n r):Ef js k (.imm n r)=.imm n r:=by simp[Ef]
theorem QfP(js k i):Ef js k (.sl i)=.sl (rix js k i):=by simp[Ef]
theorem QkS(js k i a b):Ef js k (.ptr i a b)=.ptr (rix js k i) a b:=by simp[Ef]
theorem Qhc(js k cs):Ef js k (.agg cs)=.agg (IS js k cs):=by simp[Ef]
theorem Qfo(js k cs):Ef js k (.tup cs)=.tup (IS js k cs):=by simp[Ef]
theorem QsB(js k):IS js k []=[]:=by simp[IS]
theorem QsD(js k c cs):IS js k (c::cs)=Ef js k c::IS js k cs:=by simp[IS]
theorem Qqk(m c n):rok m (.i c n)=true:=Qj
theorem QrR(m x):rok m (.b x)=true:=Qj
theorem Qr5(m x):rok m (.s x)=true:=Qj
theorem QrN(m):rok m .nil=true:=Qj
theorem Qs4(m n r):rok m (.imm n r)=true:=Qj
theorem Qlo(m i):rok m (.sl i)=Nat.ble (i+1) m:=Qj
theorem Qmm(m i a b):rok m (.ptr i a b)=Nat.ble (i+1) m:=Qj
theorem QjT(m cs):rok m (.agg cs)=Yk m cs:=Qj
theorem QeE(m cs):rok m (.tup cs)=Yk m cs:=Qj
theorem Qrc(m):Yk m []=true:=Qj
theorem Qon(m c cs):Yk m (c::cs)=(rok m c&&Yk m cs):=Qj
theorem Qsk(c n):clc (.i c n)=true:=Qj
theorem QpU(x):clc (.b x)=true:=Qj
theorem Qe2(x):clc (.s x)=true:=Qj
theorem QsQ:clc .nil=true:=Qj
theorem Qr8(n r):clc (.imm n r)=true:=Qj
theorem QjU:bu []=true:=Qj
theorem QhZ(c cs):bu (c::cs)=(clc c&&bu cs):=Qj
theorem QoF:Nj []=true:=Qj
theorem QoI(n r K):Nj (some (.lst n r)::K)=Nj K:=Qj
theorem Qks(cs K):Nj (some (.box cs)::K)=(bu cs&&Nj K):=Qj
theorem QcJ(cs):WU (.agg cs)=HN cs:=Qj
theorem Qq4(c n):WU (.i c n)=[]:=Qj
theorem Qrd(x):WU (.b x)=[]:=Qj
theorem QiH(x):WU (.s x)=[]:=Qj
theorem Qtl:WU .nil=[]:=Qj
theorem Qss(n r):WU (.imm n r)=[]:=Qj
theorem Qti(g l):WU (.clo g l)=[]:=Qj
theorem Qo4(js):Fz js []=some []:=Qj
theorem QoJ(js c cs):Fz js (c::cs)=(FG js c).bind λc'=>(Fz js cs).map (c'::·):=Qj
theorem Qkf(js j):FG js (.sl j)=(EE js j).map .sl:=Qj
theorem Qeu(js cs):FG js (.agg cs)=(Fz js cs).map .agg:=Qj
theorem Qpj(js c n):FG js (.i c n)=some (.i c n):=Qj
theorem Qsd(js x):FG js (.b x)=some (.b x):=Qj
theorem Qja(js x):FG js (.s x)=some (.s x):=Qj
theorem QoY(js):FG js .nil=some .nil:=Qj
theorem QqM(js n r):FG js (.imm n r)=some (.imm n r):=Qj
theorem QrO(js g):FG js (.clo g [])=some (.clo g []):=Qj
theorem Ry(x y:Nat):Nat.beq x y=(x==y):=by rw[Bool.eq_iff_iff];simp
theorem Qqz(x l j):EE (x::l) j=sel (x==j) (some 0) ((EE l j).map (·+1)) ():=by rw[←Ry];rfl
theorem QqK(K):Zs K []=[]:=Qj
theorem QtA(K j js):Zs K (j::js)=kg K j::Zs K js:=Qj
theorem Qtv(K es):AX K [] es=K:=by cases es<;>rfl
theorem Qsv(K j js e es):AX K (j::js) (e::es)=AX (K.set j e) js es:=Qj
theorem QrI:jh []=true:=Qj
theorem Qrt(n r K):jh (some (.lst n r)::K)=jh K:=Qj
theorem Qof(c n):AV.scal (.i c n)=true:=Qj
theorem QpX(x):AV.scal (.b x)=true:=Qj
theorem QoR(x):AV.scal (.s x)=true:=Qj
theorem Qq1(c n):AV.flat (.i c n)=true:=Qj
theorem QqN(x):AV.flat (.b x)=true:=Qj
theorem QqC(x):AV.flat (.s x)=true:=Qj
theorem Qn2:AV.flat (.tup [])=true:=Qj
theorem QpO:um .one=true:=Qj
theorem w_p(x g j i o)(k:AV→KS→Option β)(l):onp D f K (.ptr j i o) x g k l=onj D f K x g j i o (kg K j) k ():=Qj
theorem Qsm(x g j i o q r)(k:AV→KS→Option β)(l):onj D f K x g j i o (some (.lst q r)) k l=onx D f K x g j i o q r ((Va r i).drop o) k ():=Qj
theorem w_x(x g j i o q r m rs cs)(k:AV→KS→Option β)(l):onx D f K x g j i o q r (.own m rs::cs) k l=VI x.scal (ZE (D.a g [some (.lst m rs)] [.sl 0,x]) (λs=>onr D f K j i o q r s k ()) ()) ():=Qj
theorem Qs5(u us ops d o t p af r)(k:Fr→KS→Option β)(l):M9 P D ops (u::us) (⟨some d,o,t,p,af,none⟩::r) f K k l=oop P D o f K (λv K'=>Rb v (λv=>M9 P D ops us r (up f d v) K' k ()) ()) ():=Qj
def Qal(d:Option Tmp)(v:AV)(f:Fr)(k:Fr→Option β)(_:Lk (f,k)):Option β:=match d with
 |some d=>Rb v (λv=>k (up f d v)) ()
 |none=>k f
theorem zS(d v f)(k:Fr→Option β)(l):Qal (some d) v f k l=Rb v (λv=>k (up f d v)) ():=Qj
theorem Qrl(ops d t p y1 p1 a1 e x y2 p2 a2 dst g d' e' ts y3 p3 a3 r)(k:Fr→KS→Option β)(l):M9 P D ops [] (⟨some d,.load t p,y1,p1,a1,none⟩::⟨some e,.move x,y2,p2,a2,none⟩::⟨dst,.call ⟨.value (.func g),List.toArray [.tmp d',.tmp e'],ts⟩,y3,p3,a3,none⟩::r) f K k l =
  VI (um (tk P t)&&((d==d')&&((e==e')&&!(d==e)))) (onp D f K (ev f p) (ev (up f d (.sl K.length)) x) g (λv K'=>Qal dst v (up (up f d (.sl K.length)) e (ev (up f d (.sl K.length)) x)) (λf=>Kv P D ops r f K' k ()) ()) ()) ():=by rw[←Ry,←Ry,←Ry];cases dst<;>rfl
theorem Qf6(a b l):oop P D (.makeInterface a b) f K k l=none:=Qj
theorem Qnn(a l):oop P D (.panic a) f K k l=none:=Qj
theorem YX(t len ps l):FQ P D (.buildSlice t len ps) f K k l=oop P D (.buildSlice t len ps) f K k ():=Qj
def iN(o:Option (List Int))(K:KS)(j:Nat)(k:AV→KS→Option β)(_:Lk k):Option β:=match o with
 |some xs=>VI (decide (xs.length<4611686018427387904)) (X6 (K.set j none++[some (.lst 1 ((J8 xs).map cI))]) (λK'=>k (.sl K.length) K') ()) ()
 |none=>none
def pO(e:Option Ent)(K:KS)(j:Nat)(k:AV→KS→Option β)(_:Lk k):Option β:=match e with
 |some (.lst 1 rows)=>iN (F7 rows) K j k ()
 |_=>none
theorem Qtc(K:KS)(j)(k:AV→KS→Option β)(l):Ui K [.sl j] k l=pO (kg K j) K j k ():=Qj
theorem Qkj(r)(K:KS)(j)(k:AV→KS→Option β)(l):pO (some (.lst 1 r)) K j k l=iN (F7 r) K j k ():=Qj
theorem Qet(xs)(K:KS)(j)(k:AV→KS→Option β)(l):iN (some xs) K j k l=VI (decide (xs.length<4611686018427387904)) (X6 (K.set j none++[some (.lst 1 ((J8 xs).map cI))]) (λK'=>k (.sl K.length) K') ()) ():=Qj
def ij(o:Option (List Int))(K:KS)(j:Nat)(k:AV→KS→Option β)(_:Lk k):Option β:=match o with
 |some xs=>VI (decide (xs.length<4611686018427387904)) (X6 (K.set j (some (.lst 1 ((Z2 xs).map cI)))) (λK=>k (.tup []) K) ()) ()
 |none=>none
def rh(e:Option Ent)(K:KS)(j:Nat)(k:AV→KS→Option β)(_:Lk k):Option β:=match e with
 |some (.lst 1 rows)=>ij (F7 rows) K j k ()
 |_=>none
theorem Qr0(K:KS)(j)(k:AV→KS→Option β)(l):Y7 K [.sl j] k l=rh (kg K j) K j k ():=Qj
theorem QiW(r)(K:KS)(j)(k:AV→KS→Option β)(l):rh (some (.lst 1 r)) K j k l=ij (F7 r) K j k ():=Qj
theorem Qc1(xs)(K:KS)(j)(k:AV→KS→Option β)(l):ij (some xs) K j k l=VI (decide (xs.length<4611686018427387904)) (X6 (K.set j (some (.lst 1 ((Z2 xs).map cI)))) (λK=>k (.tup []) K) ()) ():=Qj
theorem iM:∀xs:List Int,F7 (xs.map λx=>[.i .i64 x])=some xs
 |[]=>rfl
 |x::xs=>by rw[List.map_cons,F7,iM xs];rfl
def rx(P:Program)(D:Orc)(a:Ann)(id:Nat)(ops:Array Oper)(o:Option (List Nat))(Q:KT β)(f:Fr)(K:KS)(_:Lk (ops,Q,f)):Option β:=WB P D a id ops (fH ops o) Q f K ()
theorem xJ(id ol l):Xx P D a (.region id (List.toArray ol) true) Q f K l=ofz (lk a.fz id) (lk a.fc id) f K (λf K=>Py P D a id (lk a.av id) (List.toArray ol) Q f K ()) ():=Qj
theorem Qew(id ol l):Py P D a id none (List.toArray ol) Q f K l=eJ P D a id (lk a.eb id) (List.toArray ol) Q f K ():=Qj
theorem Qfm(id vs ol l):Py P D a id (some vs) (List.toArray ol) Q f K l=gl vs P D a id (lk a.ot id) (List.toArray ol) Q f K ():=Qj
theorem QfI(id vs ol l):gl vs P D a id none (List.toArray ol) Q f K l=kx vs P D (List.toArray ol) (lk a.ord id) Q f K ():=Qj
theorem Qm0(id vs t ops l):gl vs P D a id (some t) ops Q f K l=EU vs P D ops t f K (λf K=>Q .normal f K) ():=Qj
theorem Qe6(vs ol l):kx vs P D (List.toArray ol) none Q f K l=BX vs P D (List.toArray ol) ol f K (λf K=>Q .normal f K) ():=Qj
theorem Qkv(id ops l):eJ P D a id none ops Q f K l=Lu P D a id ops (lk a.ot id) Q f K ():=Qj
def zF(P:Program)(D:Orc)(a:Ann)(id:Nat)(ol:List Oper)(Q:KT β)(f:Fr)(K:KS)(_:Lk (Q,f)):Option β:=Lu P D a id (List.toArray ol) (lk a.ot id) Q f K ()
theorem Qiu(id ds ol l):eJ P D a id (some ds) (List.toArray ol) Q f K l=zF P D a id (ol.map (J9 ds)) Q f K ():=by
 show Lu P D a id ((List.toArray ol).map (J9 ds)) (lk a.ot id) Q f K ()=Lu P D a id (List.toArray (ol.map (J9 ds))) (lk a.ot id) Q f K ();rw[List.map_toArray]
theorem c_M(id o r l):zF P D a id (o::r) Q f K l=Lu P D a id (List.toArray (o::r)) (lk a.ot id) Q f K ():=Qj
theorem Qk1(ds d t y p e g):J9 ds ⟨d,.buildSlice t 0 (List.toArray []),y,p,e,g⟩=⟨d,.move (.const (.slice none 0 0)),y,p,e,g⟩:=Qj
theorem Qhr(ds d t m ps y p e g):J9 ds ⟨d,.buildSlice t (m+1) ps,y,p,e,g⟩=⟨d,.buildSlice t (m+1) ps,y,p,e,g⟩:=Qj
theorem QdZ(ds d s x ts y p e g):J9 ds ⟨d,.call ⟨.builtin .append,List.toArray [.tmp s,x],ts⟩,y,p,e,g⟩=cond (ds.contains s) ⟨d,.call ⟨.builtin .append,List.toArray [.const (.slice none 0 0),x],ts⟩,y,p,e,g⟩ ⟨d,.call ⟨.builtin .append,List.toArray [.tmp s,x],ts⟩,y,p,e,g⟩:=Qj
theorem Qdq(ds d xs ts y p e g):J9 ds ⟨d,.call ⟨.builtin .len,xs,ts⟩,y,p,e,g⟩=⟨d,.call ⟨.builtin .len,xs,ts⟩,y,p,e,g⟩:=Qj
theorem yI(ds d v xs ts y p e g):J9 ds ⟨d,.call ⟨.value v,xs,ts⟩,y,p,e,g⟩=⟨d,.call ⟨.value v,xs,ts⟩,y,p,e,g⟩:=Qj
theorem uO(ds d x y p e g):J9 ds ⟨d,.move x,y,p,e,g⟩=⟨d,.move x,y,p,e,g⟩:=Qj
theorem Qcd(ds d x y p e g):J9 ds ⟨d,.assign x,y,p,e,g⟩=⟨d,.assign x,y,p,e,g⟩:=Qj
theorem wx(ds d t x y p e g):J9 ds ⟨d,.load t x,y,p,e,g⟩=⟨d,.load t x,y,p,e,g⟩:=Qj
theorem qZ(ds d t x z y p e g):J9 ds ⟨d,.store t x z,y,p,e,g⟩=⟨d,.store t x z,y,p,e,g⟩:=Qj
theorem QeK(ds d t x i y p e g):J9 ds ⟨d,.fieldAddr t x i,y,p,e,g⟩=⟨d,.fieldAddr t x i,y,p,e,g⟩:=Qj
theorem QmI(ds d t x i y p e g):J9 ds ⟨d,.indexAddr t x i,y,p,e,g⟩=⟨d,.indexAddr t x i,y,p,e,g⟩:=Qj
theorem ro(ds d t ps y p e g):J9 ds ⟨d,.build t ps,y,p,e,g⟩=⟨d,.build t ps,y,p,e,g⟩:=Qj
theorem QdD(ds d o t x z u y p e g):J9 ds ⟨d,.binOp o t x z u,y,p,e,g⟩=⟨d,.binOp o t x z u,y,p,e,g⟩:=Qj
theorem Qdf(ds d x y p e g):J9 ds ⟨d,.nilCheck x,y,p,e,g⟩=⟨d,.nilCheck x,y,p,e,g⟩:=Qj
theorem Qgx(ds d o t x y p e g):J9 ds ⟨d,.unOp o t x,y,p,e,g⟩=⟨d,.unOp o t x,y,p,e,g⟩:=Qj
theorem Qbp(ds d t x i y p e g):J9 ds ⟨d,.field t x i,y,p,e,g⟩=⟨d,.field t x i,y,p,e,g⟩:=Qj
theorem Qcl(ds d x i y p e g):J9 ds ⟨d,.extract x i,y,p,e,g⟩=⟨d,.extract x i,y,p,e,g⟩:=Qj
theorem Qdj(ds d t x y p e g):J9 ds ⟨d,.box t x,y,p,e,g⟩=⟨d,.box t x,y,p,e,g⟩:=Qj
theorem sR(ds d t y p e g):J9 ds ⟨d,.alloc t,y,p,e,g⟩=⟨d,.alloc t,y,p,e,g⟩:=Qj
theorem pY(ds d t x lo hi mx y p e g):J9 ds ⟨d,.slice t x lo hi mx,y,p,e,g⟩=⟨d,.slice t x lo hi mx,y,p,e,g⟩:=Qj
theorem pM(id ol l):Lu P D a id (List.toArray ol) none Q f K l=rx P D a id (List.toArray ol) (lk a.ord id) Q f K ():=Qj
theorem sW(id ops t l):Lu P D a id ops (some t) Q f K l=GQ P D ops t f K (λf K=>Q .normal f K) ():=Qj
def jj(P:Program)(D:Orc)(ops:Array Oper)(o:Option Oper)(t:OT)(f:Fr)(K:KS)(k:Fr→KS→Option β)(_:Lk (ops,f,k)):Option β:=match o with
 |some o=>Gg P D ops [o] f K (λf K=>GQ P D ops t f K k ()) ()
 |none=>none
theorem ru(ops)(k:Fr→KS→Option β)(l):GQ P D ops .done f K k l=k f K:=Qj
theorem QkA(ol i t)(k:Fr→KS→Option β)(l):GQ P D (List.toArray ol) (.one i t) f K k l=jj P D (List.toArray ol) (ol[i]?) t f K k ():=by
 have:(List.toArray ol)[i]?=ol[i]?:=by simp
 unfold GQ jj;rw[this];cases ol[i]?<;>rfl
theorem rC(ops o t)(k:Fr→KS→Option β)(l):jj P D ops (some o) t f K k l=Gg P D ops [o] f K (λf K=>GQ P D ops t f K k ()) ():=Qj
theorem sk(vs ops)(k:Fr→KS→Option β)(l):EU vs P D ops .done f K k l=k f K:=Qj
def aZ(vs:List Nat)(P:Program)(D:Orc)(ops:Array Oper)(o:Option Oper)(t:OT)(f:Fr)(K:KS)(k:Fr→KS→Option β)(_:Lk (ops,f,k)):Option β:=match o with
 |some o=>BX vs P D ops [o] f K (λf K=>EU vs P D ops t f K k ()) ()
 |none=>none
theorem QaO(vs ol i t)(k:Fr→KS→Option β)(l):EU vs P D (List.toArray ol) (.one i t) f K k l=aZ vs P D (List.toArray ol) (ol[i]?) t f K k ():=by
 have:(List.toArray ol)[i]?=ol[i]?:=by simp
 unfold EU aZ;rw[this];cases ol[i]?<;>rfl
theorem ui(vs ops o t)(k:Fr→KS→Option β)(l):aZ vs P D ops (some o) t f K k l=BX vs P D ops [o] f K (λf K=>EU vs P D ops t f K k ()) ():=Qj
theorem zC(vs ops a b)(k:Fr→KS→Option β)(l):EU vs P D ops (.alt a b) f K k l=oeq (EU vs P D ops a f K k ()) (EU vs P D ops b f K k ()):=Qj
theorem QnN(ops a b)(k:Fr→KS→Option β)(l):GQ P D ops (.alt a b) f K k l=oeq (GQ P D ops a f K k ()) (GQ P D ops b f K k ()):=Qj
theorem VJ(x:Option β):oeq x x=x:=by simp[oeq]
theorem Vn(p q:Bool)(x:Option β)(l l':Unit):VI p (VI q x l) l'=VI q (VI p x l) l':=by cases p<;>cases q<;>rfl
theorem Qcj(id ol l):rx P D a id (List.toArray ol) none Q f K l=WB P D a id (List.toArray ol) ol Q f K ():=Qj
def pk:List Oper→List Nat→List Oper
 |_,[]=>[]
 |ol,i::is=>match ol[i]? with|some o=>o::pk ol is|none=>pk ol is
def zN(P:Program)(D:Orc)(a:Ann)(id:Nat)(ops:Array Oper)(l:List Oper)(Q:KT β)(f:Fr)(K:KS)(_:Lk (ops,Q,f)):Option β:=WB P D a id ops l Q f K ()
theorem az(ol is):fH (List.toArray ol) (some is)=pk ol is:=by
 show is.filterMap (λi=>(List.toArray ol)[i]?)=_
 induction is with
 |nil=>rfl
 |cons i is ih =>
  rw[pk,List.filterMap_cons];have:(List.toArray ol)[i]?=ol[i]?:=by simp
  rw[this];cases ol[i]? with
  |none=>simpa using ih
  |some o=>rw[←ih]
theorem Qcy(id ol is l):rx P D a id (List.toArray ol) (some is) Q f K l=zN P D a id (List.toArray ol) (pk ol is) Q f K ():=by
 show WB P D a id _ (fH _ _) Q f K ()=_;rw[az];rfl
def zg(vs:List Nat)(P:Program)(D:Orc)(ops:Array Oper)(l:List Oper)(Q:KT β)(f:Fr)(K:KS)(_:Lk (ops,Q,f)):Option β:=BX vs P D ops l f K (λf K=>Q .normal f K) ()
theorem Qo3(vs ol is l):kx vs P D (List.toArray ol) (some is) Q f K l=zg vs P D (List.toArray ol) (pk ol is) Q f K ():=by
 show BX vs P D _ (fH _ _) f K _ ()=_;rw[az];rfl
theorem c_K(vs ops o r l):zg vs P D ops (o::r) Q f K l=BX vs P D ops (o::r) f K (λf K=>Q .normal f K) ():=Qj
theorem QiN(ol):pk ol []=[]:=Qj
def pkO(o:Option Oper)(l:List Oper):List Oper:=match o with|some o=>o::l|none=>l
theorem Qlt(ol i is):pk ol (i::is)=pkO (ol[i]?) (pk ol is):=by rw[pk];cases ol[i]?<;>rfl
theorem QgN(o l):pkO (some o) l=o::l:=Qj
theorem QdH(id ops o r l):zN P D a id ops (o::r) Q f K l=WB P D a id ops (o::r) Q f K ():=Qj
theorem Qm4{α:Type}(x:α)(l:List α):(x::l)[0]?=some x:=Qj
theorem Qe9{α:Type}(x:α)(l:List α)(i:Nat):(x::l)[i+1]?=l[i]?:=Qj
theorem QiY{α:Type}(l:List α)(i:Nat):(List.toArray l)[i]?=l[i]?:=by simp
theorem kK{α γ:Type}(x:α)(g:α→Option γ):(some x).bind g=g x:=Qj
def pR(P:Program)(D:Orc)(j:Option (Nat×Nat×Nat))(ops:Array Oper)(l:List Oper)(Q:KT β)(f:Fr)(K:KS)(_:Lk (l,Q,f)):Option β :=
 match j with
 |none=>Gg P D ops l f K (λf K=>Q .normal f K) ()
 |some (s,lo,hi)=>ag (Gg P D ops l f K (λf _=>asB (f s)) ()) (λc=>Q .normal (up (oE lo hi f) s (.b c)) K) ()
theorem QgY(id ops ol l):WB P D a id ops ol Q f K l=pR P D (lk a.jn id) ops ol Q f K ():=Qj
theorem rA(ops ol l):pR P D none ops ol Q f K l=Gg P D ops ol f K (λf K=>Q .normal f K) ():=Qj
theorem sX(s lo hi ops ol l):pR P D (some (s,lo,hi)) ops ol Q f K l=ag (Gg P D ops ol f K (λf _=>asB (f s)) ()) (λc=>Q .normal (up (oE lo hi f) s (.b c)) K) ():=Qj
theorem yR(o)(k:Bool→Option β)(l):ag o k l=o.bind k:=Qj
theorem QjR(b)(k:Bool→Option β)(l):ag (SI b) k l=k b:=Qj
theorem wP(b x y):cond b (SI x) (SI y)=SI (cond b x y):=by cases b<;>rfl
theorem QpE(b):SI b=some b:=Qj
theorem QmB(a b:Bool):cond a b false=(a&&b):=by cases a<;>rfl
theorem Qn3(a b:Bool):cond a true b=(a||b):=by cases a<;>rfl
theorem Qbh(a b:Bool):cond a false b=(!a&&b):=by cases a<;>rfl
theorem Qjp(b):asB (.b b)=SI b:=Qj
def ze(D:Orc)(t:Nat)(z:List Nat)(la:Option LA)(Q:KT β)(f:Fr)(K:KS)(_:Lk Q):Option β :=
 match la with
 |some la=>Hy z la.sl la.rg f K (λf K=>ZE (D.l t f K) (λo=>Q o.1 o.2.1 o.2.2) ()) ()
 |none=>none
theorem Qdi(c l):Xx P D a (.loop c) Q f K l=ze D (tag c) a.ak (lk a.lp (tag c)) Q f K ():=Qj
theorem ko(t z la l):ze D t z (some la) Q f K l=Hy z la.sl la.rg f K (λf K=>ZE (D.l t f K) (λo=>Q o.1 o.2.1 o.2.2) ()) ():=Qj
theorem Pg(id o d):tag (.region id o d)=id:=Qj
theorem pd(x y):tag (.seq x y)=tag x:=Qj
theorem iU(c x y):tag (.cond c x y)=tag x:=Qj
theorem gn(i x):tag (.block i x)=tag x:=Qj
theorem hU(x):tag (.loop x)=tag x:=Qj
theorem sn(k:Fr→KS→Option β)(Q f K):dZ k Q .normal f K=k f K:=Qj
theorem qW(k:Fr→KS→Option β)(Q f K):dZ k Q .ret f K=Q .ret f K:=Qj
theorem pG(k:Fr→KS→Option β)(Q id f K):dZ k Q (.exit id) f K=Q (.exit id) f K:=Qj
theorem yW(i f K):nY i Q .normal f K=Q .normal f K:=Qj
theorem xg(i f K):nY i Q .ret f K=Q .ret f K:=Qj
theorem vY(i j f K):nY i Q (.exit j) f K=sel (j==i) (Q .normal f K) (Q (.exit j) f K) ():=Qj
theorem QkH(ops)(k:Fr→KS→Option β)(l):Gg P D ops [] f K k l=k f K:=Qj
theorem QcT(ops r)(k:Fr→KS→Option β)(d op t pos after l):Gg P D ops (⟨some d,op,t,pos,after,none⟩::r) f K k l=oop P D op f K (λv K'=>Rb v (λv=>Gg P D ops r (up f d v) K' k ()) ()) ():=Qj
theorem w7(ops r)(k:Fr→KS→Option β)(op t pos after l):Gg P D ops (⟨none,op,t,pos,after,none⟩::r) f K k l=oop P D op f K (λv K'=>Gg P D ops r f K' k ()) ():=Qj
theorem c_g(ops r)(k:Fr→KS→Option β)(d op t pos after j want l):Gg P D ops (⟨some d,op,t,pos,after,some (j,want)⟩::r) f K k l =
  ogd ((ops[j]?).bind (·.dst)) want f (λf=>oop P D op f K (λv K'=>Rb v (λv=>Gg P D ops r (up f d v) K' k ()) ()) ()) (λf=>Rb (.tup []) (λv=>Gg P D ops r (up f d v) K k ()) ()) ():=Qj
theorem QsH(ops r)(k:Fr→KS→Option β)(op t pos after j want l):Gg P D ops (⟨none,op,t,pos,after,some (j,want)⟩::r) f K k l =
  ogd ((ops[j]?).bind (·.dst)) want f (λf=>oop P D op f K (λv K'=>Gg P D ops r f K' k ()) ()) (λf=>Gg P D ops r f K k ()) ():=Qj
def xQ(v:AV)(d:Nat)(want:Bool)(f:Fr)(yes no:Fr→Option β)(_:Lk (f,yes,no)):Option β :=
 match v with
 |.b x=>cond x (cond want (yes (up f d (.b true))) (no (up f d (.b true)))) (cond want (no (up f d (.b false))) (yes (up f d (.b false))))
 |.tup []=>no f
 |_=>none
theorem QoK(d want)(yes no:Fr→Option β)(l):ogd (some d) want f yes no l=xQ (f d) d want f yes no ():=by
 cases want<;>rfl
theorem zU(b d)(yes no:Fr→Option β)(l):xQ (.b b) d true f yes no l=cond b (yes (up f d (.b true))) (no (up f d (.b false))):=Qj
theorem QaH(b d)(yes no:Fr→Option β)(l):xQ (.b b) d false f yes no l=cond b (no (up f d (.b true))) (yes (up f d (.b false))):=Qj
theorem zf(d w)(yes no:Fr→Option β)(l):xQ (.tup []) d w f yes no l=no f:=Qj
theorem Qeg(x l):oop P D (.move x) f K k l=k (ev f x) K:=Qj
theorem py(x l):oop P D (.assign x) f K k l=k (ev f x) K:=Qj
theorem Qa8(c x y l):oop P D (.pick c x y) f K k l=T1 (ev f c) (ev f x) (ev f y) (λv=>k v K) ():=Qj
theorem wF(t l):oop P D (.alloc t) f K k l=U9 K (tzc P t) k ():=Qj
theorem Qma(t v l):oop P D (.box t v) f K k l=iL K (ev f v) k ():=Qj
theorem uY(t ps l):oop P D (.build t (List.toArray ps)) f K k l=Sl K (tbd P t) (ps.map λp=>(p.1,ev f p.2)) (λv=>k v K) ():=Qj
theorem uo(t len ps l):oop P D (.buildSlice t len (List.toArray ps)) f K k l=Mg (zB (GH P t)) (GH P t) K (tse P t) len (ps.map λp=>(p.1,ev f p.2)) k ():=Qj
theorem Qch(t x l):oop P D (.load t x) f K k l=KF (tk P t) (Zv K (ev f x)) (λv=>k v K) ():=Qj
theorem xC(t p v l):oop P D (.store t p v) f K k l=OV (flT P t) (slz P 9 t) K (tk P t) (ev f p) (ev f v) (λK=>k .u K) ():=Qj
theorem Qnw(op t x y s l):oop P D (.binOp op t x (.tmp y) s) f K k l=Ap (SY P t) op (ev f x) (ev f (.tmp y)) (λv=>k v K) ():=Qj
theorem Qdg(op t x c n s l):oop P D (.binOp op t x (.const (.int c n)) s) f K k l=Ap (SY P t) op (ev f x) (ev f (.const (.int c n))) (λv=>k v K) ():=Qj
theorem QdN(op t x c s l):oop P D (.binOp op t x (.const (.bool c)) s) f K k l=Ap (SY P t) op (ev f x) (ev f (.const (.bool c))) (λv=>k v K) ():=Qj
theorem Qcz(op t x c s l):oop P D (.binOp op t x (.const (.string c)) s) f K k l=Ap (SY P t) op (ev f x) (ev f (.const (.string c))) (λv=>k v K) ():=Qj
theorem QcG(op t x s l)(h:HT P t=true):oop P D (.binOp op t x (.const (.slice none 0 0)) s) f K k l=RG op (ev f x) (λv=>k v K) ():=by simp[oop,ES,h]
theorem QlJ(g caps l):oop P D (.makeFunc (.func g) (List.toArray []) (List.toArray caps)) f K k l=k (.clo g (caps.map (ev f))) K:=by simp[oop]
theorem Qjt(s t x l)(h:bsl P s=true):oop P D (.convert s t x) f K k l=eR K (ti P t) (ev f x) (λv=>k v K) ():=by simp[oop,h]
theorem QiZ(s t x l)(h:bsl P s=false)(h2:tok P s=true):oop P D (.convert s t x) f K k l=fG (ti P t) (ev f x) (λv=>k v K) ():=by simp[oop,h,h2]
theorem QgD(t x lo hi l):oop P D (.slice t x lo hi none) f K k l=MN (ti P t) (ev f x) (lo.map (ev f)) (hi.map (ev f)) (λv=>k v K) ():=Qj
theorem QfM(t x i l):oop P D (.index t x i) f K k l=pu (ti P t) (ev f x) (ev f i) (λv=>k v K) ():=Qj
theorem QjQ(x l):oop P D (.nilCheck x) f K k l=qC K (ev f x) (λv=>k v K) ():=Qj
theorem Qoe(op t x l):oop P D (.unOp op t x) f K k l=oun op (ev f x) (λv=>k v K) ():=Qj
theorem Qpc(t x fl l):oop P D (.fieldAddr t x fl) f K k l=pa K (ev f x) (tfo P t fl) (λv=>k v K) ():=Qj
theorem Qtn(t x i l):oop P D (.indexAddr t x i) f K k l=dU K (ti P t) (ev f x) (ev f i) (λv=>k v K) ():=Qj
theorem Qhj(t x i l):oop P D (.field t x i) f K k l=qG (tfo P t i) (ev f x) (λv=>k v K) ():=Qj
theorem Qns(x i l):oop P D (.extract x i) f K k l=qe (ev f x) i (λv=>k v K) ():=Qj
theorem QjC(x t ts l):oop P D (.call ⟨.builtin .len,List.toArray [x],List.toArray (t::ts)⟩) f K k l=gy K (ti P t) (ev f x) (λv=>k v K) ():=Qj
theorem QgZ(x y ts l):oop P D (.call ⟨.builtin .min,List.toArray [x,y],ts⟩) f K k l=sy (ev f x) (ev f y) (λv=>k v K) ():=Qj
theorem Qhb(x y ts l):oop P D (.call ⟨.builtin .max,List.toArray [x,y],ts⟩) f K k l=uc (ev f x) (ev f y) (λv=>k v K) ():=Qj
theorem Qci(g args ts l):oop P D (.call ⟨.value g,List.toArray args,ts⟩) f K k l=gC (ev f g) (λg caps=>Kt D g K (args.map (ev f)++caps) k ()) ():=Qj
theorem QnR(g caps)(k:FuncId→List AV→Option β)(l):gC (.clo g caps) k l=k g caps:=Qj
theorem vX(g vs l):Kt D g K vs k l=ZE (D.p g (Yo (D.z g) (Gc K vs))) (λx=>k (Xk K.length x).1 (K++(Xk K.length x).2)) ():=Qj
end
def QdO{β:Type}(o:Option Bool)(k:Bool→Option β)(_:Lk k):Option β:=match o with|some b=>k b|none=>none
section
variable{β:Type}{k:AV→Option β}{c:IntKind}{a b:Int}{te:Option (List CK)}
theorem QcD(K j i o l):qC K (.ptr j i o) k l=lU (kg K j) (.ptr j i o) k ():=Qj
theorem QdM(e x l):lU (some e) x k l=k x:=Qj
theorem Qei(K n r i o l):qC K (.iptr n r i o) k l=k (.iptr n r i o):=Qj
theorem Qaq(l):Ap te .and (.i c a) (.i c b) k l=k (.i c (Yb .and c a b)):=by simp[Ap,K4]
theorem Qmz(l):Ap te .or (.i c a) (.i c b) k l=k (.i c (Yb .or c a b)):=by simp[Ap,K4]
theorem QkV(l):Ap te .xor (.i c a) (.i c b) k l=k (.i c (Yb .xor c a b)):=by simp[Ap,K4]
theorem Qhh(d l):Ap te .shl (.i c a) (.i d b) k l=VI (decide (0≤b)) (k (.i c (shI .shl c a b))) ():=by simp[Ap,K4]
theorem Qfs(d l):Ap te .shr (.i c a) (.i d b) k l=VI (decide (0≤b)) (k (.i c (shI .shr c a b))) ():=by simp[Ap,K4]
theorem QgB(l):Ap te .add (.i c a) (.i c b) k l=k (.i c (c.wrap (a+b))):=by simp[Ap,K4]
theorem Qi6(l):Ap te .sub (.i c a) (.i c b) k l=k (.i c (c.wrap (a-b))):=by simp[Ap,K4]
theorem QhY(l):Ap te .mul (.i c a) (.i c b) k l=k (.i c (c.wrap (a*b))):=by simp[Ap,K4]
theorem QiE(l):Ap te .quo (.i c a) (.i c b) k l=VI (!decide (b=0)) (k (.i c (c.wrap (a.tdiv b)))) ():=by simp[Ap,K4]
theorem Qge(l):Ap te .rem (.i c a) (.i c b) k l=VI (!decide (b=0)) (k (.i c (a.tmod b))) ():=by simp[Ap,K4]
theorem Qmn(l):Ap te .eql (.i c a) (.i c b) k l=k (.b (decide (a=b))):=by simp[Ap,K4]
theorem Qje(l):Ap te .neq (.i c a) (.i c b) k l=k (.b (!decide (a=b))):=by simp[Ap,K4]
theorem QlN(l):Ap te .lss (.i c a) (.i c b) k l=k (.b (decide (a<b))):=by simp[Ap,K4]
theorem Qkq(l):Ap te .leq (.i c a) (.i c b) k l=k (.b (decide (a≤b))):=by simp[Ap,K4]
theorem Qlg(l):Ap te .gtr (.i c a) (.i c b) k l=k (.b (decide (b<a))):=by simp[Ap,K4]
theorem QjE(l):Ap te .geq (.i c a) (.i c b) k l=k (.b (decide (b≤a))):=by simp[Ap,K4]
theorem Qib(ks xs ys l):Ap (some ks) .eql (.agg xs) (.agg ys) k l=QdO (Vm ks xs ys) (λb=>k (.b b)) ():=Qj
theorem QiT(ks xs ys l):Ap (some ks) .neq (.agg xs) (.agg ys) k l=QdO (Vm ks xs ys) (λb=>k (.b (!b))) ():=Qj
theorem Qke(x y l):Ap (some [.t]) .eql (.b x) (.b y) k l=k (.b (decide (x=y))):=Qj
theorem Qgq(x y l):Ap (some [.t]) .neq (.b x) (.b y) k l=k (.b (!decide (x=y))):=Qj
theorem QhC(b)(k:Bool→Option β)(l):QdO (some b) k l=k b:=Qj
theorem Qeh(x y l):Ap te .add (.s x) (.s y) k l=VI (Vb x y) (k (.s (Qr x y))) ():=by simp[Ap,Vb,Qr]
theorem Qem(x y l):Ap te .eql (.s x) (.s y) k l=k (.b (decide (x=y))):=by simp[Ap]
theorem Qbz(x y l):Ap te .neq (.s x) (.s y) k l=k (.b (!decide (x=y))):=by simp[Ap]
def zw(o:Option AV)(k:AV→Option β)(_:Lk k):Option β:=match o with|some c=>k c|none=>none
theorem QiF(cs i l):qe (.tup cs) i k l=zw (cs[i]?) k ():=Qj
theorem Qcr(c l):zw (some c) k l=k c:=Qj
theorem Qfl:Vm [] [] []=some true:=Qj
theorem QmW(ks c x y xs ys):Vm (.i::ks) (.i c x::xs) (.i c y::ys)=(Vm ks xs ys).map (decide (x=y)&&·):=by simp[Vm]
theorem Qh5(ks x y xs ys):Vm (.b::ks) (.b x::xs) (.b y::ys)=(Vm ks xs ys).map (decide (x=y)&&·):=Qj
theorem QhD(ks x y xs ys):Vm (.s::ks) (.s x::xs) (.s y::ys)=(Vm ks xs ys).map (decide (x=y)&&·):=Qj
theorem QgU(x l):oun .not (.b x) k l=k (.b (!x)):=Qj
theorem Qkr(l):oun .neg (.i c a) k l=k (.i c (c.wrap (-a))):=Qj
theorem yL(x y:AV)(l):T1 (.b true) x y k l=k x:=Qj
theorem yN(x y:AV)(l):T1 (.b false) x y k l=k y:=Qj
theorem uS(x y:Bool)(c:Bool)(l):T1 (.b c) (.b x) (.b y) k l=k (.b (cond c x y)):=by cases c<;>rfl
theorem Qlu(l):sy (.i c a) (.i c b) k l=k (.i c (if b<a then b else a)):=Qj
theorem QiA(l):uc (.i c a) (.i c b) k l=k (.i c (if a<b then b else a)):=Qj
theorem QeC(e:Option Ent)(K:KS):kg (e::K) 0=e:=Qj
theorem Qi5(e:Option Ent)(K:KS)(j:Nat):kg (e::K) (j+1)=kg K j:=Qj
theorem Qb7{α:Type}(e e':α)(K:List α):(e::K).set 0 e'=e'::K:=Qj
theorem Qdk{α:Type}(e e':α)(K:List α)(j:Nat):(e::K).set (j+1) e'=e::K.set j e':=Qj
theorem QjJ{α:Type}(e:α)(K L:List α):(e::K)++L=e::(K++L):=Qj
theorem Qa2{α:Type}(L:List α):[]++L=L:=Qj
theorem Qbb{α:Type}:([]:List α).length=0:=Qj
theorem QbA{α:Type}(e:α)(K:List α):(e::K).length=K.length+1:=Qj
theorem vh{α:Type}(K:List α):K.drop 0=K:=Qj
theorem uI{α:Type}(e:α)(K:List α)(n:Nat):(e::K).drop (n+1)=K.drop n:=Qj
theorem wL{α:Type}(K:List α):K.take 0=[]:=by simp
theorem vD{α:Type}(e:α)(K:List α)(n:Nat):(e::K).take (n+1)=e::K.take n:=Qj
def lnR(r:List (List AV)):Int:=r.length
theorem qj(K e m n r l):gy K (.sl e m) (.imm n r) k l=k (.i .i64 (lnR r)):=Qj
theorem Qmv(n r)(k:AV→Option β)(l):RG .eql (.imm n r) k l=Tc r.isEmpty (k (.b true)) (k (.b false)):=Qj
theorem QbV(n r)(k:AV→Option β)(l):RG .neq (.imm n r) k l=Tc r.isEmpty (k (.b false)) (k (.b true)):=Qj
theorem QdQ(x:Option β)(b):Tc b x x=x:=by cases b<;>simp[Tc,oeq]
theorem QcR(n:Nat)(R:List (List AV))(b:Nat)(m):Tc R.isEmpty (some (AV.own n [])) (VI (decide (R.length*b≤140737488355328)) (some (AV.own n R)) m)=VI (decide (R.length*b≤140737488355328)) (some (AV.own n R)) ():=by
 cases R with
 |nil=>simp[Tc,oeq,VI]
 |cons r R=>rfl
theorem tD(K e m l):gy K (.sl e m) .nil k l=k (.i .i64 0):=Qj
def y5(e:Option Ent)(k:AV→Option β)(_:Lk k):Option β:=match e with|some e=>k (.i .i64 (lnR e.rows))|none=>none
theorem Qcv(c d a l):fG (.int c) (.i d a) k l=k (.i c (c.wrap a)):=Qj
def jo(o:Option (List UInt8))(k:AV→Option β)(_:Lk k):Option β:=match o with|some s=>k (.s s)|none=>none
def sB(e:Option Ent)(k:AV→Option β)(_:Lk k):Option β:=match e with|some (.lst 1 rows)=>jo (Fi rows) k ()|_=>none
theorem QlO(K j l):eR K .str (.sl j) k l=sB (kg K j) k ():=Qj
theorem Qbl(r l):sB (some (.lst 1 r)) k l=jo (Fi r) k ():=Qj
theorem Qco(s l):jo (some s) k l=k (.s s):=Qj
theorem QdA:Fi []=some []:=Qj
theorem uX(n r):Fi ([.i .u8 n]::r)=(Fi r).map (UInt8.ofNat n.toNat::·):=by
 show(match bj [.i .u8 n],Fi r with|some x,some xs=>some (x::xs)|_,_=>none)=_
 simp only[bj];cases Fi r<;>rfl
theorem yg(K e m j l):gy K (.sl e m) (.sl j) k l=y5 (kg K j) k ():=Qj
theorem pI(n r l):y5 (some (.lst n r)) k l=k (.i .i64 (lnR r)):=Qj
theorem pw(K x l):gy K .str (.s x) k l=k (.i .i64 (ln x)):=Qj
theorem Qce(K n r i p o t l):pa K (.iptr n r i p) (some (o,t)) k l=k (.iptr n r i (p+o)):=Qj
def zm(e:Option Ent)(v:AV)(k:AV→Option β)(_:Lk k):Option β:=match e with|some _=>k v|none=>none
theorem Qm7(K j i p o t l):pa K (.ptr j i p) (some (o,t)) k l=zm (kg K j) (.ptr j i (p+o)) k ():=Qj
theorem Qb0(e v l):zm (some e) v k l=k v:=Qj
theorem Qbx(K e m r kd i l):dU K (.sl e m) (.imm m r) (.i kd i) k l=VI (inb r i) (k (.iptr m r i.toNat 0)) ():=by simp[dU]
def pX(e:Option Ent)(m:Nat)(j:Nat)(i:Int)(k:AV→Option β)(_:Lk k):Option β:=match e with|some e=>if m=e.n then VI (inb e.rows i) (k (.ptr j i.toNat 0)) ()else none|none=>none
theorem Qk6(K e m j kd i l):dU K (.sl e m) (.sl j) (.i kd i) k l=pX (kg K j) m j i k ():=Qj
theorem QbD(m r j i l):pX (some (.lst m r)) m j i k l=VI (inb r i) (k (.ptr j i.toNat 0)) ():=by simp[pX,Ent.n,Ent.rows]
def z6(e:Option Ent)(n:Nat)(i:Int)(p:AV)(k:AV→Option β)(_:Lk k):Option β:=match e with|some _=>VI (aS n i) (k p) ()|none=>none
theorem QcB(K e n m j r o kd i l):dU K (.arr n e m) (.ptr j r o) (.i kd i) k l=z6 (kg K j) n i (.ptr j r (o+i.toNat*m)) k ():=Qj
theorem Qdc(e n i p l):z6 (some e) n i p k l=VI (aS n i) (k p) ():=Qj
theorem QdS(e m r h c l):MN (.sl e m) (.imm m r) none (some (.i c h)) k l=VI (slB 0 h (lnR r)) (k (.imm m (cut r 0 h))) ():=by simp[MN,bd,lnR]
theorem Qbe(e m r h c l):MN (.sl e m) (.imm m r) (some (.i c h)) none k l=VI (slB h (lnR r) (lnR r)) (k (.imm m (cut r h (lnR r)))) ():=by simp[MN,bd,lnR]
theorem Qd1(e m r h h' c c' l):MN (.sl e m) (.imm m r) (some (.i c h)) (some (.i c' h')) k l=VI (slB h h' (lnR r)) (k (.imm m (cut r h h'))) ():=by simp[MN,bd,lnR]
theorem QbI(r h c l):MN .str (.s r) none (some (.i c h)) k l=VI (slB 0 h (ln r)) (k (.s (cut r 0 h))) ():=by simp[MN,bd,ln]
theorem QbT(r h c l):MN .str (.s r) (some (.i c h)) none k l=VI (slB h (ln r) (ln r)) (k (.s (cut r h (ln r)))) ():=by simp[MN,bd,ln]
theorem QcF(r h h' c c' l):MN .str (.s r) (some (.i c h)) (some (.i c' h')) k l=VI (slB h h' (ln r)) (k (.s (cut r h h'))) ():=by simp[MN,bd,ln]
theorem Qfr(r i c l):pu .str (.s r) (.i c i) k l=VI (inb r i) (k (.i .u8 ((gt r i).toNat:Int))) ():=Qj
class Strs (cs:List AV) (xs:outParam (List (List UInt8))):Prop where
 eq:cs=xs.map AV.s
instance:Strs [] []:=⟨rfl⟩
instance(x cs xs)[h:Strs cs xs]:Strs (.s x::cs) (x::xs):=⟨by rw[h.eq];rfl⟩
theorem Qdb{cs:List AV}{xs:List (List UInt8)}[h:Strs cs xs](i:Int)(hi:aS cs.length i=true)(l):KF .one (cs.drop (0+i.toNat*1)) k l=k (.s (gt xs i)):=by
 have hcs:=h.eq;subst hcs;simp[aS]at hi;have h2:i.toNat<xs.length:=by omega
 rw[Nat.zero_add,Nat.mul_one,List.drop_eq_getElem_cons (by simpa using h2)]
 simp[KF,gt,List.getD_eq_getElem?_getD,h2]
theorem QpL(K n r i o):Zv K (.iptr n r i o)=((Va r i).drop o).map ld:=Qj
def jc(e:Option Ent)(i o:Nat):List AV:=match e with|some (.box cs)=>if i=0 then cs.drop o else[]|some (.lst _ rows)=>((Va rows i).drop o).map ld|none=>[]
theorem m_c(K j i o):Zv K (.ptr j i o)=jc (kg K j) i o:=Qj
theorem QbL(cs o):jc (some (.box cs)) 0 o=cs.drop o:=Qj
theorem QaY(n r i o):jc (some (.lst n r)) i o=((Va r i).drop o).map ld:=Qj
theorem QaZ{α γ:Type}(g:α→γ):[].map g=[]:=Qj
theorem QbF{α γ:Type}(g:α→γ)(x l):(x::l).map g=g x::l.map g:=Qj
theorem Ql5(x):ld (.b x)=.b x:=Qj
theorem QkN(c x):ld (.i c x)=.i c x:=Qj
theorem Qgc(x):ld (.s x)=.s x:=Qj
theorem u6(n x):ld (.imm n x)=.imm n x:=Qj
theorem yj:ld .nil=.nil:=Qj
theorem w4(n x):ld (.own n x)=.u:=Qj
theorem QlS(o t cs l):qG (some (o,t)) (.agg cs) k l=KF t (cs.drop o) k ():=Qj
theorem wj(c cs l):KF .one (c::cs) k l=k c:=Qj
def tP(b:Bool)(v:AV)(k:AV→Option β)(_:Lk k):Option β:=cond b (k v) none
theorem yQ(m cs l):KF (.agg m) cs k l=tP (Nat.blt 0 m&&Nat.ble m cs.length) (.agg (cs.take m)) k () :=
 FO (by simp only[Bool.and_eq_true,TA,PQ]) _ _
theorem vK(v l):tP true v k l=k v:=Qj
theorem vW(K cs)(k:AV→KS→Option β)(l):U9 K (some cs) k l=X6 (K++[some (.box cs)]) (λK'=>k (.ptr K.length 0 0) K') ():=Qj
def okB(b:Bool)(x:Option β)(_:Lk x):Option β:=cond b x none
theorem QqQ(x:Option β)(l):okB true x l=x:=Qj
theorem Qd8(K cs)(k:AV→KS→Option β)(l):iL K (.agg cs) k l=okB (cs.all (Be K)) (X6 (K++[some (.box cs)]) (λK'=>k (.ptr K.length 0 0) K') ()) ():=by
 simp only[iL,okB];cases cs.all (Be K)<;>rfl
theorem QdI(K c x)(k:AV→KS→Option β)(l):iL K (.i c x) k l=X6 (K++[some (.box [.i c x])]) (λK'=>k (.ptr K.length 0 0) K') ():=Qj
theorem Qc8{α:Type}(p:α→Bool):[].all p=true:=Qj
theorem Qa5{α:Type}(p:α→Bool)(x l):(x::l).all p=(p x&&l.all p):=Qj
theorem QhP(K x):Be K (.b x)=true:=Qj
theorem QgH(K c x):Be K (.i c x)=true:=Qj
theorem QlY(K x):Be K (.s x)=true:=Qj
theorem QkW(K):Be K .nil=true:=Qj
theorem Qgb(K):Be K .z=true:=Qj
theorem xE(K n r):Be K (.imm n r)=true:=Qj
theorem xh(K n r):Be K (.clo n r)=true:=Qj
theorem Qdp(K j):Be K (.sl j)=(kg K j).isSome:=Qj
theorem wh(K j i o):Be K (.ptr j i o)=(kg K j).isSome:=Qj
theorem Qqn{α:Type}(x:α):(some x).isSome=true:=Qj
theorem QfO(x):AV.closed (.b x)=true:=Qj
theorem QkU(c x):AV.closed (.i c x)=true:=Qj
theorem QhI(x):AV.closed (.s x)=true:=Qj
theorem QfD:AV.closed .nil=true:=Qj
theorem xP(n r):AV.closed (.imm n r)=true:=Qj
theorem QcE(x:Bool):(false&&x)=false:=Qj
theorem Qj7(x:Bool):(true&&x)=x:=Qj
def Ml(fl:Bool)(ns:List Nat)(K:KS)(e:Option Ent)(t:TK)(j i o:Nat)(v:AV)(k:KS→Option β)(_:Lk k):Option β :=
 match e with
  |some (.box cs)=>if i=0 then MJ cs o t v (Be K) (λcs=>X6 (K.set j (some (.box cs))) k ()) ()else none
  |some (.lst n rows)=>if(CH v).all clq=true then(if i<rows.length then MJ (Va rows i) o t v AV.closed (λr=>X6 (K.set j (some (.lst n (rows.set i r)))) k ()) ()else none)else if fl=false then OL ns K t j i o n rows v k ()else none
  |none=>none
theorem xK(fl ns K t j i o v)(k:KS→Option β)(l):OV fl ns K t (.ptr j i o) v k l=Ml fl ns K (kg K j) t j i o v k ():=by
 show(match kg K j with|some (.lst n rows)=>_|_=>_)=_
 cases h:kg K j with
 |none=>simp[Ml,RV,h]
 |some e=>cases e<;>simp[Ml,RV,h]
theorem ub(fl ns K cs t j o v)(k:KS→Option β)(l):Ml fl ns K (some (.box cs)) t j 0 o v k l=MJ cs o t v (Be K) (λcs=>X6 (K.set j (some (.box cs))) k ()) ():=Qj
def Tz(b fl:Bool)(ns:List Nat)(K:KS)(n:Nat)(r:List (List AV))(t:TK)(j i o:Nat)(v:AV)(k:KS→Option β)(_:Lk k):Option β :=
 cond b (if i<r.length then MJ (Va r i) o t v AV.closed (λr'=>X6 (K.set j (some (.lst n (r.set i r')))) k ()) ()else none) (if fl=false then OL ns K t j i o n r v k ()else none)
theorem sU(fl ns K n r t j i o v)(k:KS→Option β)(l):Ml fl ns K (some (.lst n r)) t j i o v k l=Tz ((CH v).all clq) fl ns K n r t j i o v k ():=by
 simp only[Ml,Tz];cases (CH v).all clq<;>rfl
theorem Qho(ds):CH (.agg ds)=ds:=Qj
theorem Qnv(c x):CH (.i c x)=[.i c x]:=Qj
theorem QgT(x):CH (.b x)=[.b x]:=Qj
theorem Qis(x):CH (.s x)=[.s x]:=Qj
theorem Qhw:CH .nil=[.nil]:=Qj
theorem Qi2(n r):CH (.imm n r)=[.imm n r]:=Qj
theorem QkQ(j):CH (.sl j)=[.sl j]:=Qj
theorem QcX(j):clq (.sl j)=false:=Qj
theorem Qmc(x):clq (.b x)=true:=Qj
theorem Qfa(c x):clq (.i c x)=true:=Qj
theorem QkY(x):clq (.s x)=true:=Qj
theorem Qg2:clq .nil=false:=Qj
theorem Qhf(n r):clq (.imm n r)=true:=Qj
theorem Qrm(cs):nz [] cs=cs:=by cases cs<;>rfl
theorem Qpe(ns):nz ns []=[]:=by cases ns<;>rfl
theorem Qps(n ns c cs):nz (n::ns) (c::cs)=nzc n c::nz ns cs:=Qj
theorem QqA(n x):nzc n (.b x)=.b x:=Qj
theorem QnV(n c x):nzc n (.i c x)=.i c x:=Qj
theorem QqE(n x):nzc n (.s x)=.s x:=Qj
theorem QsN(n):nzc n .nil=.own n []:=Qj
theorem Qoq(n m r):nzc n (.own m r)=.own m r:=Qj
theorem QrG(n m r):nzc n (.imm m r)=.imm m r:=Qj
theorem Qo5(k v):aG (.z k) v=nzc k v:=Qj
theorem QqX(v):aG .n v=v:=Qj
theorem QpH(ns cs):aG (.a ns) (.agg cs)=.agg (nz ns cs):=Qj
theorem QsG(v):Ye [] v=v:=Qj
theorem Qry(s v):Ye [s] v=aG s v:=Qj
theorem QsL(s s' ss vs):Ye (s::s'::ss) (.tup vs)=.tup (gu (s::s'::ss) vs):=Qj
theorem Qqx(s ss v vs):gu (s::ss) (v::vs)=aG s v::gu ss vs:=Qj
theorem Qfz(vs):gu [] vs=vs:=Qj
theorem Qj3(m ds l):a8 (.agg m) (.agg ds) l=(m==l):=Qj
theorem Qia(j l):a8 .one (.sl j) l=(l==1):=Qj
def ke(ns:List Nat)(K:KS)(a:Option (KS×List AV))(t:TK)(j o n i:Nat)(r:List (List AV))(v:AV)(k:KS→Option β)(_:Lk k):Option β :=
 match a with
  |some (K1,ds)=>if(kg K1 j).isSome=true∧a8 t v ds.length=true∧o+ds.length≤(Va r i).length then X6 (K1.set j (some (.lst n (r.set i (putCells (Va r i) o (nz ns ds)))))) k ()else none
  |none=>none
theorem QrB(ns K K1 ds t j o n i r v)(k:KS→Option β)(l):ke ns K (some (K1,ds)) t j o n i r v k l=okB ((kg K1 j).isSome&&(a8 t v ds.length&&Nat.ble (o+ds.length) (Va r i).length)) (X6 (K1.set j (some (.lst n (r.set i (putCells (Va r i) o (nz ns ds)))))) k ()) () :=
 FO (by simp only[Bool.and_eq_true,PQ]) _ _
def Yj(r:List (List AV))(i:Nat):Bool:=Nat.blt i r.length
theorem w_n(D:Orc)(f:Fr)(K:KS)(j i o q r v m rs)(k:AV→KS→Option β)(l):onr D f K j i o q r (v,[some (.lst m rs)]) k l=VI (v.flat&&Yj r i) (X6 (K.set j (some (.lst q (r.set i (putCells (Va r i) o [.own m rs]))))++[none]) (λK'=>k v K') ()) ():=Qj
theorem Qdm(x r):Yj (x::r) 0=true:=by simp[Yj,Nat.blt_eq]
theorem QcK(x r i):Yj (x::r) (i+1)=Yj r i:=by
 unfold Yj;rw[Bool.eq_iff_iff,Nat.blt_eq,Nat.blt_eq];simp
theorem QaX(fl ns K n r t j i o v)(k:KS→Option β)(l):Tz true fl ns K n r t j i o v k l=okB (Yj r i) (MJ (Va r i) o t v AV.closed (λr'=>X6 (K.set j (some (.lst n (r.set i r')))) k ()) ()) () :=
 FO TA _ _
theorem QdV(ns K n r t j i o v)(k:KS→Option β)(l):Tz false false ns K n r t j i o v k l=okB (Yj r i) (ke ns K (V6 K (CH v)) t j o n i r v k ()) () :=
 FO TA _ _
theorem Qej(cs o m ds ok)(k:List AV→Option β)(l):MJ cs o (.agg m) (.agg ds) ok k l=okB ((m==ds.length)&&(Nat.ble (o+m) cs.length&&ds.all ok)) (k (putCells cs o ds)) () :=
 FO (by simp only[Bool.and_eq_true,beq_iff_eq,PQ]) _ _
theorem oq(cs:List AV)(o:Nat)(v:AV)(ok:AV→Bool)(k:List AV→Option β):(if o<cs.length∧ok v=true then k (cs.set o v)else none)=okB (Nat.blt o cs.length&&ok v) (k (cs.set o v)) () :=
 FO (by simp only[Bool.and_eq_true,TA]) _ _
theorem QcN(cs o x ok)(k:List AV→Option β)(l):MJ cs o .one (.b x) ok k l=okB (Nat.blt o cs.length&&ok (.b x)) (k (cs.set o (.b x))) ():=oq ..
theorem Qdo(cs o c x ok)(k:List AV→Option β)(l):MJ cs o .one (.i c x) ok k l=okB (Nat.blt o cs.length&&ok (.i c x)) (k (cs.set o (.i c x))) ():=oq ..
theorem QdB(cs o x ok)(k:List AV→Option β)(l):MJ cs o .one (.s x) ok k l=okB (Nat.blt o cs.length&&ok (.s x)) (k (cs.set o (.s x))) ():=oq ..
theorem Qa4(cs o ok)(k:List AV→Option β)(l):MJ cs o .one .nil ok k l=okB (Nat.blt o cs.length&&ok .nil) (k (cs.set o .nil)) ():=oq ..
theorem wq(cs o j ok)(k:List AV→Option β)(l):MJ cs o .one (.sl j) ok k l=okB (Nat.blt o cs.length&&ok (.sl j)) (k (cs.set o (.sl j))) ():=oq ..
theorem pt(cs o n r ok)(k:List AV→Option β)(l):MJ cs o .one (.imm n r) ok k l=okB (Nat.blt o cs.length&&ok (.imm n r)) (k (cs.set o (.imm n r))) ():=oq ..
theorem Qr9(cs o ds):putCells cs o ds=cs.take o++ds++cs.drop (o+ds.length):=Qj
theorem QdT(P z nr S rs f K):SF P z nr S rs .normal f K=Wg P z S rs nr f K ():=Qj
theorem QbK(P z nr S rs f K):SF P z nr S rs .ret f K=Wg P z S rs nr f K ():=Qj
theorem QjK(P z S rs f K l):Wg P z S rs none f K l=ZE (Fy f K P rs) (λvs=>VI (rok (tkl z K).length (I3 vs)&&(Nj (tkl z K)&&Nat.ble z.length (tkl z K).length)) (some (I3 vs,tkl z K)) ()) ():=Qj
theorem Ql4(P z S rs r f K l):Wg P z S rs (some r) f K l=ZE (Fy f K P rs) (λvs=>Hy z [S] r (up f S (I3 vs)) K (λf K=>Rb (f S) (λv=>VI (rok K.length v&&(Nj K&&Nat.ble z.length K.length)) (some (v,K)) ()) ()) ()) ():=Qj
theorem Qlz{α:Type}:(none:Option α).isSome=false:=Qj
theorem Qk9{α:Type}(x:α):(some x).isSome=true:=Qj
theorem Qkn(K):tkl [] K=[]:=by cases K<;>rfl
theorem Qm9(x z e K):tkl (x::z) (e::K)=e::tkl z K:=Qj
theorem uE(P sh rs f K):Nu P sh rs .normal f K=ZE (Fy f K P rs) (λvs=>(D0 (fgt sh rs) K (I3 vs)).map λp=>Ye sh p.2) ():=Qj
theorem we(P sh rs f K):Nu P sh rs .ret f K=ZE (Fy f K P rs) (λvs=>(D0 (fgt sh rs) K (I3 vs)).map λp=>Ye sh p.2) ():=Qj
theorem QgI(f K P):Fy f K P []=some []:=Qj
theorem Qkw(f K P t rs):Fy f K P (.tmp t::rs)=(Fy f K P rs).map (f t::·):=Qj
theorem QbW(f K P x t rs):Fy f K P (.cell x t::rs)=ZE (KF (tk P t) (Zv K (f x)) some ()) (λv=>(Fy f K P rs).map (v::·)) ():=Qj
theorem WL{α γ:Type}(g:α→γ)(x:α):(some x).map g=some (g x):=Qj
theorem jl{α γ:Type}(g:α→γ):(none:Option α).map g=none:=Qj
theorem Qnj(v):I3 [v]=v:=Qj
theorem Qgn(v w vs):I3 (v::w::vs)=.tup (v::w::vs):=Qj
theorem Qbd:I3 []=.tup []:=Qj
theorem x_b(q)(K x):D0 q K (.b x)=some (K,.b x):=Qj
theorem x_i(q)(K c x):D0 q K (.i c x)=some (K,.i c x):=Qj
theorem x_s(q)(K x):D0 q K (.s x)=some (K,.s x):=Qj
theorem QkF(q)(K):D0 q K .nil=some (K,.nil):=Qj
theorem Qm8(q)(K n r):D0 q K (.imm n r)=cond q (some (K,.z)) none:=by simp[D0]
theorem x_u(q)(K):D0 q K .u=some (K,.u):=by simp[D0]
theorem Qnk(q)(K cs):D0 q K (.agg cs)=(HK q K cs).map λp=>(p.1,.agg p.2):=by simp[D0]
theorem Qlv(q)(K cs):D0 q K (.tup cs)=(HK q K cs).map λp=>(p.1,.tup p.2):=by simp[D0]
def zT(K:KS)(e:Option Ent)(j:Nat):Option (KS×AV):=match e with|some (.lst n rows)=>if QF rows=true then some (K.set j none,.own n rows)else none|_=>none
theorem QpR(q)(K j):D0 q K (.sl j)=zT K (kg K j) j:=by rw[D0];rfl
theorem Qtt:QF []=true:=Qj
theorem Qpp(r rs):QF (r::rs)=cond (Xr r) (QF rs) false:=by rw[show QF (r::rs)=(Xr r&&QF rs)by simp[QF]];cases Xr r<;>rfl
theorem Qsl:Xr []=true:=Qj
theorem Qpk(c cs):Xr (c::cs)=cond (AV.clean c) (Xr cs) false:=by rw[show Xr (c::cs)=(AV.clean c&&Xr cs)by simp[Xr]];cases AV.clean c<;>rfl
theorem k_i(k n):AV.clean (.i k n)=true:=Qj
theorem k_b(x):AV.clean (.b x)=true:=Qj
theorem k_s(x):AV.clean (.s x)=true:=Qj
theorem Qil(K n r j):zT K (some (.lst n r)) j=cond (QF r) (some (K.set j none,.own n r)) none:=FO Iff.rfl _ _
theorem Qdx(q)(K):HK q K []=some (K,[]):=by simp[HK]
def il(q:Bool)(e:Option (KS×AV))(cs:List AV):Option (KS×List AV):=match e with|some (K1,c')=>(HK q K1 cs).map λp=>(p.1,c'::p.2)|none=>none
theorem wW(q)(K c cs):HK q K (c::cs)=il q (D0 q K c) cs:=by rw[HK];rfl
theorem Qtr(q)(K c cs):il q (some (K,c)) cs=(HK q K cs).map λp=>(p.1,c::p.2):=Qj
theorem QrU(q)(cs):il q none cs=none:=Qj
theorem QpJ(r):fgt [] r=false:=Qj
theorem Qsi(x s):fgt (x::s) []=true:=Qj
theorem QqY(x s y r):fgt (x::s) (y::r)=fgt s r:=Qj
theorem Qcs(z sl rg f K)(k:Fr→KS→Option β)(l):Hy z sl rg f K k l=Xa rg f K [] (λf K π=>VI (ndB π) (onz z π (X6 (wD K π) (λK'=>k (yz f π sl) K') ()) ()) ()) ():=Qj
theorem Qkh(π)(q:Option β)(l):onz [] π q l=q:=Qj
theorem Qj5(x z π)(q:Option β)(l):onz (x::z) π q l=VI (pfx (x::z) π) q ():=Qj
theorem QrT(π):pfx [] π=true:=Qj
theorem Qrs(x z y π):pfx (x::z) (y::π)=((x==y)&&pfx z π):=by rw[←Ry];rfl
theorem QrY(x:Nat):([]:List Nat).contains x=false:=Qj
theorem Qqt(x y:Nat)(l:List Nat):(y::l).contains x=((x==y)||l.contains x):=List.contains_cons
theorem Qo7(b:Bool):(false||b)=b:=by cases b<;>rfl
theorem Qq6(b:Bool):(true||b)=true:=by cases b<;>rfl
theorem zD(f K π)(k:Fr→KS→List Nat→Option β)(l):Xa [] f K π k l=k f K π:=Qj
theorem n_r(i r f K π)(k:Fr→KS→List Nat→Option β)(l):Xa (.r i::r) f K π k l=Xa r f K (π++[i]) k ():=Qj
def UH(v:AV)(t n:Nat)(r:List Pt)(f:Fr)(K:KS)(π:List Nat)(k:Fr→KS→List Nat→Option β)(_:Lk (f,k)):Option β:=match v with
  |.sl j=>Xa r f K (π++[j]) k ()
  |.ptr j _ _=>Xa r f K (π++[j]) k ()
  |.nil=>Xa r (up f t (.sl K.length)) (K++[some (.lst n [])]) (π++[K.length]) k ()
  |_=>none
theorem n_s(t n r f K π)(k:Fr→KS→List Nat→Option β)(l):Xa (.s t n::r) f K π k l=UH (f t) t n r f K π k ():=by simp only[Xa,UH];rfl
theorem Qko(j t n r f K π)(k:Fr→KS→List Nat→Option β)(l):UH (.sl j) t n r f K π k l=Xa r f K (π++[j]) k ():=Qj
theorem Qdl(j i o t n r f K π)(k:Fr→KS→List Nat→Option β)(l):UH (.ptr j i o) t n r f K π k l=Xa r f K (π++[j]) k ():=Qj
theorem Qdz(t n r f K π)(k:Fr→KS→List Nat→Option β)(l):UH .nil t n r f K π k l=Xa r (up f t (.sl K.length)) (K++[some (.lst n [])]) (π++[K.length]) k ():=Qj
def RY(c:Option AV)(cs:List AV)(j o n:Nat)(r:List Pt)(f:Fr)(K:KS)(π:List Nat)(k:Fr→KS→List Nat→Option β)(_:Lk (f,k)):Option β:=match c with
  |some (.sl i)=>Xa r f K (π++[i]) k ()
  |some (.ptr i _ _)=>Xa r f K (π++[i]) k ()
  |some .nil=>Xa r f ((K++[some (Ent.lst n [])]).set j (some (Ent.box (cs.set o (.sl K.length))))) (π++[K.length]) k ()
  |_=>none
def bt(e:Option Ent)(j o n:Nat)(r:List Pt)(f:Fr)(K:KS)(π:List Nat)(k:Fr→KS→List Nat→Option β)(_:Lk (f,k)):Option β:=match e with
  |some (.box cs)=>RY (cs[o]?) cs j o n r f K π k ()
  |_=>none
def iC(q:Option Nat)(o n:Nat)(r:List Pt)(f:Fr)(K:KS)(π:List Nat)(k:Fr→KS→List Nat→Option β)(_:Lk (f,k)):Option β:=match q with
  |some j=>bt (kg K j) j o n r f K π k ()
  |none=>none
theorem n_c(q o n r f K π)(k:Fr→KS→List Nat→Option β)(l):Xa (.c q o n::r) f K π k l=iC (π[q]?) o n r f K π k ():=by
 simp only[Xa,iC,bt,RY];cases π[q]? with
 |none=>rfl
 |some j =>
  simp only;cases kg K j with
  |none=>rfl
  |some e =>
   cases e with
   |box cs =>
    simp only;cases cs[o]? with
    |none=>rfl
    |some c=>cases c<;>rfl
   |lst _ _=>rfl
theorem QfR(j o n r f K π)(k:Fr→KS→List Nat→Option β)(l):iC (some j) o n r f K π k l=bt (kg K j) j o n r f K π k ():=Qj
theorem Qm2(cs j o n r f K π)(k:Fr→KS→List Nat→Option β)(l):bt (some (.box cs)) j o n r f K π k l=RY (cs[o]?) cs j o n r f K π k ():=Qj
theorem Qgp(i cs j o n r f K π)(k:Fr→KS→List Nat→Option β)(l):RY (some (.sl i)) cs j o n r f K π k l=Xa r f K (π++[i]) k ():=Qj
theorem QmH(i a b cs j o n r f K π)(k:Fr→KS→List Nat→Option β)(l):RY (some (.ptr i a b)) cs j o n r f K π k l=Xa r f K (π++[i]) k ():=Qj
theorem Ql9(cs j o n r f K π)(k:Fr→KS→List Nat→Option β)(l):RY (some .nil) cs j o n r f K π k l=Xa r f ((K++[some (Ent.lst n [])]).set j (some (Ent.box (cs.set o (.sl K.length))))) (π++[K.length]) k ():=Qj
def Wj(c:Option AV)(cs:List AV)(t o n:Nat)(r:List Pt)(f:Fr)(K:KS)(π:List Nat)(k:Fr→KS→List Nat→Option β)(_:Lk (f,k)):Option β:=match c with
  |some (.sl j)=>Xa r f K (π++[j]) k ()
  |some .nil=>Xa r (up f t (.agg (cs.set o (.sl K.length)))) (K++[some (.lst n [])]) (π++[K.length]) k ()
  |_=>none
def iP(v:AV)(t o n:Nat)(r:List Pt)(f:Fr)(K:KS)(π:List Nat)(k:Fr→KS→List Nat→Option β)(_:Lk (f,k)):Option β:=match v with
  |.agg cs=>Wj (cs[o]?) cs t o n r f K π k ()
  |_=>none
theorem n_g(t o n r f K π)(k:Fr→KS→List Nat→Option β)(l):Xa (.g t o n::r) f K π k l=iP (f t) t o n r f K π k ():=by
 simp only[Xa,iP,Wj];cases f t with
 |agg cs =>
  simp only;cases cs[o]? with
  |none=>rfl
  |some c=>cases c<;>rfl
 |_=>rfl
theorem Qmq(cs t o n r f K π)(k:Fr→KS→List Nat→Option β)(l):iP (.agg cs) t o n r f K π k l=Wj (cs[o]?) cs t o n r f K π k ():=Qj
theorem QmJ(j cs t o n r f K π)(k:Fr→KS→List Nat→Option β)(l):Wj (some (.sl j)) cs t o n r f K π k l=Xa r f K (π++[j]) k ():=Qj
theorem Qna(cs t o n r f K π)(k:Fr→KS→List Nat→Option β)(l):Wj (some .nil) cs t o n r f K π k l=Xa r (up f t (.agg (cs.set o (.sl K.length)))) (K++[some (.lst n [])]) (π++[K.length]) k ():=Qj
theorem Qik:ndB []=true:=Qj
theorem QhM(x l):ndB (x::l)=(!l.contains x&&ndB l):=Qj
def krn(K:KS)(π:List Nat)(l:List Nat):KS:=l.map λj=>(kg K j).map (NS π)
theorem QrP(K π):wD K π=krn K π π:=Qj
theorem Qc2(K π):krn K π []=[]:=Qj
theorem Qcf(K π j l):krn K π (j::l)=(kg K j).map (NS π)::krn K π l:=Qj
theorem Qgy(π cs):NS π (.box cs)=.box (Hv π cs):=Qj
theorem QeB(π n r):NS π (.lst n r)=.lst n r:=Qj
theorem QmP(π):Hv π []=[]:=by simp[Hv]
theorem Qfq(π c cs):Hv π (c::cs)=ren π c::Hv π cs:=by simp[Hv]
def slO:Option Nat→AV|some i=>.sl i|none=>.u
def QbJ(i o:Nat):Option Nat→AV|some j=>.ptr j i o|none=>.u
theorem QnL(i):slO (some i)=.sl i:=Qj
theorem QfH:slO none=.u:=Qj
theorem Qds(i o j):QbJ i o (some j)=.ptr j i o:=Qj
theorem Qd4(i o):QbJ i o none=.u:=Qj
theorem QcW(π j):ren π (.sl j)=slO (S7 π j):=by simp only[ren];rfl
theorem yC(π j i o):ren π (.ptr j i o)=QbJ i o (S7 π j):=by simp only[ren];rfl
theorem yY(π cs):ren π (.agg cs)=.agg (Hv π cs):=by simp[ren]
theorem uZ(π cs):ren π (.tup cs)=.tup (Hv π cs):=by simp[ren]
theorem vm(π g cs):ren π (.clo g cs)=.clo g (Hv π cs):=by simp[ren]
theorem QdE(π x):ren π (.b x)=.b x:=by simp[ren]
theorem Qkx(π c x):ren π (.i c x)=.i c x:=by simp[ren]
theorem Qlc(π x):ren π (.s x)=.s x:=by simp[ren]
theorem QiS(π):ren π .nil=.nil:=by simp[ren]
theorem Qfn(π):ren π .u=.u:=by simp[ren]
theorem wK(π n r):ren π (.imm n r)=.imm n r:=by simp[ren]
theorem pE(π n r i o):ren π (.iptr n r i o)=.iptr n r i o:=by simp[ren]
theorem QcH(j):S7 [] j=none:=Qj
theorem Qck(x l j):S7 (x::l) j=sel (x==j) (some 0) ((S7 l j).map (·+1)) ():=by
 rw[S7];exact FO (by simp) _ _
theorem Qd6(f π l):yz f π l=frm (frl f π l):=Qj
theorem QcP(f π):frl f π []=[]:=Qj
theorem Qee(f π t l):frl f π (t::l)=(t,ren π (f t))::frl f π l:=Qj
theorem Qqq(z la rt f K):Ls z la rt .normal f K=Hy z la.sl la.rg f K (λf K=>some (.inl (f,K))) ():=Qj
theorem QoU(z la rt f K):Ls z la rt .ret f K=Hy z rt.sl rt.rg f K (λf K=>some (.inr (.ret,f,K))) ():=Qj
theorem Qn8(z la rt i f K):Ls z la rt (.exit i) f K=Hy z la.xs la.xr f K (λf K=>some (.inr (.exit i,f,K))) ():=Qj
theorem Qgi(t x y):Vj t (.seq x y)=(Vj t x).or (Vj t y):=Qj
theorem Qef(t c x y):Vj t (.cond c x y)=(Vj t x).or (Vj t y):=Qj
theorem vQ(t i x):Vj t (.block i x)=Vj t x:=Qj
theorem Qdw(t x):Vj t (.loop x)=sel (tag x==t) (some x) (Vj t x) ():=Qj
theorem qF(t i o d):Vj t (.region i o d)=none:=Qj
theorem QbQ(t):Vj t .skip=none:=Qj
theorem QhB(t):Vj t .ret=none:=Qj
theorem Qby(t i):Vj t (.exit i)=none:=Qj
theorem zO(x:Option Code):(none:Option Code).or x=x:=by cases x<;>rfl
theorem Qai(x:Code)(y:Option Code):(some x).or y=some x:=Qj
theorem l_0(K):Gc K []=[]:=by simp[Gc]
theorem l_s(K c cs):Gc K (c::cs)=C4 K c::Gc K cs:=by simp[Gc]
def qb(e:Option Ent):AV:=match e with|some (.lst n rows)=>.imm n (QH rows)|_=>.u
theorem Qo1(K j):C4 K (.sl j)=qb (kg K j):=by simp only[C4];rfl
theorem Qk5(n r):qb (some (.lst n r))=.imm n (QH r):=Qj
theorem Qnf(K j):aE K j=qb (kg K j):=Qj
def ic(K:KS)(e:Option Ent)(i o:Nat):AV:=match e with
 |some (.lst n rows)=>.iptr n (QH rows) i o
 |some (.box cs)=>.iptr cs.length [cs.map (KC K)] i o
 |none=>.u
theorem QiG(K j i o):C4 K (.ptr j i o)=ic K (kg K j) i o:=by simp only[C4];rfl
theorem QcC(K cs i o):ic K (some (.box cs)) i o=.iptr cs.length [cs.map (KC K)] i o:=Qj
theorem QdF(K n r i o):ic K (some (.lst n r)) i o=.iptr n (QH r) i o:=Qj
theorem Qa7(K n r i o):C4 K (.iptr n r i o)=.iptr n r i o:=by simp[C4]
theorem QlP(K j):KC K (.sl j)=aE K j:=Qj
theorem Qpg(K x):KC K (.b x)=.b x:=Qj
theorem Qsf(K c x):KC K (.i c x)=.i c x:=Qj
theorem Qrx(K x):KC K (.s x)=.s x:=Qj
theorem QpQ(K):KC K .nil=.nil:=Qj
theorem QpM(K n r):KC K (.imm n r)=.imm n r:=Qj
theorem Qc5(r:List AV)(rs):Va (r::rs) 0=r:=Qj
theorem Qh0(K cs):C4 K (.agg cs)=.agg (Gc K cs):=by simp[C4]
theorem QjL(K cs):C4 K (.tup cs)=.tup (Gc K cs):=by simp[C4]
theorem Qhk(K g cs):C4 K (.clo g cs)=.clo g (Gc K cs):=by simp[C4]
theorem l_b(K x):C4 K (.b x)=.b x:=by simp[C4]
theorem l_i(K c x):C4 K (.i c x)=.i c x:=by simp[C4]
theorem QrF(K x):C4 K (.s x)=.s x:=by simp[C4]
theorem l_n(K):C4 K .nil=.nil:=by simp[C4]
theorem QgR(K n r):C4 K (.imm n r)=.imm n r:=by simp[C4]
theorem xG:QH []=[]:=by simp[QH]
theorem vS(r rs):QH (r::rs)=VV r::QH rs:=by simp[QH]
theorem Qbf:VV []=[]:=by simp[VV]
theorem Qb6(c cs):VV (c::cs)=Xd c::VV cs:=by simp[VV]
theorem Qpo(x):Xd (.b x)=.b x:=by simp[Xd]
theorem QsI(c x):Xd (.i c x)=.i c x:=by simp[Xd]
theorem QqZ(x):Xd (.s x)=.s x:=by simp[Xd]
theorem QsS:Xd .nil=.nil:=by simp[Xd]
theorem QdJ(n r):Xd (.imm n r)=.imm n r:=by simp[Xd]
theorem Qb3(n r):Xd (.own n r)=.imm n (QH r):=by simp[Xd]
theorem QlZ(m n r):Xk m (.own n r)=(.sl m,[some (.lst n r)]):=by simp[Xk]
theorem Qgs(m cs):Xk m (.agg cs)=(.agg (EP m cs).1,(EP m cs).2):=by simp[Xk]
theorem QiQ(m cs):Xk m (.tup cs)=(.tup (EP m cs).1,(EP m cs).2):=by simp[Xk]
theorem i_b(m x):Xk m (.b x)=(.b x,[]):=by simp[Xk]
theorem i_i(m c x):Xk m (.i c x)=(.i c x,[]):=by simp[Xk]
theorem QrD(m x):Xk m (.s x)=(.s x,[]):=by simp[Xk]
theorem i_n(m):Xk m .nil=(.nil,[]):=by simp[Xk]
theorem i_u(m):Xk m .z=(.z,[]):=by simp[Xk]
theorem Qq5(m):EP m []=([],[]):=by simp[EP]
theorem QpS(m c cs):EP m (c::cs)=((Xk m c).1::(EP (m+(Xk m c).2.length) cs).1,(Xk m c).2++(EP (m+(Xk m c).2.length) cs).2):=by simp[EP]
theorem QaS{α γ:Type}(x:α)(y:γ):(x,y).1=x:=Qj
theorem Qmx{α γ:Type}(x:α)(y:γ):(x,y).2=y:=Qj
def aK(e:Option (List AV))(k:AV→Option β)(_:Lk k):Option β:=match e with|some cs=>k (.agg cs)|none=>none
theorem Qj2(K z p ps l):Sl K (.st z p) ps k l=aK (Df K (p[·]?) z ps) k ():=Qj
theorem Qbw(K z m ps l):Sl K (.arr z m) ps k l=aK (Df K (λi=>some (i*m,m)) z ps) k ():=Qj
theorem Qla(cs l):aK (some cs) k l=k (.agg cs):=Qj
def zc(fl:Bool)(ns:List Nat)(e:Option (List AV))(K:KS)(len m:Nat)(k:AV→KS→Option β)(_:Lk k):Option β:=match e with
  |some cs=>cond (yB fl cs) (match V6 K cs with
   |some (K1,cs)=>X6 (K1++[some (.lst m ((D1 m len cs).map (nz ns)))]) (λK'=>k (.sl K.length) K') ()
   |none=>none) none
  |none=>none
theorem QsE(fl ns K e m z)(k:AV→KS→Option β)(l):Mg fl ns K (some (e,m,z)) 0 [] k l=X6 (K++[some (.lst m [])]) (λK'=>k (.sl K.length) K') ():=Qj
theorem s_b(fl ns K e m z len ps)(k:AV→KS→Option β)(l):Mg fl ns K (some (e,m,z)) (len+1) ps k l=okB (Nat.ble ((len+1)*m) 16777216) (zc fl ns (Df K (λi=>some (i*m,m)) (GA (len+1) z) ps) K (len+1) m k ()) () :=
 FO PQ _ _
def zx(ns:List Nat)(e:Option (KS×List AV))(n len m:Nat)(k:AV→KS→Option β)(_:Lk k):Option β:=match e with
   |some (K1,cs)=>X6 (K1++[some (.lst m ((D1 m len cs).map (nz ns)))]) (λK'=>k (.sl n) K') ()
   |none=>none
theorem QoG(fl ns K cs len m)(k:AV→KS→Option β)(l):zc fl ns (some cs) K len m k l=cond (yB fl cs) (zx ns (V6 K cs) K.length len m k ()) none:=Qj
theorem QsK:zB []=true:=Qj
theorem Qn5(l:List Nat):zB (0::l)=zB l:=Qj
theorem Qq8(n:Nat)(l:List Nat):zB ((n+1)::l)=false:=Qj
theorem QrQ(cs):yB false cs=true:=Qj
theorem Qsb(cs):yB true cs=noS cs:=Qj
theorem Qre:noS []=true:=Qj
theorem Qtw(c n l):noS (.i c n::l)=noS l:=Qj
theorem QrH(x l):noS (.b x::l)=noS l:=Qj
theorem QqO(x l):noS (.s x::l)=noS l:=Qj
theorem Qsn(l):noS (.nil::l)=noS l:=Qj
theorem Qqf(n r l):noS (.imm n r::l)=noS l:=Qj
theorem Qp5(j l):noS (.sl j::l)=false:=Qj
theorem Qq9(ns K1 cs n len m)(k:AV→KS→Option β)(l):zx ns (some (K1,cs)) n len m k l=X6 (K1++[some (.lst m ((D1 m len cs).map (nz ns)))]) (λK'=>k (.sl n) K') ():=Qj
theorem Qsg(K p cs):Df K p cs []=some cs:=Qj
def rl(K:KS)(place:Nat→Option (Nat×Nat))(cs:List AV)(p:Option (Nat×Nat))(d:Option (List AV))(rest:List (Nat×AV)):Option (List AV):=match p,d with
  |some (o,m),some ds=>if ds.length=m∧o+m≤cs.length then Df K place (putCells cs o ds) rest else none
  |_,_=>none
theorem Qtz(K p cs i v r):Df K p cs ((i,v)::r)=rl K p cs (p i) (F6 K v) r:=by simp only[Df];rfl
theorem Qs3(K p cs o m ds r):rl K p cs (some (o,m)) (some ds) r=cond ((ds.length==m)&&Nat.ble (o+m) cs.length) (Df K p (putCells cs o ds) r) none :=
 FO (by simp only[Bool.and_eq_true,beq_iff_eq,PQ]) _ _
theorem Qtj(K cs):F6 K (.agg cs)=some cs:=Qj
theorem Qoi(K x):F6 K (.b x)=some [.b x]:=Qj
theorem QqG(K c x):F6 K (.i c x)=some [.i c x]:=Qj
theorem Qrn(K x):F6 K (.s x)=some [.s x]:=Qj
theorem QoE(K):F6 K .nil=some [.nil]:=Qj
theorem Qbj(K n r):F6 K (.imm n r)=some [.imm n r]:=Qj
theorem QmT(K j):F6 K (.sl j)=cond (kg K j).isSome (some [.sl j]) none:=by
 show(if Be K (.sl j)=true then some [AV.sl j]else none)=_;exact FO Iff.rfl _ _
theorem Qtx(z):GA 0 z=[]:=by simp[GA]
theorem Qpz(n z):GA (n+1) z=z++GA n z:=by simp[GA,List.replicate_succ]
theorem QmF(K):V6 K []=some (K,[]):=Qj
theorem Qir(K x cs):V6 K (.b x::cs)=(V6 K cs).map λp=>(p.1,.b x::p.2):=by simp[V6,AV.closed]
theorem QgX(K c x cs):V6 K (.i c x::cs)=(V6 K cs).map λp=>(p.1,.i c x::p.2):=by simp[V6,AV.closed]
theorem QhA(K x cs):V6 K (.s x::cs)=(V6 K cs).map λp=>(p.1,.s x::p.2):=by simp[V6,AV.closed]
theorem Qgv(K cs):V6 K (.nil::cs)=(V6 K cs).map λp=>(p.1,.nil::p.2):=by simp[V6,AV.closed]
theorem vZ(K n r cs):V6 K (.imm n r::cs)=(V6 K cs).map λp=>(p.1,.imm n r::p.2):=by simp[V6,AV.closed]
def QmY(e:Option Ent)(K:KS)(j:Nat)(cs:List AV):Option (KS×List AV):=match e with
  |some (.lst n rows)=>(V6 (K.set j none) cs).map λp=>(p.1,.own n rows::p.2)
  |_=>none
theorem Qc0(K j cs):V6 K (.sl j::cs)=QmY (kg K j) K j cs:=by simp only[V6];rfl
theorem QhX(K n r j cs):QmY (some (.lst n r)) K j cs=(V6 (K.set j none) cs).map λp=>(p.1,.own n r::p.2):=Qj
theorem Qmt(m cs):D1 m 0 cs=[]:=Qj
theorem Qmp(m l cs):D1 m (l+1) cs=cs.take m::D1 m l (cs.drop m):=Qj
def jR(e:Option (List (List AV)×KS))(n m b:Nat)(s:AV)(k:AV→KS→Option β)(_:Lk k):Option β:=match e with
  |some (rows',K1)=>match s with
   |.sl j=>match kg K1 j with
    |some (.lst n' rows)=>if n'=m then VI (decide ((rows.length+rows'.length)*(b+1)≤140737488355328)) (X6 (K1.set j none++[some (.lst m (rows++rows'))]) (λK'=>k (.sl n) K') ()) ()else none
    |_=>none
   |.nil=>VI (decide (rows'.length*(b+1)≤140737488355328)) (X6 (K1++[some (.lst m rows')]) (λK'=>k (.sl n) K') ()) ()
   |_=>none
  |none=>none
def sV(e:Option Ent)(r:List (List AV))(K1:KS)(n m b j:Nat)(k:AV→KS→Option β)(_:Lk k):Option β:=match e with
    |some (.lst n' rows)=>if n'=m then VI (decide ((rows.length+r.length)*(b+1)≤140737488355328)) (X6 (K1.set j none++[some (.lst m (rows++r))]) (λK'=>k (.sl n) K') ()) ()else none
    |_=>none
def Qdh(K:KS)(t:Option (TypeId×Nat×List AV))(bytes:Option Nat)(s x:AV)(k:AV→KS→Option β)(_:Lk k):Option β:=TF K t bytes s x k ()
def vP(P:Program)(t:Option (TypeId×Nat×List AV)):Option Nat:=t.bind λq=>tb P q.1
theorem Qka{P:Program}{D:Orc}{f:Fr}{K:KS}(s x t tx ts)(k:AV→KS→Option β)(l):oop P D (.call ⟨.builtin .append,List.toArray [s,x],List.toArray (t::tx::ts)⟩) f K k l=okB (DN P tx&&!(ES s&&II (ev f x))) (Qdh K (tse P t) (vP P (tse P t)) (ev f s) (ev f x) k ()) ():=by
 simp only[oop,okB,Qdh,vP];cases DN P tx<;>cases (ES s&&II (ev f x))<;>rfl
theorem Qpt(d):ES (.tmp d)=false:=Qj
theorem QoW:ES (.const (.slice none 0 0))=true:=Qj
theorem QoL(n r):II (.imm n r)=false:=Qj
theorem Qo0:II .nil=false:=Qj
theorem QsV(j):II (.sl j)=true:=Qj
def sQ(ns:List Nat)(K:KS)(t:Option (TypeId×Nat×List AV))(bytes:Option Nat)(l c:AV)(k:AV→KS→Option β)(_:Lk k):Option β:=mc ns K t bytes l c k ()
theorem Qqu{P:Program}{D:Orc}{f:Fr}{K:KS}(t x c)(k:AV→KS→Option β)(l):oop P D (.makeSlice t x c) f K k l=sQ (GH P t) K (tse P t) (vP P (tse P t)) (ev f x) (ev f c) k ():=Qj
theorem Qle(ns K e m z b i c)(k:AV→KS→Option β)(l):sQ ns K (some (e,m,z)) (some (b+1)) (.i .i64 i) (.i .i64 c) k l=VI (decide (i=c)) (VI (mkB i (b+1)) (X6 (K++[some (.lst m (List.replicate i.toNat (nz ns z)))]) (λK'=>k (.sl K.length) K') ()) ()) ():=Qj
theorem QoZ(i:Int):(i=i)=True:=by simp
theorem Qjx(P e m z):vP P (some (e,m,z))=tb P e:=Qj
theorem a_1(K e m z b s x)(k:AV→KS→Option β)(l):Qdh K (some (e,m,z)) (some (b+1)) s x k l=jR (FV K m x) K.length m b s k ():=Qj
theorem a_2(r K1 n m b j)(k:AV→KS→Option β)(l):jR (some (r,K1)) n m b (.sl j) k l=sV (kg K1 j) r K1 n m b j k ():=Qj
theorem a_3(r K1 n m b)(k:AV→KS→Option β)(l):jR (some (r,K1)) n m b .nil k l=VI (rm r.length (b+1)) (X6 (K1++[some (.lst m r)]) (λK'=>k (.sl n) K') ()) ():=by
 simp[jR,rm]
theorem a_4(r' r K1 n m b j)(k:AV→KS→Option β)(l):sV (some (.lst m r')) r K1 n m b j k l=VI (rm (r'.length+r.length) (b+1)) (X6 (K1.set j none++[some (.lst m (r'++r))]) (λK'=>k (.sl n) K') ()) ():=by
 simp[sV,rm]
theorem Qp7(K m):FV K m .nil=some ([],K):=Qj
theorem QoQ(K m r):FV K m (.imm m r)=some (r,K):=by simp[FV]
def Qba(e:Option Ent)(K:KS)(m k:Nat):Option (List (List AV)×KS):=match e with
  |some (.lst n rows)=>if n=m then some (rows,K.set k none)else none
  |_=>none
theorem QqU(K m j):FV K m (.sl j)=Qba (kg K j) K m j:=Qj
theorem QsP(K m j r):Qba (some (.lst m r)) K m j=some (r,K.set j none):=by simp[Qba]
end
section
variable(T:Tld)
theorem QkO(n h):(orc T (n+1) h).w=T.wt:=Qj
theorem QhT(n h g):(orc T n h).z g=(lk T.pz g).getD []:=by cases n<;>rfl
theorem Qnt(n h):(orc T (n+1) h).v=T.vt:=Qj
theorem Qjj(n h):(orc T n h).m=CM T n:=by cases n<;>rfl
theorem Qe1(n h):(orc T n h).a=CA T n:=by cases n<;>rfl
theorem QfV(n h):(orc T (n+1) h).q=T.qt:=Qj
theorem Qlq(n h):(orc T (n+1) h).s=T.st:=Qj
theorem Qfj(n h):(orc T n h).p=CP T n:=by cases n<;>rfl
theorem Qjg(n h):(orc T n h).l=LP T n h:=Qj
def cpF(T:Tld)(n g:Nat)(fn:Option Func)(a:Option Ann)(args:List AV):Option AV:=match a with
 |some a=>match fn with
  |some f=>cond (Nat.ble args.length f.ntmps) (Xx T.P (orc T n g) a (f.body.getD .skip) (Nu T.P a.sh f.results.toList) (XC args) [] ()) none
  |none=>cond (Nat.ble args.length 0) (Xx T.P (orc T n g) a .skip (Nu T.P a.sh []) (XC args) [] ()) none
 |none=>T.xt g args
def caF(T:Tld)(n g:Nat)(fn:Option Func)(a:Option Ann)(K:KS)(args:List AV):Option (AV×KS):=match a with
 |some a=>match fn with
  |some f=>cond (a.wr&&(Nat.beq K.length a.ak.length&&Nat.ble args.length f.ntmps)) (Xx T.P (orc T n g) a (f.body.getD .skip) (SF T.P a.ak a.nr f.ntmps f.results.toList) (XC args) K ()) none
  |none=>cond (a.wr&&(Nat.beq K.length a.ak.length&&Nat.ble args.length 0)) (Xx T.P (orc T n g) a .skip (SF T.P a.ak a.nr 0 []) (XC args) K ()) none
 |none=>none
theorem mp(n g K args):CA T (n+1) g K args=caF T n g (T.P.funcs[g]?) (T.at g) K args:=by
 show(match T.at g with|some a=>cond _ _ _|none=>none)=_
 unfold caF body Te ntm;cases T.at g with
 |none=>rfl
 |some a=>cases T.P.funcs[g]?<;>rfl
theorem sg(n g K args a)(x1 x2 x3 x4 x5 x6 m)(rs:List ResultVar)(c x7 x8 x9 x10 x11 x12 x13):caF T n g (some ⟨x1,x2,x3,x4,x5,x6,m,List.toArray rs,some c,x7,x8,x9,x10,x11,x12,x13⟩) (some a) K args=cond ((a.nr.isSome||!a.ak.isEmpty)&&((K.length==a.ak.length)&&Nat.ble args.length m)) (Xx T.P (orc T n g) a c (SF T.P a.ak a.nr m rs) (XC args) K ()) none:=by rw[←Ry];rfl
theorem Qcq{α:Type}(x:α)(l:List α):(x::l).isEmpty=false:=Qj
theorem Qtg:(!false)=true:=Qj
def cmF(T:Tld)(n g:Nat)(fn:Option Func)(a:Option Ann)(K:KS)(args:List AV):Option AV:=match a with
 |some a=>cond (Nat.ble args.length (match fn with|some f=>f.ntmps|none=>0)) (Xx T.P (orc T n g) a (match fn with|some f=>f.body.getD .skip|none=>.skip) (Nu T.P a.sh (match fn with|some f=>f.results.toList|none=>[])) (XC args) K ()) none
 |none=>T.mt g K args
theorem UG(n g K args):CM T (n+1) g K args=cmF T n g (T.P.funcs[g]?) (T.at g) K args:=by
 show(match T.at g with|some a=>_|none=>_)=_
 unfold cmF body Te ntm;cases T.at g with
 |none=>rfl
 |some a=>cases T.P.funcs[g]?<;>rfl
theorem v6(n g K args)(h:T.at g=none):CM T (n+1) g K args=T.mt g K args:=by rw[UG,h];rfl
theorem qx(n g K args a)(x1 x2 x3 x4 x5 x6 m)(rs:List ResultVar)(c x7 x8 x9 x10 x11 x12 x13):cmF T n g (some ⟨x1,x2,x3,x4,x5,x6,m,List.toArray rs,some c,x7,x8,x9,x10,x11,x12,x13⟩) (some a) K args=cond (Nat.ble args.length m) (Xx T.P (orc T n g) a c (Nu T.P a.sh rs) (XC args) K ()) none:=Qj
theorem Qp(n g args):CP T (n+1) g args=cpF T n g (T.P.funcs[g]?) (T.at g) args:=by
 show(match T.at g with|some a=>cond _ _ _|none=>T.xt g args)=_
 unfold cpF body Te ntm;cases T.at g with
 |none=>rfl
 |some a=>cases T.P.funcs[g]?<;>rfl
theorem nE(n g args)(h:T.at g=none):CP T (n+1) g args=T.xt g args:=by rw[Qp,h];rfl
theorem sK(n g args a)(x1 x2 x3 x4 x5 x6 m)(rs:List ResultVar)(c x7 x8 x9 x10 x11 x12 x13):cpF T n g (some ⟨x1,x2,x3,x4,x5,x6,m,List.toArray rs,some c,x7,x8,x9,x10,x11,x12,x13⟩) (some a) args=cond (Nat.ble args.length m) (Xx T.P (orc T n g) a c (Nu T.P a.sh rs) (XC args) [] ()) none:=Qj
def lpG(T:Tld)(n h:Nat)(a:Ann)(c:Option Code)(la:Option LA)(f:Fr)(K:KS):Option (XE×Fr×KS):=match c,la with
    |some c,some la=>run (λs=>Xx T.P (orc T n h) a c (Ls a.ak la a.rt) s.1 s.2 ()) (f,K)
    |_,_=>none
def lpF(T:Tld)(n h t:Nat)(fn:Option Func)(a:Option Ann)(f:Fr)(K:KS):Option (XE×Fr×KS):=match a with
 |some a=>lpG T n h a (Vj t (match fn with|some f=>f.body.getD .skip|none=>.skip)) (lk a.lp t) f K
 |none=>none
theorem Qw(n h t f K):LP T (n+1) h t f K=lpF T n h t (T.P.funcs[h]?) (T.at h) f K:=by
 show(match T.at h with|some a=>_|none=>none)=_
 unfold lpF;cases T.at h<;>rfl
theorem sH(n h t a f K)(x1 x2 x3 x4 x5 x6 m rs c x7 x8 x9 x10 x11 x12 x13):lpF T n h t (some ⟨x1,x2,x3,x4,x5,x6,m,rs,some c,x7,x8,x9,x10,x11,x12,x13⟩) (some a) f K=lpG T n h a (Vj t c) (lk a.lp t) f K:=Qj
theorem Qt(n h a c la f K):lpG T n h a (some c) (some la) f K=run (λs=>Xx T.P (orc T n h) a c (Ls a.ak la a.rt) s.1 s.2 ()) (f,K):=Qj
theorem getD_some{α:Type}(x d:α):(some x).getD d=x:=Qj
theorem Ri{α:Type}(d:α):(none:Option α).getD d=d:=Qj
end
section
variable{α β γ:Type}{c:α→List AV}
theorem YU(xs:List α)(i):inb (xs.map c) i=inb xs i:=by simp[inb]
theorem Qqv(xs:List α):lnR (xs.map c)=ln xs:=by simp[lnR,ln]
theorem YR[Inhabited α](xs:List α)(i:Int)(h:inb xs i=true):Va (xs.map c) i.toNat=c (gt xs i):=by
 obtain⟨h0,h1⟩:=B3.1 h;have h2:i.toNat<xs.length:=by omega
 simp[Va,gt,List.getD_eq_getElem?_getD,h2]
theorem QfC(xs:List α)(i:Int)(h:inb xs i=true):Yj (xs.map c) i.toNat=true:=by
 unfold Yj;obtain⟨h0,h1⟩:=B3.1 h;rw[Nat.blt_eq];simp;omega
theorem QeN(xs:List α)(l h:Int):cut (xs.map c) l h=(cut xs l h).map c:=by simp[cut,List.map_take,List.map_drop]
theorem cA(xs:List α)(i:Int)(ys:List α)(b:Nat):Gu (xs.map c) i (ys.map c) b=Gu xs i ys b:=by simp[Gu]
theorem cr(xs:List α)(i:Int)(ys:List α):Vt (xs.map c) i (ys.map c)=(Vt xs i ys).map c:=by simp[Vt,List.map_take,List.map_drop]
theorem QjH(xs:List α):(xs.map c).length=xs.length:=by simp
theorem pJ(xs:List α)(n:Nat)(x:α)(i:Int):inb (xs.set n x) i=inb xs i:=by simp[inb]
theorem uP[Inhabited α](xs:List α)(x:α)(i:Int)(h:inb xs i=true):gt (xs.set i.toNat x) i=x:=by
 obtain⟨h0,h1⟩:=B3.1 h;have h2:i.toNat<xs.length:=by omega
 simp[gt,List.getD_eq_getElem?_getD,h2]
theorem tE(xs:List α)(n:Nat)(x y:α):(xs.set n x).set n y=xs.set n y:=by simp
theorem ou(o:Option α)(g:β→γ)(f:α→Option β):(o.bind f).map g=o.bind λx=>(f x).map g:=by cases o<;>rfl
theorem nw(b:Bool)(o:Option β)(g:β→γ)(l):(VI b o l).map g=VI b (o.map g) ():=by cases b<;>rfl
theorem np(b:Bool)(x y:Option β)(g:β→γ):(cond b x y).map g=cond b (x.map g) (y.map g):=by cases b<;>rfl
theorem t7{ρ δ:Type}(p:ρ→Option β)(q:δ→Option β)(x)(g:β→γ):(evO p q x).map g=evO (λr=>(p r).map g) (λr=>(q r).map g) x:=by cases x<;>rfl
theorem em(x:α)(f:α→Option β):(some x).bind f=f x:=Qj
theorem dh(o:Option α)(f:α→Option β)(g:β→Option γ):(o.bind f).bind g=o.bind λx=>(f x).bind g:=by cases o<;>rfl
theorem yP{α' β':Type}(f:α→α')(g:β→β')(x):Sum.map f g (.inl x)=.inl (f x):=Qj
theorem wk{α' β':Type}(f:α→α')(g:β→β')(x):Sum.map f g (.inr x)=.inr (g x):=Qj
end
class EncR {α:Type} (c:α→List AV) (r:List AV) (x:outParam α):Prop where
 eq:r=c x
class EncL {α:Type} (c:α→List AV) (R:List (List AV)) (xs:outParam (List α)):Prop where
 eq:R=xs.map c
instance{α:Type}(c:α→List AV)(x:α):EncR c (c x) x:=⟨rfl⟩
instance{α:Type}(c:α→List AV)(xs:List α):EncL c (xs.map c) xs:=⟨rfl⟩
instance{α:Type}(c:α→List AV):EncL c [] []:=⟨rfl⟩
instance{α:Type}(c:α→List AV)(r R x xs)[h:EncR c r x][H:EncL c R xs]:EncL c (r::R) (x::xs):=⟨by rw[h.eq,H.eq];rfl⟩
instance{α:Type}(c:α→List AV)(R S xs ys)[h:EncL c R xs][H:EncL c S ys]:EncL c (R++S) (xs++ys):=⟨by rw[h.eq,H.eq];simp⟩
instance{α:Type}(c:α→List AV)(R xs)(i:Nat)(r x)[h:EncL c R xs][H:EncR c r x]:EncL c (R.set i r) (xs.set i x):=⟨by rw[h.eq,H.eq,List.map_set]⟩
instance{α:Type}(c:α→List AV)(n:Nat)(r x)[H:EncR c r x]:EncL c (List.replicate n r) (List.replicate n x):=⟨by rw[H.eq,List.map_replicate]⟩
theorem Qdn{α:Type}{c:α→List AV}(xs:List α)(R){ys}[h:EncL c R ys]:xs.map c++R=(xs++ys).map c:=by rw[h.eq];simp
theorem QdY{α:Type}{c:α→List AV}(xs:List α)(n:Nat)(R){x}[h:EncR c R x]:(xs.map c).set n R=(xs.set n x).map c:=by rw[h.eq,List.map_set]
theorem An{α:Type}{c:α→List AV}(h:∀x,Xr (c x)=true)(xs:List α):QF (xs.map c)=true:=by
 induction xs with
 |nil=>simp[QF]
 |cons x xs ih=>simp[QF,h,ih]
theorem CY{α:Type}{c c':α→List AV}(h:∀x,VV (c x)=c' x)(xs:List α):QH (xs.map c)=xs.map c':=by
 induction xs with
 |nil=>simp[QH]
 |cons x xs ih=>simp[QH,h,ih]
theorem QbZ{α:Type}{c:α→List AV}(xs:List α)(n b:Nat)(m):Tc (xs.map c).isEmpty (some (AV.own n [])) (VI (rm (0+xs.length) b) (some (AV.own n (xs.map c))) m)=VI (rm (0+xs.length) b) (some (AV.own n (xs.map c))) ():=by
 cases xs with
 |nil=>simp[Tc,oeq,VI,rm]
 |cons r R=>rfl
set_option linter.defProp false
set_option maxRecDepth 100000
def evA:=aI @QfI<|aI @Qm0<|aI @sk<|aI @QaO<|aI @ui<|aI @zC<|aI @Qll<|aI @Qmk<|aI @Qcm<|aI @xa<|aI @uq<|aI @QsU<|aI @QfS<|aI @Qpw<|aI @Qiz<|aI @wH<|aI @Qh6<|aI @wc<|aI @QbB<|aI @ya<|aI @tq<|aI @QnA<|aI @Qmh<|aI @QcS<|aI @Qbn<|aI @Qct<|aI @Qbs<|aI @QnK<|aI @wI<|aI @uj<|aI @Qgj<|aI @sO<|aI @QcY<|aI @Qcp<|aI @Qde<|aI @Qe0<|aI @Qew<|aI @Qfm<|aI @Qe6<|aI @pg<|aI @YX<|aI @Qed<|aI @Qio<|aI @uT<|aI @sL<|aI @Qbo<|aI @QcO<|aI @Qng<|aI @Qif<|aI @s_v<|aI @v_j<|aI @v_s<|aI @QhG<|aI @Qjm<|aI @qx<|aI @kK<|aI @n_c<|aI @QfR<|aI @Qm2<|aI @Qgp<|aI @Ql9<|aI @QmH<|aI @n_g<|aI @Qmq<|aI @QmJ<|aI @Qna<|aI @Qb5<|aI @Qmy<|aI @QbS<|aI @Qmr<|aI @Qbu<|aI @uV<|aI @rj<|aI @kC<|aI @mJ<|aI @ls<|aI @kH<|aI @Qs5<|aI @Qrl<|aI @zS<|aI @Qkh<|aI @Qj5<|aI @QdT<|aI @QbK<|aI @Qcc<|aI @yF<|aI @qg<|aI @wA<|aI @nB<|aI @wG<|aI @qp<|aI @QkZ<|aI @QiC<|aI @Qeq<|aI @Qcn<|aI @QbO<|aI @Qd5 <|  aI @wN<|aI @YX<|aI @Qf6<|aI @Qnn<|aI @xJ<|aI @Qkv<|aI @Qiu<|aI @pM<|aI @sW<|aI @ru<|aI @QkA<|aI @rC<|aI @QnN<|aI @QgY <|
 aI @rA<|aI @sX<|aI @Qdi<|aI @ko<|aI @sn<|aI @qW<|aI @pG<|aI @yW<|aI @xg<|aI @vY <|
 aI @QkH<|aI @QcT<|aI @w7<|aI @c_g<|aI @QsH<|aI @zU<|aI @QaH<|aI @zf <|
 aI @Pg<|aI @pd<|aI @iU<|aI @gn<|aI @hU <|
 aI @Qeg<|aI @py<|aI @Qa8<|aI @wF<|aI @Qma<|aI @uY<|aI @uo<|aI @Qch<|aI @xC<|aI @Qnw<|aI @Qdg<|aI @QdN<|aI @Qcz<|aI @QcG<|aI @QlJ<|aI @Qjt<|aI @QiZ<|aI @QgD<|aI @QfM<|aI @QjQ<|aI @QcD<|aI @QdM<|aI @Qei<|aI @Qoe <|
 aI @Qpc<|aI @Qtn<|aI @Qns<|aI @Qhj<|aI @QjC<|aI @QgZ<|aI @Qhb<|aI @Qci<|aI @vX<|aI @Qka<|aI @Qqu <|
 aI @Qf8<|aI @Qdv<|aI @mX<|aI @gV<|aI @iz<|aI @du<|aI @fk<|aI @sx<|aI @jg<|aI @oL <|
 aI @cE<|aI @eP<|aI @Vx<|aI @P3<|aI @US<|aI @am <|
 aI @uE<|aI @we<|aI @Qcs<|aI @zD<|aI @n_r<|aI @n_s<|aI @Qqq<|aI @QoU<|aI @Qn8 <|
 aI @Qgi<|aI @Qef<|aI @vQ<|aI @Qdw<|aI @qF<|aI @QbQ<|aI @QhB<|aI @Qby<|aI @zO<|aI @Qai <|
 aI @getD_some<|aI @Ri<|aI @sK<|aI @sg<|aI @sH @QaS
def evB:=aI @aR<|aI @bZ<|aI @QpN<|aI @Qtt<|aI @Qpp<|aI @Qsl<|aI @Qpk<|aI @k_i<|aI @k_b<|aI @k_s<|aI @yq<|aI @Qbg<|aI @Qoy<|aI @QoV<|aI @Qs6<|aI @Qsr<|aI @Qsx<|aI @QrE<|aI @QpA<|aI @QqF<|aI @Qpu<|aI @Qrr<|aI @QrL<|aI @Qpr<|aI @QsK<|aI @Qn5<|aI @Qq8<|aI @QrQ<|aI @Qsb<|aI @Qre<|aI @Qtw<|aI @QrH<|aI @QqO<|aI @Qsn<|aI @Qqf<|aI @Qp5<|aI @QfI<|aI @Qm0<|aI @sk<|aI @QaO<|aI @ui<|aI @zC<|aI @Qll<|aI @Qmk<|aI @Qew<|aI @Qfm<|aI @Qe6<|aI @Qo3<|aI @c_K<|aI @Qiz<|aI @Qm8<|aI @x_u<|aI @QpJ<|aI @Qsi<|aI @QqY<|aI @QrU<|aI @s_v<|aI @v_j<|aI @v_s<|aI @QhG<|aI @Qjm<|aI @qx<|aI @p_0<|aI @p_e<|aI @p_s<|aI @p_n<|aI @p_z<|aI @p_a<|aI @QoH<|aI @QqS<|aI @Qql<|aI @Qta<|aI @Qox<|aI @Qoz<|aI @Qsh<|aI @Qp2<|aI @QhT<|aI @US<|aI @am<|aI @Ri<|aI @getD_some<|aI @n_c<|aI @QfR<|aI @Qm2<|aI @Qgp<|aI @Ql9<|aI @QmH<|aI @n_g<|aI @Qmq<|aI @QmJ<|aI @Qna<|aI @zD<|aI @n_r<|aI @n_s<|aI @yR<|aI @wT<|aI @vj<|aI @cE<|aI @eP<|aI @Vx<|aI @P3<|aI @rA<|aI @sX<|aI @ko<|aI @zU<|aI @QaH<|aI @zO<|aI @Qai<|aI @getD_some<|aI @Ri<|aI @pM<|aI @sW<|aI @rC<|aI @ru<|aI @VJ<|aI @Qkv<|aI @Qiu<|aI @c_M<|aI @Qpt<|aI @QoW<|aI @QoL<|aI @Qo0<|aI @QsV<|aI @Qk1<|aI @Qhr<|aI @QdZ<|aI @Qdq<|aI @yI<|aI @uO<|aI @Qcd<|aI @wx<|aI @qZ<|aI @QeK<|aI @QmI<|aI @ro<|aI @QdD<|aI @Qdf<|aI @Qgx<|aI @Qcl<|aI @Qbp<|aI @Qdj<|aI @sR<|aI @pY<|aI @kC<|aI @mJ<|aI @Qkh<|aI @Qj5<|aI @QrT<|aI @Qrs<|aI @QrY<|aI @Qqt<|aI @Qo7<|aI @Qq6<|aI @s_w<|aI @w_j<|aI @w_s<|aI @Qpv<|aI @Qto<|aI @Qhs<|aI @QcJ<|aI @Qq4<|aI @Qrd<|aI @QiH<|aI @Qtl<|aI @Qss<|aI @Qo4<|aI @QoJ<|aI @Qkf<|aI @Qeu<|aI @Qpj<|aI @Qsd<|aI @Qja<|aI @QoY<|aI @QqM<|aI @QrO<|aI @Qti<|aI @Qqz<|aI @QqK<|aI @QtA<|aI @Qtv<|aI @Qsv<|aI @QrI<|aI @Qrt<|aI @QlD<|aI @QeX<|aI @QnU<|aI @Qq0<|aI @Qs1<|aI @Qrj<|aI @Qpf<|aI @QqD<|aI @Qsa<|aI @QoD<|aI @QpC<|aI @QsR<|aI @QnZ<|aI @QqP<|aI @Qr3<|aI @Qqp<|aI @QoM<|aI @QoN<|aI @QoX<|aI @QnW<|aI @Qr7<|aI @QpB<|aI @QpG<|aI @QqV<|aI @QpY<|aI @Qqc<|aI @Qok<|aI @Qrb<|aI @QfP<|aI @QkS<|aI @Qhc<|aI @Qfo<|aI @QsB<|aI @QsD<|aI @Qqk<|aI @QrR<|aI @Qr5<|aI @QrN<|aI @Qs4<|aI @Qlo<|aI @Qmm<|aI @QjT<|aI @QeE<|aI @Qrc<|aI @Qon<|aI @Qsk<|aI @QpU<|aI @Qe2<|aI @QsQ<|aI @Qr8<|aI @QjU<|aI @QhZ<|aI @QoF<|aI @QoI<|aI @Qks<|aI @QjK<|aI @Ql4<|aI @Qlz<|aI @Qk9<|aI @Bool.true_or<|aI @Bool.false_or<|aI @Qof<|aI @QpX<|aI @QoR<|aI @Qq1<|aI @QqN<|aI @QqC<|aI @Qn2<|aI @QpO<|aI @w_p<|aI @Qsm<|aI @w_x<|aI @w_n<|aI @zS<|aI @Qkn<|aI @Qm9<|aI @sg<|aI @Qcq<|aI @Qtg<|aI @ls<|aI @kH<|aI @s_t<|aI @s_q<|aI @s_f<|aI @Qtc<|aI @Qkj<|aI @Qet<|aI @Qr0<|aI @QiW<|aI @Qc1<|aI @iM<|aI @Qcj<|aI @Qcy<|aI @QiN<|aI @Qlt<|aI @QgN<|aI @QdH<|aI @Qm4<|aI @Qe9<|aI @QiY<|aI @kK<|aI @sK<|aI @sH<|aI @US<|aI @Pg <|
 aI @Qi1<|aI @Qhz<|aI @Qst<|aI @Qn7<|aI @Qdm<|aI @QcK<|aI @QcL<|aI @xc<|aI @oI<|aI @tu<|aI @uz<|aI @tK<|aI @dp<|aI @QmA<|aI @Qjp<|aI @QoK<|aI @QnR <|
 aI @Qaq<|aI @Qmz<|aI @QkV<|aI @Qhh<|aI @Qfs<|aI @QgB<|aI @Qi6<|aI @QhY<|aI @QiE<|aI @Qge<|aI @Qmn<|aI @Qje<|aI @QlN<|aI @Qkq<|aI @Qlg<|aI @QjE<|aI @QgU<|aI @Qkr <|
 aI @Qib<|aI @QiT<|aI @QhC<|aI @Qke<|aI @Qgq<|aI @QcE<|aI @Qeh<|aI @Qem<|aI @Qbz<|aI @QiF<|aI @Qcr<|aI @Qfl<|aI @QmW<|aI @Qh5<|aI @QhD<|aI @QcB<|aI @Qdc<|aI @QdS<|aI @Qbe<|aI @Qd1<|aI @QbI<|aI @QbT<|aI @QcF<|aI @Qfr<|aI @Qdb <|
 aI @uS<|aI @yL<|aI @yN<|aI @QjR<|aI @wP<|aI @QmB<|aI @Qn3<|aI @Qbh<|aI @ck<|aI @Qlu<|aI @QiA <|
 aI @QeC<|aI @Qi5<|aI @Qb7<|aI @Qdk<|aI @QjJ<|aI @Qa2<|aI @Qbb<|aI @QbA<|aI @vh<|aI @uI<|aI @wL<|aI @vD <|
 aI @Qcv<|aI @QlO<|aI @Qbl<|aI @Qco<|aI @QdA<|aI @uX<|aI @Qmv<|aI @QbV<|aI @QdQ<|aI @QcR<|aI @qj<|aI @tD<|aI @yg<|aI @pI<|aI @pw<|aI @Qce<|aI @Qm7<|aI @Qb0<|aI @Qbx<|aI @Qk6<|aI @QbD <|
 aI @QpL<|aI @m_c<|aI @QbL<|aI @QaY<|aI @QaZ<|aI @QbF<|aI @Ql5<|aI @QkN<|aI @Qgc<|aI @u6<|aI @yj<|aI @w4 <|
 aI @wj<|aI @QlS<|aI @yQ<|aI @vK<|aI @vW<|aI @QqQ<|aI @Qd8<|aI @QdI<|aI @Qc8<|aI @Qa5 <|
 aI @QhP<|aI @QgH<|aI @QlY<|aI @QkW<|aI @Qgb<|aI @xE<|aI @xh<|aI @Qdp<|aI @wh<|aI @Qqn<|aI @QfO<|aI @QkU<|aI @QhI<|aI @QfD<|aI @xP<|aI @Qj7 <|
 aI @xK<|aI @ub<|aI @sU<|aI @QaX<|aI @QdV<|aI @QrB<|aI @Qho<|aI @Qnv<|aI @QgT<|aI @Qis<|aI @Qhw<|aI @Qi2<|aI @QkQ<|aI @QcX<|aI @Qmc<|aI @Qfa<|aI @QkY<|aI @Qg2<|aI @Qhf<|aI @Qrm<|aI @Qpe<|aI @Qps<|aI @QqA<|aI @QnV<|aI @QqE<|aI @QsN<|aI @Qoq<|aI @QrG<|aI @Qo5<|aI @QqX<|aI @QpH<|aI @QsG<|aI @Qry<|aI @QsL<|aI @Qqx<|aI @Qfz<|aI @Qj3<|aI @Qia<|aI @Qej<|aI @QcN<|aI @Qdo<|aI @QdB<|aI @Qa4<|aI @wq<|aI @pt<|aI @Qr9 <|
 aI @QgI<|aI @Qkw<|aI @QbW<|aI @WL<|aI @jl<|aI @Qnj<|aI @Qgn<|aI @Qbd<|aI @x_b<|aI @x_i<|aI @x_s<|aI @QkF<|aI @Qnk<|aI @Qlv<|aI @QpR<|aI @Qil<|aI @Qdx<|aI @wW<|aI @Qtr <|
 aI @Qko<|aI @Qdl<|aI @Qdz<|aI @Qik<|aI @QhM<|aI @QrP<|aI @Qc2<|aI @Qcf<|aI @Qgy<|aI @QeB<|aI @QmP<|aI @Qfq<|aI @QnL<|aI @QfH<|aI @Qds<|aI @Qd4 <|
 aI @QcW<|aI @yC<|aI @yY<|aI @uZ<|aI @vm<|aI @QdE<|aI @Qkx<|aI @Qlc<|aI @QiS<|aI @Qfn<|aI @wK<|aI @pE<|aI @QcH<|aI @Qck<|aI @Qd6<|aI @QcP<|aI @Qee <|
 aI @l_0<|aI @l_s<|aI @Qo1<|aI @Qk5<|aI @Qnf<|aI @QiG<|aI @QcC<|aI @QdF<|aI @Qa7<|aI @QlP<|aI @Qpg<|aI @Qsf<|aI @Qrx<|aI @QpQ<|aI @QpM<|aI @Qc5<|aI @Qh0<|aI @QjL<|aI @Qhk<|aI @l_b<|aI @l_i<|aI @QrF<|aI @l_n<|aI @QgR<|aI @xG<|aI @vS<|aI @Qbf<|aI @Qb6<|aI @Qpo<|aI @QsI<|aI @QqZ<|aI @QsS<|aI @QdJ<|aI @Qb3 <|
 aI @QlZ<|aI @Qgs<|aI @QiQ<|aI @i_b<|aI @i_i<|aI @QrD<|aI @i_n<|aI @i_u<|aI @Qq5<|aI @QpS<|aI @QaS<|aI @Qmx <|
 aI @Qj2<|aI @Qbw<|aI @Qla<|aI @QsE<|aI @s_b<|aI @QoG<|aI @Qq9<|aI @Qsg<|aI @Qtz<|aI @Qs3<|aI @Qtj<|aI @Qoi<|aI @QqG<|aI @Qrn<|aI @QoE<|aI @Qbj<|aI @QmT<|aI @Qtx<|aI @Qpz <|
 aI @QmF<|aI @Qir<|aI @QgX<|aI @QhA<|aI @Qgv<|aI @vZ<|aI @Qc0<|aI @QhX<|aI @Qmt<|aI @Qmp <|
 aI @Qjx<|aI @Qle<|aI @QoZ<|aI @zf<|aI @a_1<|aI @a_2<|aI @a_3<|aI @a_4<|aI @Qp7<|aI @QoQ<|aI @QqU @QsP
def evT:=aI @YU<|aI @QbZ<|aI @QeN<|aI @Qqv<|aI @YR<|aI @QfC<|aI @QdY<|aI @Qdn<|aI @Qb9<|aI @QjH<|aI @pJ<|aI @uP<|aI @tE<|aI @c8<|aI @Qjc<|aI @ou<|aI @nw<|aI @np<|aI @em<|aI @t7<|aI @dh<|aI @yP @wk
def evN:=aI @Vx<|aI @List.contains_nil<|aI @Qi<|aI @Bool.and_true<|aI @List.length_append<|aI @List.length_cons<|aI @List.length_nil<|aI @Nat.zero_add<|aI @Vn<|@VJ
end Go.Proofs.YtoilkmgiofimjaaGreatDoor.Am
