import Derived.Test.YtfhnbabcbhgffaaGreatDoorEvA
set_option linter.unusedVariables false
set_option linter.unusedSimpArgs false
set_option linter.defProp false
set_option maxRecDepth 100000
noncomputable section
namespace Go.Proofs.YtfhnbabcbhgffaaGreatDoor.Am
open Go
section
variable{β:Type}
def GD{α:Type}{p:Prop}[Decidable p]{b:Bool}(h:b=true↔p)(x y:α):(if p then x else y)=cond b x y:=by
 cases b with
 |true=>rw[if_pos (h.1 rfl)];rfl
 |false=>rw[if_neg (λhp=>by have:=h.2 hp;cases this)];rfl
def UJ{m n:Nat}:Nat.blt m n=true↔m<n:=by rw[Nat.blt_eq]
def RI{m n:Nat}:Nat.ble m n=true↔m≤n:=by rw[Nat.ble_eq]
def tP{α:Type}(b:Bool)(x y:α)(_:Lk (x,y)):α:=cond b x y
def xb{α:Type}(x y:α)(l):tP true x y l=x:=Qj
def wk{α:Type}(x y:α)(l):tP false x y l=y:=Qj
def QeN(v)(k:AV→Option β)(l):S7 v k l=k v:=Qj
def zx(K)(k:KS→Option β)(l):JZ K k l=k K:=Qj
def QjG(f:Fr)(d:Nat)(v:AV)(t:Nat):up f d v t=tP (d==t) v (f t) ():=by
 unfold up tP;by_cases h:t=d
 ·simp[h]
 ·have:(d==t)=false:=by simp;exact λh'=>h h'.symm
  simp[h,this]
def QkV(m n:Nat):Nat.ble m n=decide (m≤n):=by rw[Bool.eq_iff_iff,Nat.ble_eq];simp
def Qi3(m n:Nat):Nat.blt m n=decide (m<n):=by rw[Bool.eq_iff_iff,Nat.blt_eq];simp
def Qqk(h:Decidable True):@decide True h=true:=by simp
def QsR(h:Decidable False):@decide False h=false:=by simp
def QcU(m n:Nat)(f:Fr)(t:Nat):oD m n f t=tP (Nat.ble m t&&Nat.blt t n) .u (f t) ():=Qj
def oM(t:Nat):Vm [] t=.u:=Qj
def iY(d:Nat)(v:AV)(l:List (Nat×AV))(t:Nat):Vm ((d,v)::l) t=tP (d==t) v (Vm l t) ():=by
 show up (Vm l) d v t=_;exact QjG _ _ _ _
def jx(t:Nat):Jy [] t=.u:=by simp[Jy]
def gZ(v:AV)(l:List AV):Jy (v::l) 0=v:=Qj
def ge(v:AV)(l:List AV)(t:Nat):Jy (v::l) (t+1)=Jy l t:=Qj
def s8(f:Fr)(t:Tmp):ev f (.tmp t)=f t:=Qj
def jB(f:Fr)(v:Value):ev f (.const v)=cv v:=Qj
def oO(f:Fr)(g:FuncId):ev f (.func g)=.clo g []:=Qj
def pq(b:Bool):cv (.bool b)=.b b:=Qj
def tN(k:IntKind)(i:Int):cv (.int k i)=.i k i:=Qj
def qT(x:ByteArray):cv (.string x)=.s x.data.toList:=Qj
def pK:cv (.slice none 0 0)=.nil:=Qj
def fM{α:Type}(x y:α):cond true x y=x:=Qj
def gw{α:Type}(x y:α):cond false x y=y:=Qj
def Xy(q:Option β)(l):Xi true q l=q:=Qj
def JR{ρ δ γ:Type}(o:Option (Fl ρ δ))(p:ρ→γ)(q:δ→γ):Option γ:=o.map (Zy p q)
def cP{ρ δ γ:Type}(o:Option (Fl ρ δ))(p:ρ→γ)(q:δ→γ)(k:γ→Option β)(l):Aj (JR o p q) k l=o.bind (Zy (λr=>k (p r)) (λr=>k (q r))):=by
 cases o with
 |none=>rfl
 |some o=>cases o<;>rfl
def Si{α:Type}(x:α)(k:α→Option β)(l):Aj (some x) k l=k x:=Qj
def dp{α:Type}(k:α→Option β)(l):Aj (none:Option α) k l=none:=Qj
def cQ{α:Type}(b:Bool)(q:Option α)(k:α→Option β)(l)(l'):Aj (Xi b q l') k l=Xi b (Aj q k l) ():=by cases b<;>rfl
def gS{α γ:Type}(o:Option γ)(e:γ→α)(k:α→Option β)(l):Aj (o.map e) k l=o.bind (λr=>k (e r)):=by cases o<;>rfl
def Yq{α:Type}(i):lk ([]:List (Nat×α)) i=none:=Qj
def bA{α:Type}(i)(x:α)(l j):lk ((i,x)::l) j=tP (i==j) (some x) (lk l j) ():=Qj
end
section
variable{β:Type}{P:Program}{D:Orc}{a:Ann}{f:Fr}{K:KS}{Q:KT β}{k:AV→KS→Option β}
def QeS(l):Jl P D a .skip Q f K l=Q .normal f K:=Qj
def Qmt(l):Jl P D a .ret Q f K l=Q .ret f K:=Qj
def Qcq(id l):Jl P D a (.exit id) Q f K l=Q (.exit id) f K:=Qj
def QnW(x y l):Jl P D a (.seq x y) Q f K l=Jl P D a x (ga (λf K=>Jl P D a y Q f K ()) Q) f K ():=Qj
def Qhi(v:AV)(x y:Option β)(_:Lk (x,y)):Option β:=match v with|.b b=>cond b x y|_=>none
def QeC(c x y l):Jl P D a (.cond c x y) Q f K l=Qhi (ev f c) (Jl P D a x Q f K ()) (Jl P D a y Q f K ()) ():=Qj
def Qi7(b)(x y:Option β)(l):Qhi (.b b) x y l=cond b x y:=Qj
def xK(id c l):Jl P D a (.block id c) Q f K l=Jl P D a c (pp id Q) f K ():=Qj
def rO(id ol l):Jl P D a (.region id (List.toArray ol) false) Q f K l=xY (lk a.fz id) (lk a.fc id) f K (λf K=>RO P D a id (lk a.av id) (List.toArray ol) Q f K ()) ():=Qj
def yy{α:Type}(x:α)(xs ys:List α):List.append (x::xs) ys=x::List.append xs ys:=Qj
def QcW{α:Type}(ys:List α):List.append [] ys=ys:=Qj
def Qpy(f:Fr)(K:KS)(k:Fr→KS→Option β)(l):xY none none f K k l=k f K:=Qj
def Qo2(f:Fr)(K:KS)(ss)(k:Fr→KS→Option β)(l):xY (some ss) none f K k l=dL ss f K k ():=Qj
def Qrt(f:Fr)(K:KS)(cs)(k:Fr→KS→Option β)(l):xY none (some cs) f K k l=cH cs f K k ():=Qj
def Qpo(f:Fr)(K:KS)(k:Fr→KS→Option β)(l):cH [] f K k l=k f K:=Qj
def Qqw(f:Fr)(K:KS)(s o ss)(k:Fr→KS→Option β)(l):cH ((s,o)::ss) f K k l=yL o (f s) K (λK=>cH ss f K k ()) ():=Qj
def Qp1(o jb i q)(K:KS)(k:KS→Option β)(l):yL o (.ptr jb i q) K k l=xp o jb (kg K jb) K k ():=Qj
def QpG(o jb cs)(K:KS)(k:KS→Option β)(l):xp o jb (some (.box cs)) K k l=wZ o jb cs (cs.drop o) K k ():=Qj
def QsA(o jb j cs ds)(K:KS)(k:KS→Option β)(l):wZ o jb cs (.sl j::ds) K k l=w5 o jb j cs (kg K j) K k ():=Qj
def QoV(o jb j cs m rows)(K:KS)(k:KS→Option β)(l):w5 o jb j cs (some (.lst m rows)) K k l=k ((K.set j none).set jb (some (.box (cs.set o (.imm m (Vc rows)))))):=Qj
def Qoo(f:Fr)(K:KS)(k:Fr→KS→Option β)(l):dL [] f K k l=k f K:=Qj
def Qr6(f:Fr)(K:KS)(s ss)(k:Fr→KS→Option β)(l):dL (s::ss) f K k l=wE s (f s) f K (λf K=>dL ss f K k ()) ():=Qj
def Qso(f:Fr)(K:KS)(s j)(k:Fr→KS→Option β)(l):wE s (.sl j) f K k l=Qan s j (kg K j) f K k ():=Qj
def Qo5(f:Fr)(K:KS)(s j m rows)(k:Fr→KS→Option β)(l):Qan s j (some (.lst m rows)) f K k l=k (up f s (.imm m (Vc rows))) (K.set j none):=Qj
def Ql5(id ol l):RO P D a id none (List.toArray ol) Q f K l=ex P D a id (lk a.an id) (List.toArray ol) ol Q f K ():=Qj
def Qlh(id vs ol l):RO P D a id (some vs) (List.toArray ol) Q f K l=Cx vs P D (List.toArray ol) ol f K (λf K=>Q .normal f K) ():=Qj
def QcC(vs ops)(k:Fr→KS→Option β)(l):Cx vs P D ops [] f K k l=k f K:=Qj
def ye(vs ops d o t p af r)(k:Fr→KS→Option β)(l):Cx vs P D ops (⟨some d,o,t,p,af,none⟩::r) f K k l=Ut vs P D o f K (λv K'=>S7 v (λv=>Cx vs P D ops r (up f d v) K' k ()) ()) ():=Qj
def ro(vs ops o t p af r)(k:Fr→KS→Option β)(l):Cx vs P D ops (⟨none,o,t,p,af,none⟩::r) f K k l=Ut vs P D o f K (λv K'=>Cx vs P D ops r f K' k ()) ():=Qj
def Qs1(vs ops r)(k:Fr→KS→Option β)(d op t pos after j want l):Cx vs P D ops (⟨some d,op,t,pos,after,some (j,want)⟩::r) f K k l =
  yi ((ops[j]?).bind (·.dst)) want f (λf=>Ut vs P D op f K (λv K'=>S7 v (λv=>Cx vs P D ops r (up f d v) K' k ()) ()) ()) (λf=>S7 (.tup []) (λv=>Cx vs P D ops r (up f d v) K k ()) ()) ():=Qj
def Qis(vs ops r)(k:Fr→KS→Option β)(op t pos after j want l):Cx vs P D ops (⟨none,op,t,pos,after,some (j,want)⟩::r) f K k l =
  yi ((ops[j]?).bind (·.dst)) want f (λf=>Ut vs P D op f K (λv K'=>Cx vs P D ops r f K' k ()) ()) (λf=>Cx vs P D ops r f K k ()) ():=Qj
def Ix:Op→Bool
 |.call ⟨.value (.func _),_,_⟩=>true
 |_=>false
def Qr8(vs o l)(k:AV→KS→Option β)(h:Ix o=false):Ut vs P D o f K k l=Eo P D o f K k ():=by
 unfold Ix at h;unfold Ut
 split
 ·cases h
 ·rfl
def QnZ(vs g args ts l)(k:AV→KS→Option β):Ut vs P D (.call ⟨.value (.func g),args,ts⟩) f K k l=cond (vs.contains g) (G6 P D (.call ⟨.value (.func g),args,ts⟩) f K k ()) (Eo P D (.call ⟨.value (.func g),args,ts⟩) f K k ()):=Qj
def zO(x args ts):Ix (.call ⟨.value (.tmp x),args,ts⟩)=false:=Qj
def Qhw(b args ts):Ix (.call ⟨.builtin b,args,ts⟩)=false:=Qj
def yF(x):Ix (.move x)=false:=Qj
def Qgn(x):Ix (.assign x)=false:=Qj
def wx(t x):Ix (.load t x)=false:=Qj
def tH(t x y):Ix (.store t x y)=false:=Qj
def Qjt(t x i):Ix (.fieldAddr t x i)=false:=Qj
def QnE(t x i):Ix (.indexAddr t x i)=false:=Qj
def Qel(x i):Ix (.extract x i)=false:=Qj
def Qfj(t x i):Ix (.field t x i)=false:=Qj
def Qdw(o t x y u):Ix (.binOp o t x y u)=false:=Qj
def Qi1(o t x):Ix (.unOp o t x)=false:=Qj
def Qdy(x):Ix (.nilCheck x)=false:=Qj
def wA(c x y):Ix (.pick c x y)=false:=Qj
def uQ(t ps):Ix (.build t ps)=false:=Qj
def Qha(t n ps):Ix (.buildSlice t n ps)=false:=Qj
def qQ(t):Ix (.alloc t)=false:=Qj
def QdF(t x):Ix (.box t x)=false:=Qj
def QeB(t x lo hi m):Ix (.slice t x lo hi m)=false:=Qj
def QgJ(t x i):Ix (.index t x i)=false:=Qj
def Ql6(s t x):Ix (.convert s t x)=false:=Qj
def kM(id ops ol l):ex P D a id none ops ol Q f K l=fA P D a id (lk a.ac id) ops ol Q f K ():=Qj
def kh(id us ops ol l):ex P D a id (some us) ops ol Q f K l=ON P D ops us ol f K (λf K=>Q .normal f K) ():=Qj
def mU(id ops ol l):fA P D a id none ops ol Q f K l=WN P D a id ops ol Q f K ():=Qj
def l5(id x ops ol l):fA P D a id (some x) ops ol Q f K l=Ml P D ops ol f K (λf K=>Q .normal f K) ():=Qj
def Qga(ops)(k:Fr→KS→Option β)(l):Ml P D ops [] f K k l=k f K:=Qj
def w6(ops d o t p af r)(k:Fr→KS→Option β)(l):Ml P D ops (⟨some d,o,t,p,af,none⟩::r) f K k l=G6 P D o f K (λv K'=>S7 v (λv=>Ml P D ops r (up f d v) K' k ()) ()) ():=Qj
def rL(ops o t p af r)(k:Fr→KS→Option β)(l):Ml P D ops (⟨none,o,t,p,af,none⟩::r) f K k l=G6 P D o f K (λv K'=>Ml P D ops r f K' k ()) ():=Qj
def yo(x l):G6 P D (.move x) f K k l=Eo P D (.move x) f K k ():=Qj
def nY(x l):G6 P D (.assign x) f K k l=Eo P D (.assign x) f K k ():=Qj
def xG(t x l):G6 P D (.load t x) f K k l=Eo P D (.load t x) f K k ():=Qj
def v7(t x y l):G6 P D (.store t x y) f K k l=Eo P D (.store t x y) f K k ():=Qj
def Qj6(t x i l):G6 P D (.fieldAddr t x i) f K k l=Eo P D (.fieldAddr t x i) f K k ():=Qj
def Qjo(t x i l):G6 P D (.indexAddr t x i) f K k l=Eo P D (.indexAddr t x i) f K k ():=Qj
def QdA(t x i l):G6 P D (.field t x i) f K k l=Eo P D (.field t x i) f K k ():=Qj
def Qci(x i l):G6 P D (.extract x i) f K k l=Eo P D (.extract x i) f K k ():=Qj
def QeV(o t x y u l):G6 P D (.binOp o t x y u) f K k l=Eo P D (.binOp o t x y u) f K k ():=Qj
def uc(t ps l):G6 P D (.build t ps) f K k l=Eo P D (.build t ps) f K k ():=Qj
def Qhf(o t x l):G6 P D (.unOp o t x) f K k l=Eo P D (.unOp o t x) f K k ():=Qj
def Qc8(x l):G6 P D (.nilCheck x) f K k l=Eo P D (.nilCheck x) f K k ():=Qj
def wL(c x y l):G6 P D (.pick c x y) f K k l=Eo P D (.pick c x y) f K k ():=Qj
def vf(t l):G6 P D (.alloc t) f K k l=Eo P D (.alloc t) f K k ():=Qj
def QgD(t x lo hi m l):G6 P D (.slice t x lo hi m) f K k l=Eo P D (.slice t x lo hi m) f K k ():=Qj
def Qe2(t x i l):G6 P D (.index t x i) f K k l=Eo P D (.index t x i) f K k ():=Qj
def QkD(b xs ts l):G6 P D (.call ⟨.builtin b,xs,ts⟩) f K k l=Eo P D (.call ⟨.builtin b,xs,ts⟩) f K k ():=Qj
def QnT(s t x l):G6 P D (.convert s t x) f K k l=Eo P D (.convert s t x) f K k ():=Qj
def Qd8(t x l):G6 P D (.box t x) f K k l=Eo P D (.box t x) f K k ():=Qj
def nW(b c d e:Bool)(D:Orc)(g:FuncId)(K:KS)(vs:List AV)(k:AV→KS→Option β)(_:Lk (vs,k)):Option β:=cond b (bM K vs k ()) (cond c (YI K vs k ()) (cond d (Tb D g K vs k ()) (cond e (O1 D g K vs k ()) (Mc D g K vs k ()))))
def Qad(x xs ts l):G6 P D (.call ⟨.value x,List.toArray xs,ts⟩) f K k l=iU (ev f x) (λg caps=>nW (D.s g) (D.q g) (D.w g) (D.v g) D g K (xs.map (ev f)++caps) k ()) ():=Qj
def s_t(g c d e)(K:KS)(vs)(k:AV→KS→Option β)(l):nW true c d e D g K vs k l=bM K vs k ():=Qj
def s_q(g d e)(K:KS)(vs)(k:AV→KS→Option β)(l):nW false true d e D g K vs k l=YI K vs k ():=Qj
def s_f(g)(K:KS)(vs)(k:AV→KS→Option β)(l):nW false false false false D g K vs k l=Mc D g K vs k ():=Qj
def s_w(g e)(K:KS)(vs)(k:AV→KS→Option β)(l):nW false false true e D g K vs k l=US D g K (Kl vs) vs k ():=Qj
def w_j(g)(K:KS)(js vs)(k:AV→KS→Option β)(l):US D g K js vs k l=Xi (pl js) (UL D g K js (Gy js vs) k ()) ():=Qj
def w_s(g)(K:KS)(js cs)(k:AV→KS→Option β)(l):UL D g K js (some cs) k l=Xi (PA (Z4 K js)) (Aj (D.a g (Z4 K js) cs) (λr=>k (EZ js K.length r.1) (HP K js r.2)) ()) ():=Qj
def s_v(g)(K:KS)(vs)(k:AV→KS→Option β)(l):nW false false false true D g K vs k l=UM D g K (Kl vs) vs k ():=Qj
def v_j(g)(K:KS)(js vs)(k:AV→KS→Option β)(l):UM D g K js vs k l=Xi (pl js) (UI D g K js (Gy js vs) k ()) ():=Qj
def v_s(g)(K:KS)(js cs)(k:AV→KS→Option β)(l):UI D g K js (some cs) k l=Xi (jz (Z4 K js)) (Aj (D.m g (Z4 K js) cs) (λx=>k (X2 K.length x).1 (Bs K js (D5 js)++(X2 K.length x).2)) ()) ():=Qj
def QmS:D5 []=[]:=Qj
def QlF(j js):D5 (j::js)=none::D5 js:=Qj
def p_0(vs):aL [] vs=vs:=by cases vs<;>rfl
def p_e(ss):aL ss []=[]:=by cases ss<;>rfl
def p_s(s ss v vs):aL (s::ss) (v::vs)=jD s v::aL ss vs:=Qj
def p_n(v):jD .n v=v:=by cases v<;>rfl
def p_z(k v):jD (.z k) v=pD k v:=by cases v<;>rfl
def p_a(ns cs):jD (.a ns) (.agg cs)=.agg (ni ns cs):=Qj
def Qr0(cs):ni [] cs=cs:=by cases cs<;>rfl
def QrO(n ns c cs):ni (n::ns) (c::cs)=pD n c::ni ns cs:=Qj
def Qqy(n):pD (n+1) .nil=.imm (n+1) []:=Qj
def QrW:pD 0 .nil=.nil:=Qj
def Qrm(n c x):pD n (.i c x)=.i c x:=Qj
def QoW(n x):pD n (.b x)=.b x:=Qj
def QrR(n x):pD n (.s x)=.s x:=Qj
def Qox(n m r):pD n (.imm m r)=.imm m r:=Qj
def Qrf:Kl []=[]:=Qj
def QrM(c cs):Kl (c::cs)=YE c++Kl cs:=Qj
def QnN(j):YE (.sl j)=[j]:=Qj
def QiY(j a b):YE (.ptr j a b)=[j]:=Qj
def Qks(js j a b):Gz js (.ptr j a b)=(Fb js j).map λi=>.ptr i a b:=Qj
def Qql(K js es):HP K js es=Bs K js es++OI js es:=Qj
def Qsr(es):OI [] es=es:=Qj
def Qsv(j js e es):OI (j::js) (e::es)=OI js es:=Qj
def Qs8(k i):HR [] k i=k+i:=Qj
def QrN(j js k):HR (j::js) k 0=j:=Qj
def Qrn(j js k):HR (j::js) k 1=HR js k 0:=Qj
def Qsl(j js k):HR (j::js) k 2=HR js k 1:=Qj
def QoL(j js k):HR (j::js) k 3=HR js k 2:=Qj
def QsL(j js k):HR (j::js) k 4=HR js k 3:=Qj
def QrX(j js k):HR (j::js) k 5=HR js k 4:=Qj
def Qoq(j js k):HR (j::js) k 6=HR js k 5:=Qj
def QpH(j js k):HR (j::js) k 7=HR js k 6:=Qj
def Qqa(j js k):HR (j::js) k 8=HR js k 7:=Qj
def QsP(j js k):HR (j::js) k 9=HR js k 8:=Qj
def QrQ(j js k):HR (j::js) k 10=HR js k 9:=Qj
def QrZ(j js k):HR (j::js) k 11=HR js k 10:=Qj
def Qrl(j js k):HR (j::js) k 12=HR js k 11:=Qj
def QsE(j js k):HR (j::js) k 13=HR js k 12:=Qj
def QoO(j js k):HR (j::js) k 14=HR js k 13:=Qj
def Qqc(j js k):HR (j::js) k 15=HR js k 14:=Qj
def Qor(j js k):HR (j::js) k 16=HR js k 15:=Qj
def Qot(js k c n):EZ js k (.i c n)=.i c n:=by simp[EZ]
def QrD(js k x):EZ js k (.b x)=.b x:=by simp[EZ]
def Qrh(js k x):EZ js k (.s x)=.s x:=by simp[EZ]
def Qq9(js k):EZ js k .nil=.nil:=by simp[EZ]
def QpA(js k n r):EZ js k (.imm n r)=.imm n r:=by simp[EZ]
def QjE(js k i):EZ js k (.sl i)=.sl (HR js k i):=by simp[EZ]
def QjY(js k i a b):EZ js k (.ptr i a b)=.ptr (HR js k i) a b:=by simp[EZ]
def QkO(js k cs):EZ js k (.agg cs)=.agg (Lh js k cs):=by simp[EZ]
def QjN(js k cs):EZ js k (.tup cs)=.tup (Lh js k cs):=by simp[EZ]
def Qrp(js k):Lh js k []=[]:=by simp[Lh]
def Qqn(js k c cs):Lh js k (c::cs)=EZ js k c::Lh js k cs:=by simp[Lh]
def QsI(m c n):TN m (.i c n)=true:=Qj
def Qp6(m x):TN m (.b x)=true:=Qj
def Qs0(m x):TN m (.s x)=true:=Qj
def Qr7(m):TN m .nil=true:=Qj
def QsN(m n r):TN m (.imm n r)=true:=Qj
def QlQ(m i):TN m (.sl i)=Nat.ble (i+1) m:=Qj
def Qkl(m i a b):TN m (.ptr i a b)=Nat.ble (i+1) m:=Qj
def QnI(m cs):TN m (.agg cs)=aj m cs:=Qj
def QnC(m cs):TN m (.tup cs)=aj m cs:=Qj
def QqI(m):aj m []=true:=Qj
def Qom(m c cs):aj m (c::cs)=(TN m c&&aj m cs):=Qj
def Qq5(c n):clc (.i c n)=true:=Qj
def Qsu(x):clc (.b x)=true:=Qj
def QlR(x):clc (.s x)=true:=Qj
def Qq8:clc .nil=true:=Qj
def Qp4(n r):clc (.imm n r)=true:=Qj
def QjB:dy []=true:=Qj
def QhH(c cs):dy (c::cs)=(clc c&&dy cs):=Qj
def Qqb:PA []=true:=Qj
def Qpb(n r K):PA (some (.lst n r)::K)=PA K:=Qj
def QlE(cs K):PA (some (.box cs)::K)=(dy cs&&PA K):=Qj
def Qgs(cs):YE (.agg cs)=Kl cs:=Qj
def Qst(c n):YE (.i c n)=[]:=Qj
def Qs2(x):YE (.b x)=[]:=Qj
def QlO(x):YE (.s x)=[]:=Qj
def Qpa:YE .nil=[]:=Qj
def QoG(n r):YE (.imm n r)=[]:=Qj
def Qof(g l):YE (.clo g l)=[]:=Qj
def QsK(js):Gy js []=some []:=Qj
def QoN(js c cs):Gy js (c::cs)=(Gz js c).bind λc'=>(Gy js cs).map (c'::·):=Qj
def QhC(js j):Gz js (.sl j)=(Fb js j).map .sl:=Qj
def Qc7(js cs):Gz js (.agg cs)=(Gy js cs).map .agg:=Qj
def Qqi(js c n):Gz js (.i c n)=some (.i c n):=Qj
def QoZ(js x):Gz js (.b x)=some (.b x):=Qj
def Qme(js x):Gz js (.s x)=some (.s x):=Qj
def Qqj(js):Gz js .nil=some .nil:=Qj
def QqA(js n r):Gz js (.imm n r)=some (.imm n r):=Qj
def Qrz(js g):Gz js (.clo g [])=some (.clo g []):=Qj
def SP(x y:Nat):Nat.beq x y=(x==y):=by rw[Bool.eq_iff_iff];simp
def QsG(x l j):Fb (x::l) j=tP (x==j) (some 0) ((Fb l j).map (·+1)) ():=by rw[←SP];rfl
def QqG(K):Z4 K []=[]:=Qj
def QoY(K j js):Z4 K (j::js)=kg K j::Z4 K js:=Qj
def QpO(K es):Bs K [] es=K:=by cases es<;>rfl
def QoU(K j js e es):Bs K (j::js) (e::es)=Bs (K.set j e) js es:=Qj
def Qsb:jz []=true:=Qj
def QqF(n r K):jz (some (.lst n r)::K)=jz K:=Qj
def QpY(c n):AV.scal (.i c n)=true:=Qj
def Qo3(x):AV.scal (.b x)=true:=Qj
def Qsn(x):AV.scal (.s x)=true:=Qj
def QpQ(c n):AV.flat (.i c n)=true:=Qj
def Qrg(x):AV.flat (.b x)=true:=Qj
def Qs3(x):AV.flat (.s x)=true:=Qj
def Qrb:AV.flat (.tup [])=true:=Qj
def Qrs:qM .one=true:=Qj
def w_p(x g j i o)(k:AV→KS→Option β)(l):onp D f K (.ptr j i o) x g k l=onj D f K x g j i o (kg K j) k ():=Qj
def QpL(x g j i o q r)(k:AV→KS→Option β)(l):onj D f K x g j i o (some (.lst q r)) k l=onx D f K x g j i o q r ((VJ r i).drop o) k ():=Qj
def w_x(x g j i o q r m rs cs)(k:AV→KS→Option β)(l):onx D f K x g j i o q r (.own m rs::cs) k l=Xi x.scal (Aj (D.a g [some (.lst m rs)] [.sl 0,x]) (λs=>onr D f K j i o q r s k ()) ()) ():=Qj
def Qrw(u us ops d o t p af r)(k:Fr→KS→Option β)(l):ON P D ops (u::us) (⟨some d,o,t,p,af,none⟩::r) f K k l=Eo P D o f K (λv K'=>S7 v (λv=>ON P D ops us r (up f d v) K' k ()) ()) ():=Qj
def QaB(d:Option Tmp)(v:AV)(f:Fr)(k:Fr→Option β)(_:Lk (f,k)):Option β:=match d with
 |some d=>S7 v (λv=>k (up f d v)) ()
 |none=>k f
def QaN(d v f)(k:Fr→Option β)(l):QaB (some d) v f k l=S7 v (λv=>k (up f d v)) ():=Qj
def QsB(ops d t p y1 p1 a1 e x y2 p2 a2 dst g d' e' ts y3 p3 a3 r)(k:Fr→KS→Option β)(l):ON P D ops [] (⟨some d,.load t p,y1,p1,a1,none⟩::⟨some e,.move x,y2,p2,a2,none⟩::⟨dst,.call ⟨.value (.func g),List.toArray [.tmp d',.tmp e'],ts⟩,y3,p3,a3,none⟩::r) f K k l =
  Xi (qM (tk P t)&&((d==d')&&((e==e')&&!(d==e)))) (onp D f K (ev f p) (ev (up f d (.sl K.length)) x) g (λv K'=>QaB dst v (up (up f d (.sl K.length)) e (ev (up f d (.sl K.length)) x)) (λf=>Ml P D ops r f K' k ()) ()) ()) ():=by rw[←SP,←SP,←SP];cases dst<;>rfl
def QjK(a b l):Eo P D (.makeInterface a b) f K k l=none:=Qj
def QlB(a l):Eo P D (.panic a) f K k l=none:=Qj
def bg(t len ps l):G6 P D (.buildSlice t len ps) f K k l=Eo P D (.buildSlice t len ps) f K k ():=Qj
def jR(o:Option (List Int))(K:KS)(j:Nat)(k:AV→KS→Option β)(_:Lk k):Option β:=match o with
 |some xs=>Xi (decide (xs.length<4611686018427387904)) (JZ (K.set j none++[some (.lst 1 ((ZR xs).map cI))]) (λK'=>k (.sl K.length) K') ()) ()
 |none=>none
def qi(e:Option QE)(K:KS)(j:Nat)(k:AV→KS→Option β)(_:Lk k):Option β:=match e with
 |some (.lst 1 rows)=>jR (GI rows) K j k ()
 |_=>none
def Qoc(K:KS)(j)(k:AV→KS→Option β)(l):YI K [.sl j] k l=qi (kg K j) K j k ():=Qj
def QjA(r)(K:KS)(j)(k:AV→KS→Option β)(l):qi (some (.lst 1 r)) K j k l=jR (GI r) K j k ():=Qj
def QdO(xs)(K:KS)(j)(k:AV→KS→Option β)(l):jR (some xs) K j k l=Xi (decide (xs.length<4611686018427387904)) (JZ (K.set j none++[some (.lst 1 ((ZR xs).map cI))]) (λK'=>k (.sl K.length) K') ()) ():=Qj
def jE(o:Option (List Int))(K:KS)(j:Nat)(k:AV→KS→Option β)(_:Lk k):Option β:=match o with
 |some xs=>Xi (decide (xs.length<4611686018427387904)) (JZ (K.set j (some (.lst 1 ((Aw xs).map cI)))) (λK=>k (.tup []) K) ()) ()
 |none=>none
def vJ(e:Option QE)(K:KS)(j:Nat)(k:AV→KS→Option β)(_:Lk k):Option β:=match e with
 |some (.lst 1 rows)=>jE (GI rows) K j k ()
 |_=>none
def Qqo(K:KS)(j)(k:AV→KS→Option β)(l):bM K [.sl j] k l=vJ (kg K j) K j k ():=Qj
def Ql3(r)(K:KS)(j)(k:AV→KS→Option β)(l):vJ (some (.lst 1 r)) K j k l=jE (GI r) K j k ():=Qj
def QcE(xs)(K:KS)(j)(k:AV→KS→Option β)(l):jE (some xs) K j k l=Xi (decide (xs.length<4611686018427387904)) (JZ (K.set j (some (.lst 1 ((Aw xs).map cI)))) (λK=>k (.tup []) K) ()) ():=Qj
def ju:∀xs:List Int,GI (xs.map λx=>[.i .i64 x])=some xs
 |[]=>rfl
 |x::xs=>by rw[List.map_cons,GI,ju xs];rfl
def tM(P:Program)(D:Orc)(a:Ann)(id:Nat)(ops:Array Oper)(o:Option (List Nat))(Q:KT β)(f:Fr)(K:KS)(_:Lk (ops,Q,f)):Option β:=WN P D a id ops (fJ ops o) Q f K ()
def zC(id ol l):Jl P D a (.region id (List.toArray ol) true) Q f K l=xY (lk a.fz id) (lk a.fc id) f K (λf K=>Sc P D a id (lk a.av id) (List.toArray ol) Q f K ()) ():=Qj
def Qmd(id ol l):Sc P D a id none (List.toArray ol) Q f K l=fe P D a id (lk a.eb id) (List.toArray ol) Q f K ():=Qj
def QjM(id vs ol l):Sc P D a id (some vs) (List.toArray ol) Q f K l=eU vs P D a id (lk a.ot id) (List.toArray ol) Q f K ():=Qj
def QkT(id vs ol l):eU vs P D a id none (List.toArray ol) Q f K l=md vs P D (List.toArray ol) (lk a.ord id) Q f K ():=Qj
def QlX(id vs t ops l):eU vs P D a id (some t) ops Q f K l=FK vs P D ops t f K (λf K=>Q .normal f K) ():=Qj
def Qlv(vs ol l):md vs P D (List.toArray ol) none Q f K l=Cx vs P D (List.toArray ol) ol f K (λf K=>Q .normal f K) ():=Qj
def Qi0(id ops l):fe P D a id none ops Q f K l=Ns P D a id ops (lk a.ot id) Q f K ():=Qj
def QaL(P:Program)(D:Orc)(a:Ann)(id:Nat)(ol:List Oper)(Q:KT β)(f:Fr)(K:KS)(_:Lk (Q,f)):Option β:=Ns P D a id (List.toArray ol) (lk a.ot id) Q f K ()
def QhZ(id ds ol l):fe P D a id (some ds) (List.toArray ol) Q f K l=QaL P D a id (ol.map (ZS ds)) Q f K ():=by
 show Ns P D a id ((List.toArray ol).map (ZS ds)) (lk a.ot id) Q f K ()=Ns P D a id (List.toArray (ol.map (ZS ds))) (lk a.ot id) Q f K ();rw[List.map_toArray]
def c_M(id o r l):QaL P D a id (o::r) Q f K l=Ns P D a id (List.toArray (o::r)) (lk a.ot id) Q f K ():=Qj
def QhN(ds d t y p e g):ZS ds ⟨d,.buildSlice t 0 (List.toArray []),y,p,e,g⟩=⟨d,.move (.const (.slice none 0 0)),y,p,e,g⟩:=Qj
def Qlt(ds d t m ps y p e g):ZS ds ⟨d,.buildSlice t (m+1) ps,y,p,e,g⟩=⟨d,.buildSlice t (m+1) ps,y,p,e,g⟩:=Qj
def Qf7(ds d s x ts y p e g):ZS ds ⟨d,.call ⟨.builtin .append,List.toArray [.tmp s,x],ts⟩,y,p,e,g⟩=cond (ds.contains s) ⟨d,.call ⟨.builtin .append,List.toArray [.const (.slice none 0 0),x],ts⟩,y,p,e,g⟩ ⟨d,.call ⟨.builtin .append,List.toArray [.tmp s,x],ts⟩,y,p,e,g⟩:=Qj
def QfM(ds d xs ts y p e g):ZS ds ⟨d,.call ⟨.builtin .len,xs,ts⟩,y,p,e,g⟩=⟨d,.call ⟨.builtin .len,xs,ts⟩,y,p,e,g⟩:=Qj
def zH(ds d v xs ts y p e g):ZS ds ⟨d,.call ⟨.value v,xs,ts⟩,y,p,e,g⟩=⟨d,.call ⟨.value v,xs,ts⟩,y,p,e,g⟩:=Qj
def xu(ds d x y p e g):ZS ds ⟨d,.move x,y,p,e,g⟩=⟨d,.move x,y,p,e,g⟩:=Qj
def Qgh(ds d x y p e g):ZS ds ⟨d,.assign x,y,p,e,g⟩=⟨d,.assign x,y,p,e,g⟩:=Qj
def zu(ds d t x y p e g):ZS ds ⟨d,.load t x,y,p,e,g⟩=⟨d,.load t x,y,p,e,g⟩:=Qj
def uO(ds d t x z y p e g):ZS ds ⟨d,.store t x z,y,p,e,g⟩=⟨d,.store t x z,y,p,e,g⟩:=Qj
def Qhn(ds d t x i y p e g):ZS ds ⟨d,.fieldAddr t x i,y,p,e,g⟩=⟨d,.fieldAddr t x i,y,p,e,g⟩:=Qj
def Qib(ds d t x i y p e g):ZS ds ⟨d,.indexAddr t x i,y,p,e,g⟩=⟨d,.indexAddr t x i,y,p,e,g⟩:=Qj
def uV(ds d t ps y p e g):ZS ds ⟨d,.build t ps,y,p,e,g⟩=⟨d,.build t ps,y,p,e,g⟩:=Qj
def Qdd(ds d o t x z u y p e g):ZS ds ⟨d,.binOp o t x z u,y,p,e,g⟩=⟨d,.binOp o t x z u,y,p,e,g⟩:=Qj
def QcO(ds d x y p e g):ZS ds ⟨d,.nilCheck x,y,p,e,g⟩=⟨d,.nilCheck x,y,p,e,g⟩:=Qj
def QkM(ds d o t x y p e g):ZS ds ⟨d,.unOp o t x,y,p,e,g⟩=⟨d,.unOp o t x,y,p,e,g⟩:=Qj
def QfE(ds d t x i y p e g):ZS ds ⟨d,.field t x i,y,p,e,g⟩=⟨d,.field t x i,y,p,e,g⟩:=Qj
def QdH(ds d x i y p e g):ZS ds ⟨d,.extract x i,y,p,e,g⟩=⟨d,.extract x i,y,p,e,g⟩:=Qj
def Qfz(ds d t x y p e g):ZS ds ⟨d,.box t x,y,p,e,g⟩=⟨d,.box t x,y,p,e,g⟩:=Qj
def vB(ds d t y p e g):ZS ds ⟨d,.alloc t,y,p,e,g⟩=⟨d,.alloc t,y,p,e,g⟩:=Qj
def sC(ds d t x lo hi mx y p e g):ZS ds ⟨d,.slice t x lo hi mx,y,p,e,g⟩=⟨d,.slice t x lo hi mx,y,p,e,g⟩:=Qj
def pM(id ol l):Ns P D a id (List.toArray ol) none Q f K l=tM P D a id (List.toArray ol) (lk a.ord id) Q f K ():=Qj
def rC(id ops t l):Ns P D a id ops (some t) Q f K l=Ic P D ops t f K (λf K=>Q .normal f K) ():=Qj
def iI(P:Program)(D:Orc)(ops:Array Oper)(o:Option Oper)(t:OT)(f:Fr)(K:KS)(k:Fr→KS→Option β)(_:Lk (ops,f,k)):Option β:=match o with
 |some o=>Hj P D ops [o] f K (λf K=>Ic P D ops t f K k ()) ()
 |none=>none
def ud(ops)(k:Fr→KS→Option β)(l):Ic P D ops .done f K k l=k f K:=Qj
def Qi4(ol i t)(k:Fr→KS→Option β)(l):Ic P D (List.toArray ol) (.one i t) f K k l=iI P D (List.toArray ol) (ol[i]?) t f K k ():=by
 have:(List.toArray ol)[i]?=ol[i]?:=by simp
 unfold Ic iI;rw[this];cases ol[i]?<;>rfl
def uI(ops o t)(k:Fr→KS→Option β)(l):iI P D ops (some o) t f K k l=Hj P D ops [o] f K (λf K=>Ic P D ops t f K k ()) ():=Qj
def tQ(vs ops)(k:Fr→KS→Option β)(l):FK vs P D ops .done f K k l=k f K:=Qj
def cX(vs:List Nat)(P:Program)(D:Orc)(ops:Array Oper)(o:Option Oper)(t:OT)(f:Fr)(K:KS)(k:Fr→KS→Option β)(_:Lk (ops,f,k)):Option β:=match o with
 |some o=>Cx vs P D ops [o] f K (λf K=>FK vs P D ops t f K k ()) ()
 |none=>none
def Qbl(vs ol i t)(k:Fr→KS→Option β)(l):FK vs P D (List.toArray ol) (.one i t) f K k l=cX vs P D (List.toArray ol) (ol[i]?) t f K k ():=by
 have:(List.toArray ol)[i]?=ol[i]?:=by simp
 unfold FK cX;rw[this];cases ol[i]?<;>rfl
def ry(vs ops o t)(k:Fr→KS→Option β)(l):cX vs P D ops (some o) t f K k l=Cx vs P D ops [o] f K (λf K=>FK vs P D ops t f K k ()) ():=Qj
def Qbx(vs ops a b)(k:Fr→KS→Option β)(l):FK vs P D ops (.alt a b) f K k l=px (FK vs P D ops a f K k ()) (FK vs P D ops b f K k ()):=Qj
def Qnn(ops a b)(k:Fr→KS→Option β)(l):Ic P D ops (.alt a b) f K k l=px (Ic P D ops a f K k ()) (Ic P D ops b f K k ()):=Qj
def X3(x:Option β):px x x=x:=by simp[px]
def Xt(p q:Bool)(x:Option β)(l l':Unit):Xi p (Xi q x l) l'=Xi q (Xi p x l) l':=by cases p<;>cases q<;>rfl
def QdP(id ol l):tM P D a id (List.toArray ol) none Q f K l=WN P D a id (List.toArray ol) ol Q f K ():=Qj
def pk:List Oper→List Nat→List Oper
 |_,[]=>[]
 |ol,i::is=>match ol[i]? with|some o=>o::pk ol is|none=>pk ol is
def Qbp(P:Program)(D:Orc)(a:Ann)(id:Nat)(ops:Array Oper)(l:List Oper)(Q:KT β)(f:Fr)(K:KS)(_:Lk (ops,Q,f)):Option β:=WN P D a id ops l Q f K ()
def bH(ol is):fJ (List.toArray ol) (some is)=pk ol is:=by
 show is.filterMap (λi=>(List.toArray ol)[i]?)=_
 induction is with
 |nil=>rfl
 |cons i is ih =>
  rw[pk,List.filterMap_cons];have:(List.toArray ol)[i]?=ol[i]?:=by simp
  rw[this];cases ol[i]? with
  |none=>simpa using ih
  |some o=>rw[←ih]
def Qdm(id ol is l):tM P D a id (List.toArray ol) (some is) Q f K l=Qbp P D a id (List.toArray ol) (pk ol is) Q f K ():=by
 show WN P D a id _ (fJ _ _) Q f K ()=_;rw[bH];rfl
def QaO(vs:List Nat)(P:Program)(D:Orc)(ops:Array Oper)(l:List Oper)(Q:KT β)(f:Fr)(K:KS)(_:Lk (ops,Q,f)):Option β:=Cx vs P D ops l f K (λf K=>Q .normal f K) ()
def Qrd(vs ol is l):md vs P D (List.toArray ol) (some is) Q f K l=QaO vs P D (List.toArray ol) (pk ol is) Q f K ():=by
 show Cx vs P D _ (fJ _ _) f K _ ()=_;rw[bH];rfl
def c_K(vs ops o r l):QaO vs P D ops (o::r) Q f K l=Cx vs P D ops (o::r) f K (λf K=>Q .normal f K) ():=Qj
def QhE(ol):pk ol []=[]:=Qj
def pkO(o:Option Oper)(l:List Oper):List Oper:=match o with|some o=>o::l|none=>l
def Qjz(ol i is):pk ol (i::is)=pkO (ol[i]?) (pk ol is):=by rw[pk];cases ol[i]?<;>rfl
def QnA(o l):pkO (some o) l=o::l:=Qj
def QcN(id ops o r l):Qbp P D a id ops (o::r) Q f K l=WN P D a id ops (o::r) Q f K ():=Qj
def QkA{α:Type}(x:α)(l:List α):(x::l)[0]?=some x:=Qj
def Qia{α:Type}(x:α)(l:List α)(i:Nat):(x::l)[i+1]?=l[i]?:=Qj
def Qki{α:Type}(l:List α)(i:Nat):(List.toArray l)[i]?=l[i]?:=by simp
def mA{α γ:Type}(x:α)(g:α→Option γ):(some x).bind g=g x:=Qj
def uP(P:Program)(D:Orc)(j:Option (Nat×Nat×Nat))(ops:Array Oper)(l:List Oper)(Q:KT β)(f:Fr)(K:KS)(_:Lk (l,Q,f)):Option β :=
 match j with
 |none=>Hj P D ops l f K (λf K=>Q .normal f K) ()
 |some (s,lo,hi)=>bS (Hj P D ops l f K (λf _=>asB (f s)) ()) (λc=>Q .normal (up (oD lo hi f) s (.b c)) K) ()
def Qhy(id ops ol l):WN P D a id ops ol Q f K l=uP P D (lk a.jn id) ops ol Q f K ():=Qj
def tW(ops ol l):uP P D none ops ol Q f K l=Hj P D ops ol f K (λf K=>Q .normal f K) ():=Qj
def t8(s lo hi ops ol l):uP P D (some (s,lo,hi)) ops ol Q f K l=bS (Hj P D ops ol f K (λf _=>asB (f s)) ()) (λc=>Q .normal (up (oD lo hi f) s (.b c)) K) ():=Qj
def yN(o)(k:Bool→Option β)(l):bS o k l=o.bind k:=Qj
def QjP(b)(k:Bool→Option β)(l):bS (T0 b) k l=k b:=Qj
def yT(b x y):cond b (T0 x) (T0 y)=T0 (cond b x y):=by cases b<;>rfl
def Qon(b):T0 b=some b:=Qj
def QnU(a b:Bool):cond a b false=(a&&b):=by cases a<;>rfl
def Qr3(a b:Bool):cond a true b=(a||b):=by cases a<;>rfl
def QcV(a b:Bool):cond a false b=(!a&&b):=by cases a<;>rfl
def QkH(b):asB (.b b)=T0 b:=Qj
def Qaw(D:Orc)(t:Nat)(z:List Nat)(la:Option LA)(Q:KT β)(f:Fr)(K:KS)(_:Lk Q):Option β :=
 match la with
 |some la=>Kj z la.sl la.rg f K (λf K=>Aj (D.l t f K) (λo=>Q o.1 o.2.1 o.2.2) ()) ()
 |none=>none
def QgB(c l):Jl P D a (.loop c) Q f K l=Qaw D (Ma c) a.ak (lk a.lp (Ma c)) Q f K ():=Qj
def kN(t z la l):Qaw D t z (some la) Q f K l=Kj z la.sl la.rg f K (λf K=>Aj (D.l t f K) (λo=>Q o.1 o.2.1 o.2.2) ()) ():=Qj
def P7(id o d):Ma (.region id o d)=id:=Qj
def nK(x y):Ma (.seq x y)=Ma x:=Qj
def iS(c x y):Ma (.cond c x y)=Ma x:=Qj
def eL(i x):Ma (.block i x)=Ma x:=Qj
def jp(x):Ma (.loop x)=Ma x:=Qj
def sX(k:Fr→KS→Option β)(Q f K):ga k Q .normal f K=k f K:=Qj
def ux(k:Fr→KS→Option β)(Q f K):ga k Q .ret f K=Q .ret f K:=Qj
def se(k:Fr→KS→Option β)(Q id f K):ga k Q (.exit id) f K=Q (.exit id) f K:=Qj
def yA(i f K):pp i Q .normal f K=Q .normal f K:=Qj
def zF(i f K):pp i Q .ret f K=Q .ret f K:=Qj
def yh(i j f K):pp i Q (.exit j) f K=tP (j==i) (Q .normal f K) (Q (.exit j) f K) ():=Qj
def Qjg(ops)(k:Fr→KS→Option β)(l):Hj P D ops [] f K k l=k f K:=Qj
def QfL(ops r)(k:Fr→KS→Option β)(d op t pos after l):Hj P D ops (⟨some d,op,t,pos,after,none⟩::r) f K k l=Eo P D op f K (λv K'=>S7 v (λv=>Hj P D ops r (up f d v) K' k ()) ()) ():=Qj
def xw(ops r)(k:Fr→KS→Option β)(op t pos after l):Hj P D ops (⟨none,op,t,pos,after,none⟩::r) f K k l=Eo P D op f K (λv K'=>Hj P D ops r f K' k ()) ():=Qj
def c_g(ops r)(k:Fr→KS→Option β)(d op t pos after j want l):Hj P D ops (⟨some d,op,t,pos,after,some (j,want)⟩::r) f K k l =
  yi ((ops[j]?).bind (·.dst)) want f (λf=>Eo P D op f K (λv K'=>S7 v (λv=>Hj P D ops r (up f d v) K' k ()) ()) ()) (λf=>S7 (.tup []) (λv=>Hj P D ops r (up f d v) K k ()) ()) ():=Qj
def QrT(ops r)(k:Fr→KS→Option β)(op t pos after j want l):Hj P D ops (⟨none,op,t,pos,after,some (j,want)⟩::r) f K k l =
  yi ((ops[j]?).bind (·.dst)) want f (λf=>Eo P D op f K (λv K'=>Hj P D ops r f K' k ()) ()) (λf=>Hj P D ops r f K k ()) ():=Qj
def zM(v:AV)(d:Nat)(want:Bool)(f:Fr)(yes no:Fr→Option β)(_:Lk (f,yes,no)):Option β :=
 match v with
 |.b x=>cond x (cond want (yes (up f d (.b true))) (no (up f d (.b true)))) (cond want (no (up f d (.b false))) (yes (up f d (.b false))))
 |.tup []=>no f
 |_=>none
def Qqh(d want)(yes no:Fr→Option β)(l):yi (some d) want f yes no l=zM (f d) d want f yes no ():=by
 cases want<;>rfl
def QbL(b d)(yes no:Fr→Option β)(l):zM (.b b) d true f yes no l=cond b (yes (up f d (.b true))) (no (up f d (.b false))):=Qj
def Qbm(b d)(yes no:Fr→Option β)(l):zM (.b b) d false f yes no l=cond b (no (up f d (.b true))) (yes (up f d (.b false))):=Qj
def Qbd(d w)(yes no:Fr→Option β)(l):zM (.tup []) d w f yes no l=no f:=Qj
def Qfy(x l):Eo P D (.move x) f K k l=k (ev f x) K:=Qj
def tc(x l):Eo P D (.assign x) f K k l=k (ev f x) K:=Qj
def Qen(c x y l):Eo P D (.pick c x y) f K k l=Wp (ev f c) (ev f x) (ev f y) (λv=>k v K) ():=Qj
def zw(t l):Eo P D (.alloc t) f K k l=WM K (Uw P t) k ():=Qj
def QiV(t v l):Eo P D (.box t v) f K k l=io K (ev f v) k ():=Qj
def zN(t ps l):Eo P D (.build t (List.toArray ps)) f K k l=Ty K (UX P t) (ps.map λp=>(p.1,ev f p.2)) (λv=>k v K) ():=Qj
def rZ(t len ps l):Eo P D (.buildSlice t len (List.toArray ps)) f K k l=NQ (zB (Is P t)) (Is P t) K (Lr P t) len (ps.map λp=>(p.1,ev f p.2)) k ():=Qj
def QeK(t x l):Eo P D (.load t x) f K k l=Mi (tk P t) (Z9 K (ev f x)) (λv=>k v K) ():=Qj
def yD(t p v l):Eo P D (.store t p v) f K k l=PR (flT P t) (slz P 9 t) K (tk P t) (ev f p) (ev f v) (λK=>k .u K) ():=Qj
def QlM(op t x y s l):Eo P D (.binOp op t x (.tmp y) s) f K k l=AS (L5 P t) op (ev f x) (ev f (.tmp y)) (λv=>k v K) ():=Qj
def Qd1(op t x c n s l):Eo P D (.binOp op t x (.const (.int c n)) s) f K k l=AS (L5 P t) op (ev f x) (ev f (.const (.int c n))) (λv=>k v K) ():=Qj
def QcK(op t x c s l):Eo P D (.binOp op t x (.const (.bool c)) s) f K k l=AS (L5 P t) op (ev f x) (ev f (.const (.bool c))) (λv=>k v K) ():=Qj
def Qcl(op t x c s l):Eo P D (.binOp op t x (.const (.string c)) s) f K k l=AS (L5 P t) op (ev f x) (ev f (.const (.string c))) (λv=>k v K) ():=Qj
def Qd9(op t x s l)(h:Kt P t=true):Eo P D (.binOp op t x (.const (.slice none 0 0)) s) f K k l=S4 op (ev f x) (λv=>k v K) ():=by simp[Eo,FL,h]
def Qlo(g caps l):Eo P D (.makeFunc (.func g) (List.toArray []) (List.toArray caps)) f K k l=k (.clo g (caps.map (ev f))) K:=by simp[Eo]
def QjJ(s t x l)(h:bsl P s=true):Eo P D (.convert s t x) f K k l=gh K (ti P t) (ev f x) (λv=>k v K) ():=by simp[Eo,h]
def Qmy(s t x l)(h:bsl P s=false)(h2:tok P s=true):Eo P D (.convert s t x) f K k l=fj (ti P t) (ev f x) (λv=>k v K) ():=by simp[Eo,h,h2]
def QkF(t x lo hi l):Eo P D (.slice t x lo hi none) f K k l=Oz (ti P t) (ev f x) (lo.map (ev f)) (hi.map (ev f)) (λv=>k v K) ():=Qj
def Ql7(t x i l):Eo P D (.index t x i) f K k l=vC (ti P t) (ev f x) (ev f i) (λv=>k v K) ():=Qj
def Qlp(x l):Eo P D (.nilCheck x) f K k l=rK K (ev f x) (λv=>k v K) ():=Qj
def Qoj(op t x l):Eo P D (.unOp op t x) f K k l=oun op (ev f x) (λv=>k v K) ():=Qj
def QrE(t x fl l):Eo P D (.fieldAddr t x fl) f K k l=nL K (ev f x) (E7 P t fl) (λv=>k v K) ():=Qj
def Qoe(t x i l):Eo P D (.indexAddr t x i) f K k l=em K (ti P t) (ev f x) (ev f i) (λv=>k v K) ():=Qj
def Qk4(t x i l):Eo P D (.field t x i) f K k l=sg (E7 P t i) (ev f x) (λv=>k v K) ():=Qj
def Qnu(x i l):Eo P D (.extract x i) f K k l=qZ (ev f x) i (λv=>k v K) ():=Qj
def QjV(x t ts l):Eo P D (.call ⟨.builtin .len,List.toArray [x],List.toArray (t::ts)⟩) f K k l=gA K (ti P t) (ev f x) (λv=>k v K) ():=Qj
def QiC(x y ts l):Eo P D (.call ⟨.builtin .min,List.toArray [x,y],ts⟩) f K k l=vD (ev f x) (ev f y) (λv=>k v K) ():=Qj
def Qkr(x y ts l):Eo P D (.call ⟨.builtin .max,List.toArray [x,y],ts⟩) f K k l=tZ (ev f x) (ev f y) (λv=>k v K) ():=Qj
def Qgo(g args ts l):Eo P D (.call ⟨.value g,List.toArray args,ts⟩) f K k l=iU (ev f g) (λg caps=>Mc D g K (args.map (ev f)++caps) k ()) ():=Qj
def Qke(g caps)(k:FuncId→List AV→Option β)(l):iU (.clo g caps) k l=k g caps:=Qj
def zT(g vs l):Mc D g K vs k l=Aj (D.p g (aL (D.z g) (G9 K vs))) (λx=>k (X2 K.length x).1 (K++(X2 K.length x).2)) ():=Qj
end
def Qeo{β:Type}(o:Option Bool)(k:Bool→Option β)(_:Lk k):Option β:=match o with|some b=>k b|none=>none
section
variable{β:Type}{k:AV→Option β}{c:IntKind}{a b:Int}{te:Option (List CK)}
def Qd7(K j i o l):rK K (.ptr j i o) k l=mI (kg K j) (.ptr j i o) k ():=Qj
def QcD(e x l):mI (some e) x k l=k x:=Qj
def Qgw(K n r i o l):rK K (.iptr n r i o) k l=k (.iptr n r i o):=Qj
def Qbe(l):AS te .and (.i c a) (.i c b) k l=k (.i c (KC .and c a b)):=by simp[AS,Mz]
def Qhp(l):AS te .or (.i c a) (.i c b) k l=k (.i c (KC .or c a b)):=by simp[AS,Mz]
def Qkk(l):AS te .xor (.i c a) (.i c b) k l=k (.i c (KC .xor c a b)):=by simp[AS,Mz]
def QkP(d l):AS te .shl (.i c a) (.i d b) k l=Xi (decide (0≤b)) (k (.i c (zJ .shl c a b))) ():=by simp[AS,Mz]
def Qj1(d l):AS te .shr (.i c a) (.i d b) k l=Xi (decide (0≤b)) (k (.i c (zJ .shr c a b))) ():=by simp[AS,Mz]
def Qlf(l):AS te .add (.i c a) (.i c b) k l=k (.i c (c.wrap (a+b))):=by simp[AS,Mz]
def Qi9(l):AS te .sub (.i c a) (.i c b) k l=k (.i c (c.wrap (a-b))):=by simp[AS,Mz]
def Qmv(l):AS te .mul (.i c a) (.i c b) k l=k (.i c (c.wrap (a*b))):=by simp[AS,Mz]
def QiO(l):AS te .quo (.i c a) (.i c b) k l=Xi (!decide (b=0)) (k (.i c (c.wrap (a.tdiv b)))) ():=by simp[AS,Mz]
def Qns(l):AS te .rem (.i c a) (.i c b) k l=Xi (!decide (b=0)) (k (.i c (a.tmod b))) ():=by simp[AS,Mz]
def QhV(l):AS te .eql (.i c a) (.i c b) k l=k (.b (decide (a=b))):=by simp[AS,Mz]
def QhJ(l):AS te .neq (.i c a) (.i c b) k l=k (.b (!decide (a=b))):=by simp[AS,Mz]
def QjR(l):AS te .lss (.i c a) (.i c b) k l=k (.b (decide (a<b))):=by simp[AS,Mz]
def Qh5(l):AS te .leq (.i c a) (.i c b) k l=k (.b (decide (a≤b))):=by simp[AS,Mz]
def Qkp(l):AS te .gtr (.i c a) (.i c b) k l=k (.b (decide (b<a))):=by simp[AS,Mz]
def QmU(l):AS te .geq (.i c a) (.i c b) k l=k (.b (decide (b≤a))):=by simp[AS,Mz]
def Qln(ks xs ys l):AS (some ks) .eql (.agg xs) (.agg ys) k l=Qeo (V1 ks xs ys) (λb=>k (.b b)) ():=Qj
def QhR(ks xs ys l):AS (some ks) .neq (.agg xs) (.agg ys) k l=Qeo (V1 ks xs ys) (λb=>k (.b (!b))) ():=Qj
def QnO(x y l):AS (some [.t]) .eql (.b x) (.b y) k l=k (.b (decide (x=y))):=Qj
def Qno(x y l):AS (some [.t]) .neq (.b x) (.b y) k l=k (.b (!decide (x=y))):=Qj
def Qnt(b)(k:Bool→Option β)(l):Qeo (some b) k l=k b:=Qj
def QeO(x y l):AS te .add (.s x) (.s y) k l=Xi (VK x y) (k (.s (QP x y))) ():=by simp[AS,VK,QP]
def Qfs(x y l):AS te .eql (.s x) (.s y) k l=k (.b (decide (x=y))):=by simp[AS]
def Qdh(x y l):AS te .neq (.s x) (.s y) k l=k (.b (!decide (x=y))):=by simp[AS]
def Qb5(o:Option AV)(k:AV→Option β)(_:Lk k):Option β:=match o with|some c=>k c|none=>none
def QnK(cs i l):qZ (.tup cs) i k l=Qb5 (cs[i]?) k ():=Qj
def QfB(c l):Qb5 (some c) k l=k c:=Qj
def Qmz:V1 [] [] []=some true:=Qj
def QiB(ks c x y xs ys):V1 (.i::ks) (.i c x::xs) (.i c y::ys)=(V1 ks xs ys).map (decide (x=y)&&·):=by simp[V1]
def QhL(ks x y xs ys):V1 (.b::ks) (.b x::xs) (.b y::ys)=(V1 ks xs ys).map (decide (x=y)&&·):=Qj
def QlN(ks x y xs ys):V1 (.s::ks) (.s x::xs) (.s y::ys)=(V1 ks xs ys).map (decide (x=y)&&·):=Qj
def Qla(x l):oun .not (.b x) k l=k (.b (!x)):=Qj
def Qkf(l):oun .neg (.i c a) k l=k (.i c (c.wrap (-a))):=Qj
def Qac(x y:AV)(l):Wp (.b true) x y k l=k x:=Qj
def wO(x y:AV)(l):Wp (.b false) x y k l=k y:=Qj
def xX(x y:Bool)(c:Bool)(l):Wp (.b c) (.b x) (.b y) k l=k (.b (cond c x y)):=by cases c<;>rfl
def QjL(l):vD (.i c a) (.i c b) k l=k (.i c (if b<a then b else a)):=Qj
def Qlc(l):tZ (.i c a) (.i c b) k l=k (.i c (if a<b then b else a)):=Qj
def Qkg(e:Option QE)(K:KS):kg (e::K) 0=e:=Qj
def Qj3(e:Option QE)(K:KS)(j:Nat):kg (e::K) (j+1)=kg K j:=Qj
def Qfb{α:Type}(e e':α)(K:List α):(e::K).set 0 e'=e'::K:=Qj
def Qdn{α:Type}(e e':α)(K:List α)(j:Nat):(e::K).set (j+1) e'=e::K.set j e':=Qj
def QmE{α:Type}(e:α)(K L:List α):(e::K)++L=e::(K++L):=Qj
def Qdv{α:Type}(L:List α):[]++L=L:=Qj
def Qgr{α:Type}:([]:List α).length=0:=Qj
def Qcj{α:Type}(e:α)(K:List α):(e::K).length=K.length+1:=Qj
def Qas{α:Type}(K:List α):K.drop 0=K:=Qj
def Qai{α:Type}(e:α)(K:List α)(n:Nat):(e::K).drop (n+1)=K.drop n:=Qj
def y6{α:Type}(K:List α):K.take 0=[]:=by simp
def Qae{α:Type}(e:α)(K:List α)(n:Nat):(e::K).take (n+1)=e::K.take n:=Qj
def oC(r:List (List AV)):Int:=r.length
def u0(K e m n r l):gA K (.sl e m) (.imm n r) k l=k (.i .i64 (oC r)):=Qj
def QnV(n r)(k:AV→Option β)(l):S4 .eql (.imm n r) k l=T8 r.isEmpty (k (.b true)) (k (.b false)):=Qj
def Qe3(n r)(k:AV→Option β)(l):S4 .neq (.imm n r) k l=T8 r.isEmpty (k (.b false)) (k (.b true)):=Qj
def Qcs(x:Option β)(b):T8 b x x=x:=by cases b<;>simp[T8,px]
def Qd6(n:Nat)(R:List (List AV))(b:Nat)(m):T8 R.isEmpty (some (AV.own n [])) (Xi (decide (R.length*b≤140737488355328)) (some (AV.own n R)) m)=Xi (decide (R.length*b≤140737488355328)) (some (AV.own n R)) ():=by
 cases R with
 |nil=>simp[T8,px,Xi]
 |cons r R=>rfl
def wh(K e m l):gA K (.sl e m) .nil k l=k (.i .i64 0):=Qj
def Qb1(e:Option QE)(k:AV→Option β)(_:Lk k):Option β:=match e with|some e=>k (.i .i64 (oC e.rows))|none=>none
def Qdg(c d a l):fj (.int c) (.i d a) k l=k (.i c (c.wrap a)):=Qj
def jd(o:Option (List UInt8))(k:AV→Option β)(_:Lk k):Option β:=match o with|some s=>k (.s s)|none=>none
def qK(e:Option QE)(k:AV→Option β)(_:Lk k):Option β:=match e with|some (.lst 1 rows)=>jd (FZ rows) k ()|_=>none
def QlW(K j l):gh K .str (.sl j) k l=qK (kg K j) k ():=Qj
def Qea(r l):qK (some (.lst 1 r)) k l=jd (FZ r) k ():=Qj
def Qcn(s l):jd (some s) k l=k (.s s):=Qj
def Qd2:FZ []=some []:=Qj
def zP(n r):FZ ([.i .u8 n]::r)=(FZ r).map (UInt8.ofNat n.toNat::·):=by
 show(match cA [.i .u8 n],FZ r with|some x,some xs=>some (x::xs)|_,_=>none)=_
 simp only[cA];cases FZ r<;>rfl
def xo(K e m j l):gA K (.sl e m) (.sl j) k l=Qb1 (kg K j) k ():=Qj
def ug(n r l):Qb1 (some (.lst n r)) k l=k (.i .i64 (oC r)):=Qj
def tJ(K x l):gA K .str (.s x) k l=k (.i .i64 (ln x)):=Qj
def Qej(K n r i p o t l):nL K (.iptr n r i p) (some (o,t)) k l=k (.iptr n r i (p+o)):=Qj
def QbA(e:Option QE)(v:AV)(k:AV→Option β)(_:Lk k):Option β:=match e with|some _=>k v|none=>none
def Qmp(K j i p o t l):nL K (.ptr j i p) (some (o,t)) k l=QbA (kg K j) (.ptr j i (p+o)) k ():=Qj
def Qff(e v l):QbA (some e) v k l=k v:=Qj
def QeW(K e m r kd i l):em K (.sl e m) (.imm m r) (.i kd i) k l=Xi (Q0 r i) (k (.iptr m r i.toNat 0)) ():=by simp[em]
def uT(e:Option QE)(m:Nat)(j:Nat)(i:Int)(k:AV→Option β)(_:Lk k):Option β:=match e with|some e=>if m=e.n then Xi (Q0 e.rows i) (k (.ptr j i.toNat 0)) ()else none|none=>none
def Qnd(K e m j kd i l):em K (.sl e m) (.sl j) (.i kd i) k l=uT (kg K j) m j i k ():=Qj
def Qc5(m r j i l):uT (some (.lst m r)) m j i k l=Xi (Q0 r i) (k (.ptr j i.toNat 0)) ():=by simp[uT,QE.n,QE.rows]
def QaD(e:Option QE)(n:Nat)(i:Int)(p:AV)(k:AV→Option β)(_:Lk k):Option β:=match e with|some _=>Xi (dJ n i) (k p) ()|none=>none
def QgN(K e n m j r o kd i l):em K (.arr n e m) (.ptr j r o) (.i kd i) k l=QaD (kg K j) n i (.ptr j r (o+i.toNat*m)) k ():=Qj
def Qfp(e n i p l):QaD (some e) n i p k l=Xi (dJ n i) (k p) ():=Qj
def Qc0(e m r h c l):Oz (.sl e m) (.imm m r) none (some (.i c h)) k l=Xi (Cy 0 h (oC r)) (k (.imm m (cut r 0 h))) ():=by simp[Oz,bd,oC]
def Qgj(e m r h c l):Oz (.sl e m) (.imm m r) (some (.i c h)) none k l=Xi (Cy h (oC r) (oC r)) (k (.imm m (cut r h (oC r)))) ():=by simp[Oz,bd,oC]
def Qcc(e m r h h' c c' l):Oz (.sl e m) (.imm m r) (some (.i c h)) (some (.i c' h')) k l=Xi (Cy h h' (oC r)) (k (.imm m (cut r h h'))) ():=by simp[Oz,bd,oC]
def Qfa(r h c l):Oz .str (.s r) none (some (.i c h)) k l=Xi (Cy 0 h (ln r)) (k (.s (cut r 0 h))) ():=by simp[Oz,bd,ln]
def QeQ(r h c l):Oz .str (.s r) (some (.i c h)) none k l=Xi (Cy h (ln r) (ln r)) (k (.s (cut r h (ln r)))) ():=by simp[Oz,bd,ln]
def QgI(r h h' c c' l):Oz .str (.s r) (some (.i c h)) (some (.i c' h')) k l=Xi (Cy h h' (ln r)) (k (.s (cut r h h'))) ():=by simp[Oz,bd,ln]
def Qnx(r i c l):vC .str (.s r) (.i c i) k l=Xi (Q0 r i) (k (.i .u8 ((gt r i).toNat:Int))) ():=Qj
class Strs (cs:List AV) (xs:outParam (List (List UInt8))):Prop where
 eq:cs=xs.map AV.s
instance:Strs [] []:=⟨rfl⟩
instance(x cs xs)[h:Strs cs xs]:Strs (.s x::cs) (x::xs):=⟨by rw[h.eq];rfl⟩
def QfJ{cs:List AV}{xs:List (List UInt8)}[h:Strs cs xs](i:Int)(hi:dJ cs.length i=true)(l):Mi .one (cs.drop (0+i.toNat*1)) k l=k (.s (gt xs i)):=by
 have hcs:=h.eq;subst hcs;simp[dJ]at hi;have h2:i.toNat<xs.length:=by omega
 rw[Nat.zero_add,Nat.mul_one,List.drop_eq_getElem_cons (by simpa using h2)]
 simp[Mi,gt,List.getD_eq_getElem?_getD,h2]
def Qru(K n r i o):Z9 K (.iptr n r i o)=((VJ r i).drop o).map ld:=Qj
def jS(e:Option QE)(i o:Nat):List AV:=match e with|some (.box cs)=>if i=0 then cs.drop o else[]|some (.lst _ rows)=>((VJ rows i).drop o).map ld|none=>[]
def m_c(K j i o):Z9 K (.ptr j i o)=jS (kg K j) i o:=Qj
def QfV(cs o):jS (some (.box cs)) 0 o=cs.drop o:=Qj
def Qe5(n r i o):jS (some (.lst n r)) i o=((VJ r i).drop o).map ld:=Qj
def QfX{α γ:Type}(g:α→γ):[].map g=[]:=Qj
def QeD{α γ:Type}(g:α→γ)(x l):(x::l).map g=g x::l.map g:=Qj
def Qnv(x):ld (.b x)=.b x:=Qj
def Qlu(c x):ld (.i c x)=.i c x:=Qj
def Qmb(x):ld (.s x)=.s x:=Qj
def zQ(n x):ld (.imm n x)=.imm n x:=Qj
def wR:ld .nil=.nil:=Qj
def xq(n x):ld (.own n x)=.u:=Qj
def Qnj(o t cs l):sg (some (o,t)) (.agg cs) k l=Mi t (cs.drop o) k ():=Qj
def zR(c cs l):Mi .one (c::cs) k l=k c:=Qj
def rh(b:Bool)(v:AV)(k:AV→Option β)(_:Lk k):Option β:=cond b (k v) none
def wY(m cs l):Mi (.agg m) cs k l=rh (Nat.blt 0 m&&Nat.ble m cs.length) (.agg (cs.take m)) k () :=
 GD (by simp only[Bool.and_eq_true,UJ,RI]) _ _
def zq(v l):rh true v k l=k v:=Qj
def xg(K cs)(k:AV→KS→Option β)(l):WM K (some cs) k l=JZ (K++[some (.box cs)]) (λK'=>k (.ptr K.length 0 0) K') ():=Qj
def gQ(b:Bool)(x:Option β)(_:Lk x):Option β:=cond b x none
def QqP(x:Option β)(l):gQ true x l=x:=Qj
def QcJ(K cs)(k:AV→KS→Option β)(l):io K (.agg cs) k l=gQ (cs.all (BI K)) (JZ (K++[some (.box cs)]) (λK'=>k (.ptr K.length 0 0) K') ()) ():=by
 simp only[io,gQ];cases cs.all (BI K)<;>rfl
def QeX(K c x)(k:AV→KS→Option β)(l):io K (.i c x) k l=JZ (K++[some (.box [.i c x])]) (λK'=>k (.ptr K.length 0 0) K') ():=Qj
def Qcd{α:Type}(p:α→Bool):[].all p=true:=Qj
def QcL{α:Type}(p:α→Bool)(x l):(x::l).all p=(p x&&l.all p):=Qj
def Qih(K x):BI K (.b x)=true:=Qj
def Qnh(K c x):BI K (.i c x)=true:=Qj
def Qm8(K x):BI K (.s x)=true:=Qj
def Qhl(K):BI K .nil=true:=Qj
def Qie(K):BI K .z=true:=Qj
def yG(K n r):BI K (.imm n r)=true:=Qj
def wM(K n r):BI K (.clo n r)=true:=Qj
def Qd5(K j):BI K (.sl j)=(kg K j).isSome:=Qj
def zk(K j i o):BI K (.ptr j i o)=(kg K j).isSome:=Qj
def QpV{α:Type}(x:α):(some x).isSome=true:=Qj
def QnH(x):AV.closed (.b x)=true:=Qj
def QnJ(c x):AV.closed (.i c x)=true:=Qj
def Qm4(x):AV.closed (.s x)=true:=Qj
def QkI:AV.closed .nil=true:=Qj
def zg(n r):AV.closed (.imm n r)=true:=Qj
def Qdz(x:Bool):(false&&x)=false:=Qj
def Qh0(x:Bool):(true&&x)=x:=Qj
def NR(fl:Bool)(ns:List Nat)(K:KS)(e:Option QE)(t:TK)(j i o:Nat)(v:AV)(k:KS→Option β)(_:Lk k):Option β :=
 match e with
  |some (.box cs)=>if i=0 then Oc cs o t v (BI K) (λcs=>JZ (K.set j (some (.box cs))) k ()) ()else none
  |some (.lst n rows)=>if(C2 v).all pC=true then(if i<rows.length then Oc (VJ rows i) o t v AV.closed (λr=>JZ (K.set j (some (.lst n (rows.set i r)))) k ()) ()else none)else if fl=false then PY ns K t j i o n rows v k ()else none
  |none=>none
def xh(fl ns K t j i o v)(k:KS→Option β)(l):PR fl ns K t (.ptr j i o) v k l=NR fl ns K (kg K j) t j i o v k ():=by
 show(match kg K j with|some (.lst n rows)=>_|_=>_)=_
 cases h:kg K j with
 |none=>simp[NR,S8,h]
 |some e=>cases e<;>simp[NR,S8,h]
def pT(fl ns K cs t j o v)(k:KS→Option β)(l):NR fl ns K (some (.box cs)) t j 0 o v k l=Oc cs o t v (BI K) (λcs=>JZ (K.set j (some (.box cs))) k ()) ():=Qj
def UN(b fl:Bool)(ns:List Nat)(K:KS)(n:Nat)(r:List (List AV))(t:TK)(j i o:Nat)(v:AV)(k:KS→Option β)(_:Lk k):Option β :=
 cond b (if i<r.length then Oc (VJ r i) o t v AV.closed (λr'=>JZ (K.set j (some (.lst n (r.set i r')))) k ()) ()else none) (if fl=false then PY ns K t j i o n r v k ()else none)
def sL(fl ns K n r t j i o v)(k:KS→Option β)(l):NR fl ns K (some (.lst n r)) t j i o v k l=UN ((C2 v).all pC) fl ns K n r t j i o v k ():=by
 simp only[NR,UN];cases (C2 v).all pC<;>rfl
def QhW(ds):C2 (.agg ds)=ds:=Qj
def Qjf(c x):C2 (.i c x)=[.i c x]:=Qj
def QkC(x):C2 (.b x)=[.b x]:=Qj
def Qjc(x):C2 (.s x)=[.s x]:=Qj
def QiG:C2 .nil=[.nil]:=Qj
def QmG(n r):C2 (.imm n r)=[.imm n r]:=Qj
def Qmw(j):C2 (.sl j)=[.sl j]:=Qj
def Qf1(j):pC (.sl j)=false:=Qj
def Qmm(x):pC (.b x)=true:=Qj
def QmW(c x):pC (.i c x)=true:=Qj
def Qlg(x):pC (.s x)=true:=Qj
def QlA:pC .nil=false:=Qj
def Qk2(n r):pC (.imm n r)=true:=Qj
def Qov(cs):nz [] cs=cs:=by cases cs<;>rfl
def Qo8(ns):nz ns []=[]:=by cases ns<;>rfl
def Qs7(n ns c cs):nz (n::ns) (c::cs)=pB n c::nz ns cs:=Qj
def QqK(n x):pB n (.b x)=.b x:=Qj
def Qo6(n c x):pB n (.i c x)=.i c x:=Qj
def QpC(n x):pB n (.s x)=.s x:=Qj
def Qr5(n):pB n .nil=.own n []:=Qj
def QoD(n m r):pB n (.own m r)=.own m r:=Qj
def Qqs(n m r):pB n (.imm m r)=.imm m r:=Qj
def Qsh(k v):dt (.z k) v=pB k v:=Qj
def QrH(v):dt .n v=v:=Qj
def QrK(ns cs):dt (.a ns) (.agg cs)=.agg (nz ns cs):=Qj
def Qqu(v):aD [] v=v:=Qj
def QsC(s v):aD [s] v=dt s v:=Qj
def QrI(s s' ss vs):aD (s::s'::ss) (.tup vs)=.tup (gE (s::s'::ss) vs):=Qj
def QqD(s ss v vs):gE (s::ss) (v::vs)=dt s v::gE ss vs:=Qj
def Qls(vs):gE [] vs=vs:=Qj
def QmD(m ds l):dh (.agg m) (.agg ds) l=(m==l):=Qj
def Qkc(j l):dh .one (.sl j) l=(l==1):=Qj
def mG(ns:List Nat)(K:KS)(a:Option (KS×List AV))(t:TK)(j o n i:Nat)(r:List (List AV))(v:AV)(k:KS→Option β)(_:Lk k):Option β :=
 match a with
  |some (K1,ds)=>if(kg K1 j).isSome=true∧dh t v ds.length=true∧o+ds.length≤(VJ r i).length then JZ (K1.set j (some (.lst n (r.set i (putCells (VJ r i) o (nz ns ds)))))) k ()else none
  |none=>none
def QpP(ns K K1 ds t j o n i r v)(k:KS→Option β)(l):mG ns K (some (K1,ds)) t j o n i r v k l=gQ ((kg K1 j).isSome&&(dh t v ds.length&&Nat.ble (o+ds.length) (VJ r i).length)) (JZ (K1.set j (some (.lst n (r.set i (putCells (VJ r i) o (nz ns ds)))))) k ()) () :=
 GD (by simp only[Bool.and_eq_true,RI]) _ _
def aE(r:List (List AV))(i:Nat):Bool:=Nat.blt i r.length
def w_n(D:Orc)(f:Fr)(K:KS)(j i o q r v m rs)(k:AV→KS→Option β)(l):onr D f K j i o q r (v,[some (.lst m rs)]) k l=Xi (v.flat&&aE r i) (JZ (K.set j (some (.lst q (r.set i (putCells (VJ r i) o [.own m rs]))))++[none]) (λK'=>k v K') ()) ():=Qj
def Qgt(x r):aE (x::r) 0=true:=by simp[aE,Nat.blt_eq]
def Qct(x r i):aE (x::r) (i+1)=aE r i:=by
 unfold aE;rw[Bool.eq_iff_iff,Nat.blt_eq,Nat.blt_eq];simp
def Qch(fl ns K n r t j i o v)(k:KS→Option β)(l):UN true fl ns K n r t j i o v k l=gQ (aE r i) (Oc (VJ r i) o t v AV.closed (λr'=>JZ (K.set j (some (.lst n (r.set i r')))) k ()) ()) () :=
 GD UJ _ _
def Qec(ns K n r t j i o v)(k:KS→Option β)(l):UN false false ns K n r t j i o v k l=gQ (aE r i) (mG ns K (XJ K (C2 v)) t j o n i r v k ()) () :=
 GD UJ _ _
def QdW(cs o m ds ok)(k:List AV→Option β)(l):Oc cs o (.agg m) (.agg ds) ok k l=gQ ((m==ds.length)&&(Nat.ble (o+m) cs.length&&ds.all ok)) (k (putCells cs o ds)) () :=
 GD (by simp only[Bool.and_eq_true,beq_iff_eq,RI]) _ _
def oo(cs:List AV)(o:Nat)(v:AV)(ok:AV→Bool)(k:List AV→Option β):(if o<cs.length∧ok v=true then k (cs.set o v)else none)=gQ (Nat.blt o cs.length&&ok v) (k (cs.set o v)) () :=
 GD (by simp only[Bool.and_eq_true,UJ]) _ _
def Qem(cs o x ok)(k:List AV→Option β)(l):Oc cs o .one (.b x) ok k l=gQ (Nat.blt o cs.length&&ok (.b x)) (k (cs.set o (.b x))) ():=oo ..
def Qe1(cs o c x ok)(k:List AV→Option β)(l):Oc cs o .one (.i c x) ok k l=gQ (Nat.blt o cs.length&&ok (.i c x)) (k (cs.set o (.i c x))) ():=oo ..
def QfD(cs o x ok)(k:List AV→Option β)(l):Oc cs o .one (.s x) ok k l=gQ (Nat.blt o cs.length&&ok (.s x)) (k (cs.set o (.s x))) ():=oo ..
def Qgv(cs o ok)(k:List AV→Option β)(l):Oc cs o .one .nil ok k l=gQ (Nat.blt o cs.length&&ok .nil) (k (cs.set o .nil)) ():=oo ..
def yv(cs o j ok)(k:List AV→Option β)(l):Oc cs o .one (.sl j) ok k l=gQ (Nat.blt o cs.length&&ok (.sl j)) (k (cs.set o (.sl j))) ():=oo ..
def pF(cs o n r ok)(k:List AV→Option β)(l):Oc cs o .one (.imm n r) ok k l=gQ (Nat.blt o cs.length&&ok (.imm n r)) (k (cs.set o (.imm n r))) ():=oo ..
def QoB(cs o ds):putCells cs o ds=cs.take o++ds++cs.drop (o+ds.length):=Qj
def Qda(P z nr S rs f K):T2 P z nr S rs .normal f K=Wa P z S rs nr f K ():=Qj
def Qez(P z nr S rs f K):T2 P z nr S rs .ret f K=Wa P z S rs nr f K ():=Qj
def Qk7(P z S rs f K l):Wa P z S rs none f K l=Aj (Gt f K P rs) (λvs=>Xi (TN (eh z K).length (LF vs)&&(PA (eh z K)&&Nat.ble z.length (eh z K).length)) (some (LF vs,eh z K)) ()) ():=Qj
def QkZ(P z S rs r f K l):Wa P z S rs (some r) f K l=Aj (Gt f K P rs) (λvs=>Kj z [S] r (up f S (LF vs)) K (λf K=>S7 (f S) (λv=>Xi (TN K.length v&&(PA K&&Nat.ble z.length K.length)) (some (v,K)) ()) ()) ()) ():=Qj
def Qka{α:Type}:(none:Option α).isSome=false:=Qj
def QiD{α:Type}(x:α):(some x).isSome=true:=Qj
def Qmj(K):eh [] K=[]:=by cases K<;>rfl
def QmC(x z e K):eh (x::z) (e::K)=e::eh z K:=Qj
def Qap(P sh rs f K):PF P sh rs .normal f K=Aj (Gt f K P rs) (λvs=>(EL (fgt sh rs) K (LF vs)).map λp=>aD sh p.2) ():=Qj
def xd(P sh rs f K):PF P sh rs .ret f K=Aj (Gt f K P rs) (λvs=>(EL (fgt sh rs) K (LF vs)).map λp=>aD sh p.2) ():=Qj
def QjX(f K P):Gt f K P []=some []:=Qj
def QmI(f K P t rs):Gt f K P (.tmp t::rs)=(Gt f K P rs).map (f t::·):=Qj
def Qfn(f K P x t rs):Gt f K P (.cell x t::rs)=Aj (Mi (tk P t) (Z9 K (f x)) some ()) (λv=>(Gt f K P rs).map (v::·)) ():=Qj
def We{α γ:Type}(g:α→γ)(x:α):(some x).map g=some (g x):=Qj
def kb{α γ:Type}(g:α→γ):(none:Option α).map g=none:=Qj
def Qhx(v):LF [v]=v:=Qj
def Qik(v w vs):LF (v::w::vs)=.tup (v::w::vs):=Qj
def Qco:LF []=.tup []:=Qj
def x_b(q)(K x):EL q K (.b x)=some (K,.b x):=Qj
def x_i(q)(K c x):EL q K (.i c x)=some (K,.i c x):=Qj
def x_s(q)(K x):EL q K (.s x)=some (K,.s x):=Qj
def Qkb(q)(K):EL q K .nil=some (K,.nil):=Qj
def QhD(q)(K n r):EL q K (.imm n r)=cond q (some (K,.z)) none:=by simp[EL]
def x_u(q)(K):EL q K .u=some (K,.u):=by simp[EL]
def Qko(q)(K cs):EL q K (.agg cs)=(Kc q K cs).map λp=>(p.1,.agg p.2):=by simp[EL]
def Qjx(q)(K cs):EL q K (.tup cs)=(Kc q K cs).map λp=>(p.1,.tup p.2):=by simp[EL]
def QbD(K:KS)(e:Option QE)(j:Nat):Option (KS×AV):=match e with|some (.lst n rows)=>if Va rows=true then some (K.set j none,.own n rows)else none|_=>none
def Qrr(q)(K j):EL q K (.sl j)=QbD K (kg K j) j:=by rw[EL];rfl
def Qqq:Va []=true:=Qj
def Qp9(r rs):Va (r::rs)=cond (Jf r) (Va rs) false:=by rw[show Va (r::rs)=(Jf r&&Va rs)by simp[Va]];cases Jf r<;>rfl
def QoR:Jf []=true:=Qj
def QsU(c cs):Jf (c::cs)=cond (AV.clean c) (Jf cs) false:=by rw[show Jf (c::cs)=(AV.clean c&&Jf cs)by simp[Jf]];cases AV.clean c<;>rfl
def k_i(k n):AV.clean (.i k n)=true:=Qj
def k_b(x):AV.clean (.b x)=true:=Qj
def k_s(x):AV.clean (.s x)=true:=Qj
def Qjv(K n r j):QbD K (some (.lst n r)) j=cond (Va r) (some (K.set j none,.own n r)) none:=GD Iff.rfl _ _
def QeA(q)(K):Kc q K []=some (K,[]):=by simp[Kc]
def kc(q:Bool)(e:Option (KS×AV))(cs:List AV):Option (KS×List AV):=match e with|some (K1,c')=>(Kc q K1 cs).map λp=>(p.1,c'::p.2)|none=>none
def Qah(q)(K c cs):Kc q K (c::cs)=kc q (EL q K c) cs:=by rw[Kc];rfl
def QrV(q)(K c cs):kc q (some (K,c)) cs=(Kc q K cs).map λp=>(p.1,c::p.2):=Qj
def QpZ(q)(cs):kc q none cs=none:=Qj
def Qqp(r):fgt [] r=false:=Qj
def QqZ(x s):fgt (x::s) []=true:=Qj
def Qpf(x s y r):fgt (x::s) (y::r)=fgt s r:=Qj
def Qdu(z sl rg f K)(k:Fr→KS→Option β)(l):Kj z sl rg f K k l=XN rg f K [] (λf K π=>Xi (pl π) (onz z π (JZ (wH K π) (λK'=>k (zd f π sl) K') ()) ()) ()) ():=Qj
def QhF(π)(q:Option β)(l):onz [] π q l=q:=Qj
def Qmc(x z π)(q:Option β)(l):onz (x::z) π q l=Xi (xy (x::z) π) q ():=Qj
def Qo7(π):xy [] π=true:=Qj
def Qpg(x z y π):xy (x::z) (y::π)=((x==y)&&xy z π):=by rw[←SP];rfl
def Qq6(x:Nat):([]:List Nat).contains x=false:=Qj
def QpX(x y:Nat)(l:List Nat):(y::l).contains x=((x==y)||l.contains x):=List.contains_cons
def Qsa(b:Bool):(false||b)=b:=by cases b<;>rfl
def Qpj(b:Bool):(true||b)=true:=by cases b<;>rfl
def Qbi(f K π)(k:Fr→KS→List Nat→Option β)(l):XN [] f K π k l=k f K π:=Qj
def n_r(i r f K π)(k:Fr→KS→List Nat→Option β)(l):XN (.r i::r) f K π k l=XN r f K (π++[i]) k ():=Qj
def WL(v:AV)(t n:Nat)(r:List Pt)(f:Fr)(K:KS)(π:List Nat)(k:Fr→KS→List Nat→Option β)(_:Lk (f,k)):Option β:=match v with
  |.sl j=>XN r f K (π++[j]) k ()
  |.ptr j _ _=>XN r f K (π++[j]) k ()
  |.nil=>XN r (up f t (.sl K.length)) (K++[some (.lst n [])]) (π++[K.length]) k ()
  |_=>none
def n_s(t n r f K π)(k:Fr→KS→List Nat→Option β)(l):XN (.s t n::r) f K π k l=WL (f t) t n r f K π k ():=by simp only[XN,WL];rfl
def Qm6(j t n r f K π)(k:Fr→KS→List Nat→Option β)(l):WL (.sl j) t n r f K π k l=XN r f K (π++[j]) k ():=Qj
def Qc6(j i o t n r f K π)(k:Fr→KS→List Nat→Option β)(l):WL (.ptr j i o) t n r f K π k l=XN r f K (π++[j]) k ():=Qj
def QdQ(t n r f K π)(k:Fr→KS→List Nat→Option β)(l):WL .nil t n r f K π k l=XN r (up f t (.sl K.length)) (K++[some (.lst n [])]) (π++[K.length]) k ():=Qj
def Tn(c:Option AV)(cs:List AV)(j o n:Nat)(r:List Pt)(f:Fr)(K:KS)(π:List Nat)(k:Fr→KS→List Nat→Option β)(_:Lk (f,k)):Option β:=match c with
  |some (.sl i)=>XN r f K (π++[i]) k ()
  |some (.ptr i _ _)=>XN r f K (π++[i]) k ()
  |some .nil=>XN r f ((K++[some (QE.lst n [])]).set j (some (QE.box (cs.set o (.sl K.length))))) (π++[K.length]) k ()
  |_=>none
def d8(e:Option QE)(j o n:Nat)(r:List Pt)(f:Fr)(K:KS)(π:List Nat)(k:Fr→KS→List Nat→Option β)(_:Lk (f,k)):Option β:=match e with
  |some (.box cs)=>Tn (cs[o]?) cs j o n r f K π k ()
  |_=>none
def il(q:Option Nat)(o n:Nat)(r:List Pt)(f:Fr)(K:KS)(π:List Nat)(k:Fr→KS→List Nat→Option β)(_:Lk (f,k)):Option β:=match q with
  |some j=>d8 (kg K j) j o n r f K π k ()
  |none=>none
def n_c(q o n r f K π)(k:Fr→KS→List Nat→Option β)(l):XN (.c q o n::r) f K π k l=il (π[q]?) o n r f K π k ():=by
 simp only[XN,il,d8,Tn];cases π[q]? with
 |none=>rfl
 |some j =>
  simp only;cases kg K j with
  |none=>rfl
  |some e =>
   cases e with
   |box cs =>
    simp only;cases cs[o]? with
    |none=>rfl
    |some c=>cases c<;>rfl
   |lst _ _=>rfl
def Qg7(j o n r f K π)(k:Fr→KS→List Nat→Option β)(l):il (some j) o n r f K π k l=d8 (kg K j) j o n r f K π k ():=Qj
def Qlb(cs j o n r f K π)(k:Fr→KS→List Nat→Option β)(l):d8 (some (.box cs)) j o n r f K π k l=Tn (cs[o]?) cs j o n r f K π k ():=Qj
def Qhe(i cs j o n r f K π)(k:Fr→KS→List Nat→Option β)(l):Tn (some (.sl i)) cs j o n r f K π k l=XN r f K (π++[i]) k ():=Qj
def Ql8(i a b cs j o n r f K π)(k:Fr→KS→List Nat→Option β)(l):Tn (some (.ptr i a b)) cs j o n r f K π k l=XN r f K (π++[i]) k ():=Qj
def Qj5(cs j o n r f K π)(k:Fr→KS→List Nat→Option β)(l):Tn (some .nil) cs j o n r f K π k l=XN r f ((K++[some (QE.lst n [])]).set j (some (QE.box (cs.set o (.sl K.length))))) (π++[K.length]) k ():=Qj
def WP(c:Option AV)(cs:List AV)(t o n:Nat)(r:List Pt)(f:Fr)(K:KS)(π:List Nat)(k:Fr→KS→List Nat→Option β)(_:Lk (f,k)):Option β:=match c with
  |some (.sl j)=>XN r f K (π++[j]) k ()
  |some .nil=>XN r (up f t (.agg (cs.set o (.sl K.length)))) (K++[some (.lst n [])]) (π++[K.length]) k ()
  |_=>none
def jU(v:AV)(t o n:Nat)(r:List Pt)(f:Fr)(K:KS)(π:List Nat)(k:Fr→KS→List Nat→Option β)(_:Lk (f,k)):Option β:=match v with
  |.agg cs=>WP (cs[o]?) cs t o n r f K π k ()
  |_=>none
def n_g(t o n r f K π)(k:Fr→KS→List Nat→Option β)(l):XN (.g t o n::r) f K π k l=jU (f t) t o n r f K π k ():=by
 simp only[XN,jU,WP];cases f t with
 |agg cs =>
  simp only;cases cs[o]? with
  |none=>rfl
  |some c=>cases c<;>rfl
 |_=>rfl
def Qg9(cs t o n r f K π)(k:Fr→KS→List Nat→Option β)(l):jU (.agg cs) t o n r f K π k l=WP (cs[o]?) cs t o n r f K π k ():=Qj
def Qkv(j cs t o n r f K π)(k:Fr→KS→List Nat→Option β)(l):WP (some (.sl j)) cs t o n r f K π k l=XN r f K (π++[j]) k ():=Qj
def Qhj(cs t o n r f K π)(k:Fr→KS→List Nat→Option β)(l):WP (some .nil) cs t o n r f K π k l=XN r (up f t (.agg (cs.set o (.sl K.length)))) (K++[some (.lst n [])]) (π++[K.length]) k ():=Qj
def Qjp:pl []=true:=Qj
def QhQ(x l):pl (x::l)=(!l.contains x&&pl l):=Qj
def krn(K:KS)(π:List Nat)(l:List Nat):KS:=l.map λj=>(kg K j).map (Pl π)
def QqJ(K π):wH K π=krn K π π:=Qj
def Qfr(K π):krn K π []=[]:=Qj
def Qe4(K π j l):krn K π (j::l)=(kg K j).map (Pl π)::krn K π l:=Qj
def Ql9(π cs):Pl π (.box cs)=.box (IY π cs):=Qj
def QhS(π n r):Pl π (.lst n r)=.lst n r:=Qj
def QmP(π):IY π []=[]:=by simp[IY]
def Qi8(π c cs):IY π (c::cs)=ren π c::IY π cs:=by simp[IY]
def slO:Option Nat→AV|some i=>.sl i|none=>.u
def Qf4(i o:Nat):Option Nat→AV|some j=>.ptr j i o|none=>.u
def QhA(i):slO (some i)=.sl i:=Qj
def QnX:slO none=.u:=Qj
def Qe0(i o j):Qf4 i o (some j)=.ptr j i o:=Qj
def Qcr(i o):Qf4 i o none=.u:=Qj
def QfF(π j):ren π (.sl j)=slO (Uh π j):=by simp only[ren];rfl
def xE(π j i o):ren π (.ptr j i o)=Qf4 i o (Uh π j):=by simp only[ren];rfl
def xO(π cs):ren π (.agg cs)=.agg (IY π cs):=by simp[ren]
def Qaf(π cs):ren π (.tup cs)=.tup (IY π cs):=by simp[ren]
def yU(π g cs):ren π (.clo g cs)=.clo g (IY π cs):=by simp[ren]
def QcB(π x):ren π (.b x)=.b x:=by simp[ren]
def QkK(π c x):ren π (.i c x)=.i c x:=by simp[ren]
def QhM(π x):ren π (.s x)=.s x:=by simp[ren]
def Qmn(π):ren π .nil=.nil:=by simp[ren]
def QmR(π):ren π .u=.u:=by simp[ren]
def wP(π n r):ren π (.imm n r)=.imm n r:=by simp[ren]
def vY(π n r i o):ren π (.iptr n r i o)=.iptr n r i o:=by simp[ren]
def Qf0(j):Uh [] j=none:=Qj
def Qek(x l j):Uh (x::l) j=tP (x==j) (some 0) ((Uh l j).map (·+1)) ():=by
 rw[Uh];exact GD (by simp) _ _
def QdM(f π l):zd f π l=Vm (frl f π l):=Qj
def QdU(f π):frl f π []=[]:=Qj
def Qgb(f π t l):frl f π (t::l)=(t,ren π (f t))::frl f π l:=Qj
def QpR(z la rt f K):Nf z la rt .normal f K=Kj z la.sl la.rg f K (λf K=>some (.inl (f,K))) ():=Qj
def QpD(z la rt f K):Nf z la rt .ret f K=Kj z rt.sl rt.rg f K (λf K=>some (.inr (.ret,f,K))) ():=Qj
def QrG(z la rt i f K):Nf z la rt (.exit i) f K=Kj z la.xs la.xr f K (λf K=>some (.inr (.exit i,f,K))) ():=Qj
def Qnr(t x y):VW t (.seq x y)=(VW t x).or (VW t y):=Qj
def QcH(t c x y):VW t (.cond c x y)=(VW t x).or (VW t y):=Qj
def y9(t i x):VW t (.block i x)=VW t x:=Qj
def QfT(t x):VW t (.loop x)=tP (Ma x==t) (some x) (VW t x) ():=Qj
def pZ(t i o d):VW t (.region i o d)=none:=Qj
def Qev(t):VW t .skip=none:=Qj
def QlG(t):VW t .ret=none:=Qj
def Qcb(t i):VW t (.exit i)=none:=Qj
def Qbb(x:Option Code):(none:Option Code).or x=x:=by cases x<;>rfl
def Qay(x:Code)(y:Option Code):(some x).or y=some x:=Qj
def l_0(K):G9 K []=[]:=by simp[G9]
def l_s(K c cs):G9 K (c::cs)=DE K c::G9 K cs:=by simp[G9]
def qn(e:Option QE):AV:=match e with|some (.lst n rows)=>.imm n (Vc rows)|_=>.u
def Qo9(K j):DE K (.sl j)=qn (kg K j):=by simp only[DE];rfl
def Qg4(n r):qn (some (.lst n r))=.imm n (Vc r):=Qj
def Qnw(K j):bq K j=qn (kg K j):=Qj
def i8(K:KS)(e:Option QE)(i o:Nat):AV:=match e with
 |some (.lst n rows)=>.iptr n (Vc rows) i o
 |some (.box cs)=>.iptr cs.length [cs.map (Mk K)] i o
 |none=>.u
def QmJ(K j i o):DE K (.ptr j i o)=i8 K (kg K j) i o:=by simp only[DE];rfl
def QeZ(K cs i o):i8 K (some (.box cs)) i o=.iptr cs.length [cs.map (Mk K)] i o:=Qj
def QgQ(K n r i o):i8 K (some (.lst n r)) i o=.iptr n (Vc r) i o:=Qj
def Qcw(K n r i o):DE K (.iptr n r i o)=.iptr n r i o:=by simp[DE]
def QlP(K j):Mk K (.sl j)=bq K j:=Qj
def Qo1(K x):Mk K (.b x)=.b x:=Qj
def Qqm(K c x):Mk K (.i c x)=.i c x:=Qj
def Qs6(K x):Mk K (.s x)=.s x:=Qj
def QoQ(K):Mk K .nil=.nil:=Qj
def Qq1(K n r):Mk K (.imm n r)=.imm n r:=Qj
def Qe7(r:List AV)(rs):VJ (r::rs) 0=r:=Qj
def Ql2(K cs):DE K (.agg cs)=.agg (G9 K cs):=by simp[DE]
def QiW(K cs):DE K (.tup cs)=.tup (G9 K cs):=by simp[DE]
def Qji(K g cs):DE K (.clo g cs)=.clo g (G9 K cs):=by simp[DE]
def l_b(K x):DE K (.b x)=.b x:=by simp[DE]
def l_i(K c x):DE K (.i c x)=.i c x:=by simp[DE]
def QqO(K x):DE K (.s x)=.s x:=by simp[DE]
def l_n(K):DE K .nil=.nil:=by simp[DE]
def Qj7(K n r):DE K (.imm n r)=.imm n r:=by simp[DE]
def zU:Vc []=[]:=by simp[Vc]
def yx(r rs):Vc (r::rs)=Xp r::Vc rs:=by simp[Vc]
def QfN:Xp []=[]:=by simp[Xp]
def Qcf(c cs):Xp (c::cs)=XQ c::Xp cs:=by simp[Xp]
def QpM(x):XQ (.b x)=.b x:=by simp[XQ]
def Qrv(c x):XQ (.i c x)=.i c x:=by simp[XQ]
def Qos(x):XQ (.s x)=.s x:=by simp[XQ]
def Qpc:XQ .nil=.nil:=by simp[XQ]
def Qf5(n r):XQ (.imm n r)=.imm n r:=by simp[XQ]
def QcM(n r):XQ (.own n r)=.imm n (Vc r):=by simp[XQ]
def Qip(m n r):X2 m (.own n r)=(.sl m,[some (.lst n r)]):=by simp[X2]
def Qja(m cs):X2 m (.agg cs)=(.agg (FG m cs).1,(FG m cs).2):=by simp[X2]
def Qlq(m cs):X2 m (.tup cs)=(.tup (FG m cs).1,(FG m cs).2):=by simp[X2]
def i_b(m x):X2 m (.b x)=(.b x,[]):=by simp[X2]
def i_i(m c x):X2 m (.i c x)=(.i c x,[]):=by simp[X2]
def QoM(m x):X2 m (.s x)=(.s x,[]):=by simp[X2]
def i_n(m):X2 m .nil=(.nil,[]):=by simp[X2]
def i_u(m):X2 m .z=(.z,[]):=by simp[X2]
def Qo0(m):FG m []=([],[]):=by simp[FG]
def Qoh(m c cs):FG m (c::cs)=((X2 m c).1::(FG (m+(X2 m c).2.length) cs).1,(X2 m c).2++(FG (m+(X2 m c).2.length) cs).2):=by simp[FG]
def QbI{α γ:Type}(x:α)(y:γ):(x,y).1=x:=Qj
def QhX{α γ:Type}(x:α)(y:γ):(x,y).2=y:=Qj
def dD(e:Option (List AV))(k:AV→Option β)(_:Lk k):Option β:=match e with|some cs=>k (.agg cs)|none=>none
def Qle(K z p ps l):Ty K (.st z p) ps k l=dD (DU K (p[·]?) z ps) k ():=Qj
def QcR(K z m ps l):Ty K (.arr z m) ps k l=dD (DU K (λi=>some (i*m,m)) z ps) k ():=Qj
def Qlj(cs l):dD (some cs) k l=k (.agg cs):=Qj
def Qaz(fl:Bool)(ns:List Nat)(e:Option (List AV))(K:KS)(len m:Nat)(k:AV→KS→Option β)(_:Lk k):Option β:=match e with
  |some cs=>cond (yB fl cs) (match XJ K cs with
   |some (K1,cs)=>JZ (K1++[some (.lst m ((EO m len cs).map (nz ns)))]) (λK'=>k (.sl K.length) K') ()
   |none=>none) none
  |none=>none
def QrY(fl ns K e m z)(k:AV→KS→Option β)(l):NQ fl ns K (some (e,m,z)) 0 [] k l=JZ (K++[some (.lst m [])]) (λK'=>k (.sl K.length) K') ():=Qj
def s_b(fl ns K e m z len ps)(k:AV→KS→Option β)(l):NQ fl ns K (some (e,m,z)) (len+1) ps k l=gQ (Nat.ble ((len+1)*m) 16777216) (Qaz fl ns (DU K (λi=>some (i*m,m)) (HF (len+1) z) ps) K (len+1) m k ()) () :=
 GD RI _ _
def Qa0(ns:List Nat)(e:Option (KS×List AV))(n len m:Nat)(k:AV→KS→Option β)(_:Lk k):Option β:=match e with
   |some (K1,cs)=>JZ (K1++[some (.lst m ((EO m len cs).map (nz ns)))]) (λK'=>k (.sl n) K') ()
   |none=>none
def Qoi(fl ns K cs len m)(k:AV→KS→Option β)(l):Qaz fl ns (some cs) K len m k l=cond (yB fl cs) (Qa0 ns (XJ K cs) K.length len m k ()) none:=Qj
def QrS:zB []=true:=Qj
def QqL(l:List Nat):zB (0::l)=zB l:=Qj
def Qsg(n:Nat)(l:List Nat):zB ((n+1)::l)=false:=Qj
def Qro(cs):yB false cs=true:=Qj
def Qqe(cs):yB true cs=dQ cs:=Qj
def Qpq:dQ []=true:=Qj
def Qsx(c n l):dQ (.i c n::l)=dQ l:=Qj
def QqW(x l):dQ (.b x::l)=dQ l:=Qj
def QpF(x l):dQ (.s x::l)=dQ l:=Qj
def QqV(l):dQ (.nil::l)=dQ l:=Qj
def QoF(n r l):dQ (.imm n r::l)=dQ l:=Qj
def Qqg(j l):dQ (.sl j::l)=false:=Qj
def Qse(ns K1 cs n len m)(k:AV→KS→Option β)(l):Qa0 ns (some (K1,cs)) n len m k l=JZ (K1++[some (.lst m ((EO m len cs).map (nz ns)))]) (λK'=>k (.sl n) K') ():=Qj
def QoP(K p cs):DU K p cs []=some cs:=Qj
def qL(K:KS)(place:Nat→Option (Nat×Nat))(cs:List AV)(p:Option (Nat×Nat))(d:Option (List AV))(rest:List (Nat×AV)):Option (List AV):=match p,d with
  |some (o,m),some ds=>if ds.length=m∧o+m≤cs.length then DU K place (putCells cs o ds) rest else none
  |_,_=>none
def QsW(K p cs i v r):DU K p cs ((i,v)::r)=qL K p cs (p i) (GS K v) r:=by simp only[DU];rfl
def Qre(K p cs o m ds r):qL K p cs (some (o,m)) (some ds) r=cond ((ds.length==m)&&Nat.ble (o+m) cs.length) (DU K p (putCells cs o ds) r) none :=
 GD (by simp only[Bool.and_eq_true,beq_iff_eq,RI]) _ _
def QqE(K cs):GS K (.agg cs)=some cs:=Qj
def Qp7(K x):GS K (.b x)=some [.b x]:=Qj
def QpI(K c x):GS K (.i c x)=some [.i c x]:=Qj
def QpJ(K x):GS K (.s x)=some [.s x]:=Qj
def QqQ(K):GS K .nil=some [.nil]:=Qj
def QgO(K n r):GS K (.imm n r)=some [.imm n r]:=Qj
def Qkz(K j):GS K (.sl j)=cond (kg K j).isSome (some [.sl j]) none:=by
 show(if BI K (.sl j)=true then some [AV.sl j]else none)=_;exact GD Iff.rfl _ _
def QrB(z):HF 0 z=[]:=by simp[HF]
def Qpe(n z):HF (n+1) z=z++HF n z:=by simp[HF,List.replicate_succ]
def Qjq(K):XJ K []=some (K,[]):=Qj
def Qg8(K x cs):XJ K (.b x::cs)=(XJ K cs).map λp=>(p.1,.b x::p.2):=by simp[XJ,AV.closed]
def Qj2(K c x cs):XJ K (.i c x::cs)=(XJ K cs).map λp=>(p.1,.i c x::p.2):=by simp[XJ,AV.closed]
def QjD(K x cs):XJ K (.s x::cs)=(XJ K cs).map λp=>(p.1,.s x::p.2):=by simp[XJ,AV.closed]
def Ql1(K cs):XJ K (.nil::cs)=(XJ K cs).map λp=>(p.1,.nil::p.2):=by simp[XJ,AV.closed]
def yK(K n r cs):XJ K (.imm n r::cs)=(XJ K cs).map λp=>(p.1,.imm n r::p.2):=by simp[XJ,AV.closed]
def Qkj(e:Option QE)(K:KS)(j:Nat)(cs:List AV):Option (KS×List AV):=match e with
  |some (.lst n rows)=>(XJ (K.set j none) cs).map λp=>(p.1,.own n rows::p.2)
  |_=>none
def QcA(K j cs):XJ K (.sl j::cs)=Qkj (kg K j) K j cs:=by simp only[XJ];rfl
def Qi2(K n r j cs):Qkj (some (.lst n r)) K j cs=(XJ (K.set j none) cs).map λp=>(p.1,.own n r::p.2):=Qj
def Qml(m cs):EO m 0 cs=[]:=Qj
def Qm3(m l cs):EO m (l+1) cs=cs.take m::EO m l (cs.drop m):=Qj
def lT(e:Option (List (List AV)×KS))(n m b:Nat)(s:AV)(k:AV→KS→Option β)(_:Lk k):Option β:=match e with
  |some (rows',K1)=>match s with
   |.sl j=>match kg K1 j with
    |some (.lst n' rows)=>if n'=m then Xi (decide ((rows.length+rows'.length)*(b+1)≤140737488355328)) (JZ (K1.set j none++[some (.lst m (rows++rows'))]) (λK'=>k (.sl n) K') ()) ()else none
    |_=>none
   |.nil=>Xi (decide (rows'.length*(b+1)≤140737488355328)) (JZ (K1++[some (.lst m rows')]) (λK'=>k (.sl n) K') ()) ()
   |_=>none
  |none=>none
def qP(e:Option QE)(r:List (List AV))(K1:KS)(n m b j:Nat)(k:AV→KS→Option β)(_:Lk k):Option β:=match e with
    |some (.lst n' rows)=>if n'=m then Xi (decide ((rows.length+r.length)*(b+1)≤140737488355328)) (JZ (K1.set j none++[some (.lst m (rows++r))]) (λK'=>k (.sl n) K') ()) ()else none
    |_=>none
def Qgl(K:KS)(t:Option (TypeId×Nat×List AV))(bytes:Option Nat)(s x:AV)(k:AV→KS→Option β)(_:Lk k):Option β:=U0 K t bytes s x k ()
def yd(P:Program)(t:Option (TypeId×Nat×List AV)):Option Nat:=t.bind λq=>tb P q.1
def QgZ{P:Program}{D:Orc}{f:Fr}{K:KS}(s x t tx ts)(k:AV→KS→Option β)(l):Eo P D (.call ⟨.builtin .append,List.toArray [s,x],List.toArray (t::tx::ts)⟩) f K k l=gQ (Et P tx&&!(FL s&&KV (ev f x))) (Qgl K (Lr P t) (yd P (Lr P t)) (ev f s) (ev f x) k ()) ():=by
 simp only[Eo,gQ,Qgl,yd];cases Et P tx<;>cases (FL s&&KV (ev f x))<;>rfl
def QoK(d):FL (.tmp d)=false:=Qj
def Qri:FL (.const (.slice none 0 0))=true:=Qj
def QqR(n r):KV (.imm n r)=false:=Qj
def QqN:KV .nil=false:=Qj
def QsM(j):KV (.sl j)=true:=Qj
def sb(ns:List Nat)(K:KS)(t:Option (TypeId×Nat×List AV))(bytes:Option Nat)(l c:AV)(k:AV→KS→Option β)(_:Lk k):Option β:=me ns K t bytes l c k ()
def Qq0{P:Program}{D:Orc}{f:Fr}{K:KS}(t x c)(k:AV→KS→Option β)(l):Eo P D (.makeSlice t x c) f K k l=sb (Is P t) K (Lr P t) (yd P (Lr P t)) (ev f x) (ev f c) k ():=Qj
def QkW(ns K e m z b i c)(k:AV→KS→Option β)(l):sb ns K (some (e,m,z)) (some (b+1)) (.i .i64 i) (.i .i64 c) k l=Xi (decide (i=c)) (Xi (mkB i (b+1)) (JZ (K++[some (.lst m (List.replicate i.toNat (nz ns z)))]) (λK'=>k (.sl K.length) K') ()) ()) ():=Qj
def QoS(i:Int):(i=i)=True:=by simp
def Qim(P e m z):yd P (some (e,m,z))=tb P e:=Qj
def a_1(K e m z b s x)(k:AV→KS→Option β)(l):Qgl K (some (e,m,z)) (some (b+1)) s x k l=lT (GN K m x) K.length m b s k ():=Qj
def a_2(r K1 n m b j)(k:AV→KS→Option β)(l):lT (some (r,K1)) n m b (.sl j) k l=qP (kg K1 j) r K1 n m b j k ():=Qj
def a_3(r K1 n m b)(k:AV→KS→Option β)(l):lT (some (r,K1)) n m b .nil k l=Xi (rm r.length (b+1)) (JZ (K1++[some (.lst m r)]) (λK'=>k (.sl n) K') ()) ():=by
 simp[lT,rm]
def a_4(r' r K1 n m b j)(k:AV→KS→Option β)(l):qP (some (.lst m r')) r K1 n m b j k l=Xi (rm (r'.length+r.length) (b+1)) (JZ (K1.set j none++[some (.lst m (r'++r))]) (λK'=>k (.sl n) K') ()) ():=by
 simp[qP,rm]
def Qps(K m):GN K m .nil=some ([],K):=Qj
def Qpu(K m r):GN K m (.imm m r)=some (r,K):=by simp[GN]
def Qep(e:Option QE)(K:KS)(m k:Nat):Option (List (List AV)×KS):=match e with
  |some (.lst n rows)=>if n=m then some (rows,K.set k none)else none
  |_=>none
def Qsf(K m j):GN K m (.sl j)=Qep (kg K j) K m j:=Qj
def QsQ(K m j r):Qep (some (.lst m r)) K m j=some (r,K.set j none):=by simp[Qep]
end
section
variable(T:Tld)
def QhI(n h):(Lq T (n+1) h).w=T.wt:=Qj
def QmB(n h g):(Lq T n h).z g=(lk T.pz g).getD []:=by cases n<;>rfl
def Qhs(n h):(Lq T (n+1) h).v=T.vt:=Qj
def QnY(n h):(Lq T n h).m=CM T n:=by cases n<;>rfl
def QmO(n h):(Lq T n h).a=CA T n:=by cases n<;>rfl
def Qiw(n h):(Lq T (n+1) h).q=T.qt:=Qj
def Qll(n h):(Lq T (n+1) h).s=T.st:=Qj
def Qh8(n h):(Lq T n h).p=CP T n:=by cases n<;>rfl
def Qmu(n h):(Lq T n h).l=LP T n h:=Qj
def cpF(T:Tld)(n g:Nat)(fn:Option Func)(a:Option Ann)(args:List AV):Option AV:=match a with
 |some a=>match fn with
  |some f=>cond (Nat.ble args.length f.ntmps) (Jl T.P (Lq T n g) a (f.body.getD .skip) (PF T.P a.sh f.results.toList) (Jy args) [] ()) none
  |none=>cond (Nat.ble args.length 0) (Jl T.P (Lq T n g) a .skip (PF T.P a.sh []) (Jy args) [] ()) none
 |none=>T.xt g args
def caF(T:Tld)(n g:Nat)(fn:Option Func)(a:Option Ann)(K:KS)(args:List AV):Option (AV×KS):=match a with
 |some a=>match fn with
  |some f=>cond (a.wr&&(Nat.beq K.length a.ak.length&&Nat.ble args.length f.ntmps)) (Jl T.P (Lq T n g) a (f.body.getD .skip) (T2 T.P a.ak a.nr f.ntmps f.results.toList) (Jy args) K ()) none
  |none=>cond (a.wr&&(Nat.beq K.length a.ak.length&&Nat.ble args.length 0)) (Jl T.P (Lq T n g) a .skip (T2 T.P a.ak a.nr 0 []) (Jy args) K ()) none
 |none=>none
def HM(n g K args):CA T (n+1) g K args=caF T n g (T.P.funcs[g]?) (T.at g) K args:=by
 show(match T.at g with|some a=>cond _ _ _|none=>none)=_
 unfold caF body UA ie;cases T.at g with
 |none=>rfl
 |some a=>cases T.P.funcs[g]?<;>rfl
def uD(n g K args a)(x1 x2 x3 x4 x5 x6 m)(rs:List ResultVar)(c x7 x8 x9 x10 x11 x12 x13):caF T n g (some ⟨x1,x2,x3,x4,x5,x6,m,List.toArray rs,some c,x7,x8,x9,x10,x11,x12,x13⟩) (some a) K args=cond ((a.nr.isSome||!a.ak.isEmpty)&&((K.length==a.ak.length)&&Nat.ble args.length m)) (Jl T.P (Lq T n g) a c (T2 T.P a.ak a.nr m rs) (Jy args) K ()) none:=by rw[←SP];rfl
def QcQ{α:Type}(x:α)(l:List α):(x::l).isEmpty=false:=Qj
def Qow:(!false)=true:=Qj
def cmF(T:Tld)(n g:Nat)(fn:Option Func)(a:Option Ann)(K:KS)(args:List AV):Option AV:=match a with
 |some a=>cond (Nat.ble args.length (match fn with|some f=>f.ntmps|none=>0)) (Jl T.P (Lq T n g) a (match fn with|some f=>f.body.getD .skip|none=>.skip) (PF T.P a.sh (match fn with|some f=>f.results.toList|none=>[])) (Jy args) K ()) none
 |none=>T.mt g K args
def bu(n g K args):CM T (n+1) g K args=cmF T n g (T.P.funcs[g]?) (T.at g) K args:=by
 show(match T.at g with|some a=>_|none=>_)=_
 unfold cmF body UA ie;cases T.at g with
 |none=>rfl
 |some a=>cases T.P.funcs[g]?<;>rfl
def yW(n g K args)(h:T.at g=none):CM T (n+1) g K args=T.mt g K args:=by rw[bu,h];rfl
def v8(n g K args a)(x1 x2 x3 x4 x5 x6 m)(rs:List ResultVar)(c x7 x8 x9 x10 x11 x12 x13):cmF T n g (some ⟨x1,x2,x3,x4,x5,x6,m,List.toArray rs,some c,x7,x8,x9,x10,x11,x12,x13⟩) (some a) K args=cond (Nat.ble args.length m) (Jl T.P (Lq T n g) a c (PF T.P a.sh rs) (Jy args) K ()) none:=Qj
def QU(n g args):CP T (n+1) g args=cpF T n g (T.P.funcs[g]?) (T.at g) args:=by
 show(match T.at g with|some a=>cond _ _ _|none=>T.xt g args)=_
 unfold cpF body UA ie;cases T.at g with
 |none=>rfl
 |some a=>cases T.P.funcs[g]?<;>rfl
def nZ(n g args)(h:T.at g=none):CP T (n+1) g args=T.xt g args:=by rw[QU,h];rfl
def rn(n g args a)(x1 x2 x3 x4 x5 x6 m)(rs:List ResultVar)(c x7 x8 x9 x10 x11 x12 x13):cpF T n g (some ⟨x1,x2,x3,x4,x5,x6,m,List.toArray rs,some c,x7,x8,x9,x10,x11,x12,x13⟩) (some a) args=cond (Nat.ble args.length m) (Jl T.P (Lq T n g) a c (PF T.P a.sh rs) (Jy args) [] ()) none:=Qj
def lpG(T:Tld)(n h:Nat)(a:Ann)(c:Option Code)(la:Option LA)(f:Fr)(K:KS):Option (XE×Fr×KS):=match c,la with
    |some c,some la=>run (λs=>Jl T.P (Lq T n h) a c (Nf a.ak la a.rt) s.1 s.2 ()) (f,K)
    |_,_=>none
def lpF(T:Tld)(n h t:Nat)(fn:Option Func)(a:Option Ann)(f:Fr)(K:KS):Option (XE×Fr×KS):=match a with
 |some a=>lpG T n h a (VW t (match fn with|some f=>f.body.getD .skip|none=>.skip)) (lk a.lp t) f K
 |none=>none
def Vh(n h t f K):LP T (n+1) h t f K=lpF T n h t (T.P.funcs[h]?) (T.at h) f K:=by
 show(match T.at h with|some a=>_|none=>none)=_
 unfold lpF;cases T.at h<;>rfl
def uN(n h t a f K)(x1 x2 x3 x4 x5 x6 m rs c x7 x8 x9 x10 x11 x12 x13):lpF T n h t (some ⟨x1,x2,x3,x4,x5,x6,m,rs,some c,x7,x8,x9,x10,x11,x12,x13⟩) (some a) f K=lpG T n h a (VW t c) (lk a.lp t) f K:=Qj
def QX(n h a c la f K):lpG T n h a (some c) (some la) f K=run (λs=>Jl T.P (Lq T n h) a c (Nf a.ak la a.rt) s.1 s.2 ()) (f,K):=Qj
def getD_some{α:Type}(x d:α):(some x).getD d=x:=Qj
def S1{α:Type}(d:α):(none:Option α).getD d=d:=Qj
end
section
variable{α β γ:Type}{c:α→List AV}
def bY(xs:List α)(i):Q0 (xs.map c) i=Q0 xs i:=by simp[Q0]
def Qqd(xs:List α):oC (xs.map c)=ln xs:=by simp[oC,ln]
def bJ[Inhabited α](xs:List α)(i:Int)(h:Q0 xs i=true):VJ (xs.map c) i.toNat=c (gt xs i):=by
 obtain⟨h0,h1⟩:=AA.1 h;have h2:i.toNat<xs.length:=by omega
 simp[VJ,gt,List.getD_eq_getElem?_getD,h2]
def Qk0(xs:List α)(i:Int)(h:Q0 xs i=true):aE (xs.map c) i.toNat=true:=by
 unfold aE;obtain⟨h0,h1⟩:=AA.1 h;rw[Nat.blt_eq];simp;omega
def Qii(xs:List α)(l h:Int):cut (xs.map c) l h=(cut xs l h).map c:=by simp[cut,List.map_take,List.map_drop]
def dZ(xs:List α)(i:Int)(ys:List α)(b:Nat):HL (xs.map c) i (ys.map c) b=HL xs i ys b:=by simp[HL]
def cU(xs:List α)(i:Int)(ys:List α):V5 (xs.map c) i (ys.map c)=(V5 xs i ys).map c:=by simp[V5,List.map_take,List.map_drop]
def Qnl(xs:List α):(xs.map c).length=xs.length:=by simp
def sx(xs:List α)(n:Nat)(x:α)(i:Int):Q0 (xs.set n x) i=Q0 xs i:=by simp[Q0]
def xN[Inhabited α](xs:List α)(x:α)(i:Int)(h:Q0 xs i=true):gt (xs.set i.toNat x) i=x:=by
 obtain⟨h0,h1⟩:=AA.1 h;have h2:i.toNat<xs.length:=by omega
 simp[gt,List.getD_eq_getElem?_getD,h2]
def qh(xs:List α)(n:Nat)(x y:α):(xs.set n x).set n y=xs.set n y:=by simp
def pi(o:Option α)(g:β→γ)(f:α→Option β):(o.bind f).map g=o.bind λx=>(f x).map g:=by cases o<;>rfl
def nk(b:Bool)(o:Option β)(g:β→γ)(l):(Xi b o l).map g=Xi b (o.map g) ():=by cases b<;>rfl
def oG(b:Bool)(x y:Option β)(g:β→γ):(cond b x y).map g=cond b (x.map g) (y.map g):=by cases b<;>rfl
def vW{ρ δ:Type}(p:ρ→Option β)(q:δ→Option β)(x)(g:β→γ):(Zy p q x).map g=Zy (λr=>(p r).map g) (λr=>(q r).map g) x:=by cases x<;>rfl
def fq(x:α)(f:α→Option β):(some x).bind f=f x:=Qj
def eJ(o:Option α)(f:α→Option β)(g:β→Option γ):(o.bind f).bind g=o.bind λx=>(f x).bind g:=by cases o<;>rfl
def xR{α' β':Type}(f:α→α')(g:β→β')(x):Sum.map f g (.inl x)=.inl (f x):=Qj
def zo{α' β':Type}(f:α→α')(g:β→β')(x):Sum.map f g (.inr x)=.inr (g x):=Qj
end
class QD {α:Type} (c:α→List AV) (r:List AV) (x:outParam α):Prop where
 eq:r=c x
class QC {α:Type} (c:α→List AV) (R:List (List AV)) (xs:outParam (List α)):Prop where
 eq:R=xs.map c
instance{α:Type}(c:α→List AV)(x:α):QD c (c x) x:=⟨rfl⟩
instance{α:Type}(c:α→List AV)(xs:List α):QC c (xs.map c) xs:=⟨rfl⟩
instance{α:Type}(c:α→List AV):QC c [] []:=⟨rfl⟩
instance{α:Type}(c:α→List AV)(r R x xs)[h:QD c r x][H:QC c R xs]:QC c (r::R) (x::xs):=⟨by rw[h.eq,H.eq];rfl⟩
instance{α:Type}(c:α→List AV)(R S xs ys)[h:QC c R xs][H:QC c S ys]:QC c (R++S) (xs++ys):=⟨by rw[h.eq,H.eq];simp⟩
instance{α:Type}(c:α→List AV)(R xs)(i:Nat)(r x)[h:QC c R xs][H:QD c r x]:QC c (R.set i r) (xs.set i x):=⟨by rw[h.eq,H.eq,List.map_set]⟩
instance{α:Type}(c:α→List AV)(n:Nat)(r x)[H:QD c r x]:QC c (List.replicate n r) (List.replicate n x):=⟨by rw[H.eq,List.map_replicate]⟩
def Qcg{α:Type}{c:α→List AV}(xs:List α)(R){ys}[h:QC c R ys]:xs.map c++R=(xs++ys).map c:=by rw[h.eq];simp
def QcX{α:Type}{c:α→List AV}(xs:List α)(n:Nat)(R){x}[h:QD c R x]:(xs.map c).set n R=(xs.set n x).map c:=by rw[h.eq,List.map_set]
def AR{α:Type}{c:α→List AV}(h:∀x,Jf (c x)=true)(xs:List α):Va (xs.map c)=true:=by
 induction xs with
 |nil=>simp[Va]
 |cons x xs ih=>simp[Va,h,ih]
def Dt{α:Type}{c c':α→List AV}(h:∀x,Xp (c x)=c' x)(xs:List α):Vc (xs.map c)=xs.map c':=by
 induction xs with
 |nil=>simp[Vc]
 |cons x xs ih=>simp[Vc,h,ih]
def Qgf{α:Type}{c:α→List AV}(xs:List α)(n b:Nat)(m):T8 (xs.map c).isEmpty (some (AV.own n [])) (Xi (rm (0+xs.length) b) (some (AV.own n (xs.map c))) m)=Xi (rm (0+xs.length) b) (some (AV.own n (xs.map c))) ():=by
 cases xs with
 |nil=>simp[T8,px,Xi,rm]
 |cons r R=>rfl
def QW:=Qk @QkT @QlX @tQ @Qbl @ry @Qbx<|Qk @Ql5 @Qlh @QcC @ye @ro @Qs1<|Qk @Qis @Qr8 @QnZ @zO @Qhw @yF<|Qk @Qgn @wx @tH @Qjt @QnE @Qel<|Qk @Qfj @Qdw @Qdy @Qi1 @wA @uQ<|Qk @Qha @qQ @QdF @QeB @QgJ @Ql6<|Qk @Qmd @QjM @Qlv @uc @bg @Qc8<|Qk @Qhf @wL @vf @QgD @Qe2 @QkD<|Qk @QnT @s_v @v_j @v_s @QmS @QlF<|Qk @v8 @mA @n_c @Qg7 @Qlb @Qhe<|Qk @Qj5 @Ql8 @n_g @Qg9 @Qkv @Qhj<|Qk @QeS @Qmt @Qcq @QnW @QeC @xK<|Qk @rO @kM @kh @mU @l5 @Qrw<|Qk @QsB @QaN @QhF @Qmc @Qda @Qez<|Qk @Qga @w6 @rL @yo @nY @xG<|Qk @v7 @Qj6 @Qjo @Qci @QdA @QeV<|aI @Qd8 <|  Qk @Qad @bg @QjK @QlB @zC @Qi0<|Qk @QhZ @pM @rC @ud @Qi4 @uI<|aI @Qnn<|aI @Qhy <|
 Qk @tW @t8 @QgB @kN @sX @ux<|aI @se<|aI @yA<|aI @zF<|aI @yh <|
 Qk @Qjg @QfL @xw @c_g @QrT @QbL<|aI @Qbm<|aI @Qbd <|
 aI @P7<|aI @nK<|aI @iS<|aI @eL<|aI @jp <|
 Qk @Qfy @tc @Qen @zw @QiV @zN<|Qk @rZ @QeK @yD @QlM @Qd1 @QcK<|Qk @Qcl @Qd9 @Qlo @QjJ @Qmy @QkF<|aI @Ql7<|aI @Qlp<|aI @Qd7<|aI @QcD<|aI @Qgw<|aI @Qoj <|
 Qk @QrE @Qoe @Qnu @Qk4 @QjV @QiC<|aI @Qkr<|aI @Qgo<|aI @zT<|aI @QgZ<|aI @Qq0 <|
 Qk @QjG @QcU @oM @iY @jx @gZ<|aI @ge<|aI @s8<|aI @jB<|aI @oO <|
 aI @fM<|aI @gw<|aI @Xy<|aI @Si<|aI @Yq<|aI @bA <|
 Qk @Qap @xd @Qdu @Qbi @n_r @n_s<|aI @QpR<|aI @QpD<|aI @QrG <|
 Qk @Qnr @QcH @y9 @QfT @pZ @Qev<|aI @QlG<|aI @Qcb<|aI @Qbb<|aI @Qay <|
 aI @getD_some<|aI @S1<|aI @rn<|aI @uD<|aI @uN @QbI
def Zt:=Qk @cQ @dp @Qpy @Qqq @Qp9 @QoR<|Qk @QsU @k_i @k_b @k_s @yy @QcW<|Qk @Qo2 @Qrt @Qpo @Qqw @Qp1 @QpG<|Qk @QsA @QoV @Qoo @Qr6 @Qso @Qo5<|Qk @QrS @QqL @Qsg @Qro @Qqe @Qpq<|Qk @Qsx @QqW @QpF @QqV @QoF @Qqg<|Qk @QkT @QlX @tQ @Qbl @ry @Qbx<|Qk @Ql5 @Qlh @Qmd @QjM @Qlv @Qrd<|Qk @c_K @QnZ @QhD @x_u @Qqp @QqZ<|Qk @Qpf @QpZ @s_v @v_j @v_s @QmS<|Qk @QlF @v8 @p_0 @p_e @p_s @p_n<|Qk @p_z @p_a @Qr0 @QrO @Qqy @QrW<|Qk @Qrm @QoW @QrR @Qox @QmB @Yq<|Qk @bA @S1 @getD_some @n_c @Qg7 @Qlb<|Qk @Qhe @Qj5 @Ql8 @n_g @Qg9 @Qkv<|Qk @Qhj @Qbi @n_r @n_s @yN @xb<|Qk @wk @fM @gw @Xy @Si @tW<|Qk @t8 @kN @QbL @Qbm @Qbb @Qay<|Qk @getD_some @S1 @pM @rC @uI @ud<|Qk @X3 @Qi0 @QhZ @c_M @QoK @Qri<|Qk @QqR @QqN @QsM @QhN @Qlt @Qf7<|Qk @QfM @zH @xu @Qgh @zu @uO<|Qk @Qhn @Qib @uV @Qdd @QcO @QkM<|Qk @QdH @QfE @Qfz @vB @sC @kM<|Qk @kh @QhF @Qmc @Qo7 @Qpg @Qq6<|Qk @QpX @Qsa @Qpj @s_w @w_j @w_s<|Qk @Qrf @QrM @QnN @Qgs @Qst @Qs2<|Qk @QlO @Qpa @QoG @QsK @QoN @QhC<|Qk @Qc7 @Qqi @QoZ @Qme @Qqj @QqA<|Qk @Qrz @Qof @QsG @QqG @QoY @QpO<|Qk @QoU @Qsb @QqF @QiY @Qks @Qql<|Qk @Qsr @Qsv @Qs8 @QrN @Qrn @Qsl<|Qk @QoL @QsL @QrX @Qoq @QpH @Qqa<|Qk @QsP @QrQ @QrZ @Qrl @QsE @QoO<|Qk @Qqc @Qor @Qot @QrD @Qrh @Qq9<|Qk @QpA @QjE @QjY @QkO @QjN @Qrp<|Qk @Qqn @QsI @Qp6 @Qs0 @Qr7 @QsN<|Qk @QlQ @Qkl @QnI @QnC @QqI @Qom<|Qk @Qq5 @Qsu @QlR @Qq8 @Qp4 @QjB<|Qk @QhH @Qqb @Qpb @QlE @Qk7 @QkZ<|Qk @Qka @QiD @Bool.true_or @Bool.false_or @QpY @Qo3<|Qk @Qsn @QpQ @Qrg @Qs3 @Qrb @Qrs<|Qk @w_p @QpL @w_x @w_n @QaN @Qmj<|Qk @QmC @uD @QcQ @Qow @mU @l5<|Qk @s_t @s_q @s_f @Qoc @QjA @QdO<|Qk @Qqo @Ql3 @QcE @ju @QdP @Qdm<|Qk @QhE @Qjz @QnA @QcN @QkA @Qia<|aI @Qki<|aI @mA<|aI @rn<|aI @uN<|aI @Yq<|aI @P7 <|
 Qk @QkV @Qi3 @Qqk @QsR @Qgt @Qct<|Qk @QeN @zx @pq @tN @qT @pK<|aI @gS<|aI @Qi7<|aI @QkH<|aI @Qqh<|aI @Qke <|
 Qk @Qbe @Qhp @Qkk @QkP @Qj1 @Qlf<|Qk @Qi9 @Qmv @QiO @Qns @QhV @QhJ<|aI @QjR<|aI @Qh5<|aI @Qkp<|aI @QmU<|aI @Qla<|aI @Qkf <|
 Qk @Qln @QhR @Qnt @QnO @Qno @Qdz<|Qk @QeO @Qfs @Qdh @QnK @QfB @Qmz<|Qk @QiB @QhL @QlN @QgN @Qfp @Qc0<|Qk @Qgj @Qcc @Qfa @QeQ @QgI @Qnx<|aI @QfJ <|
 Qk @xX @Qac @wO @QjP @yT @QnU<|aI @Qr3<|aI @QcV<|aI @cP<|aI @QjL<|aI @Qlc <|
 Qk @Qkg @Qj3 @Qfb @Qdn @QmE @Qdv<|aI @Qgr<|aI @Qcj<|aI @Qas<|aI @Qai<|aI @y6<|aI @Qae <|
 Qk @Qdg @QlW @Qea @Qcn @Qd2 @zP<|Qk @QnV @Qe3 @Qcs @Qd6 @u0 @wh<|Qk @xo @ug @tJ @Qej @Qmp @Qff<|aI @QeW<|aI @Qnd<|aI @Qc5 <|
 Qk @Qru @m_c @QfV @Qe5 @QfX @QeD<|aI @Qnv<|aI @Qlu<|aI @Qmb<|aI @zQ<|aI @wR<|aI @xq <|
 Qk @zR @Qnj @wY @zq @xg @QqP<|aI @QcJ<|aI @QeX<|aI @Qcd<|aI @QcL <|
 Qk @Qih @Qnh @Qm8 @Qhl @Qie @yG<|Qk @wM @Qd5 @zk @QpV @QnH @QnJ<|aI @Qm4<|aI @QkI<|aI @zg<|aI @Qh0 <|
 Qk @xh @pT @sL @Qch @Qec @QpP<|Qk @QhW @Qjf @QkC @Qjc @QiG @QmG<|Qk @Qmw @Qf1 @Qmm @QmW @Qlg @QlA<|Qk @Qk2 @Qov @Qo8 @Qs7 @QqK @Qo6<|Qk @QpC @Qr5 @QoD @Qqs @Qsh @QrH<|Qk @QrK @Qqu @QsC @QrI @QqD @Qls<|Qk @QmD @Qkc @QdW @Qem @Qe1 @QfD<|aI @Qgv<|aI @yv<|aI @pF<|aI @QoB <|
 Qk @QjX @QmI @Qfn @We @kb @Qhx<|Qk @Qik @Qco @x_b @x_i @x_s @Qkb<|Qk @Qko @Qjx @Qrr @Qjv @QeA @Qah<|aI @QrV <|
 Qk @Qm6 @Qc6 @QdQ @Qjp @QhQ @QqJ<|Qk @Qfr @Qe4 @Ql9 @QhS @QmP @Qi8<|aI @QhA<|aI @QnX<|aI @Qe0<|aI @Qcr <|
 Qk @QfF @xE @xO @Qaf @yU @QcB<|Qk @QkK @QhM @Qmn @QmR @wP @vY<|aI @Qf0<|aI @Qek<|aI @QdM<|aI @QdU<|aI @Qgb <|
 Qk @l_0 @l_s @Qo9 @Qg4 @Qnw @QmJ<|Qk @QeZ @QgQ @Qcw @QlP @Qo1 @Qqm<|Qk @Qs6 @QoQ @Qq1 @Qe7 @Ql2 @QiW<|Qk @Qji @l_b @l_i @QqO @l_n @Qj7<|Qk @zU @yx @QfN @Qcf @QpM @Qrv<|aI @Qos<|aI @Qpc<|aI @Qf5<|aI @QcM <|
 Qk @Qip @Qja @Qlq @i_b @i_i @QoM<|aI @i_n<|aI @i_u<|aI @Qo0<|aI @Qoh<|aI @QbI<|aI @QhX <|
 Qk @Qle @QcR @Qlj @QrY @s_b @Qoi<|Qk @Qse @QoP @QsW @Qre @QqE @Qp7<|Qk @QpI @QpJ @QqQ @QgO @Qkz @QrB<|aI @Qpe <|
 Qk @Qjq @Qg8 @Qj2 @QjD @Ql1 @yK<|aI @QcA<|aI @Qi2<|aI @Qml<|aI @Qm3 <|
 Qk @Qim @QkW @QoS @Qbd @a_1 @a_2<|aI @a_3<|aI @a_4<|aI @Qps<|aI @Qpu<|aI @Qsf @QsQ
def evT:=Qk @bY @Qgf @Qii @Qqd @bJ @Qk0<|Qk @QcX @Qcg @vm @Qnl @sx @xN<|Qk @qh @gz @Qma @pi @nk @oG<|aI @fq<|aI @vW<|aI @eJ<|aI @xR @zo
def I1:=Qk @Xy @List.contains_nil @Qi @Bool.and_true @List.length_append @List.length_cons<|aI @List.length_nil<|aI @Nat.zero_add<|aI @Xt<|@X3
end Go.Proofs.YtfhnbabcbhgffaaGreatDoor.Am
