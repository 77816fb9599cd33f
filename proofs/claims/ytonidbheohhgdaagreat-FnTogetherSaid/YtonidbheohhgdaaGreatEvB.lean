import Derived.Test.YtonidbheohhgdaaGreatEvA
namespace Go.Proofs.YtonidbheohhgdaaGreat.Am
open Go
set_option linter.unusedVariables false
set_option linter.unusedSimpArgs false
section
variable{β:Type}
theorem Qce{α:Type}{p:Prop}[Decidable p]{b:Bool}(h:b=true↔p)(x y:α):(if p then x else y)=cond b x y:=by
 cases b with
 |true=>rw[if_pos (h.1 rfl)];rfl
 |false=>rw[if_neg (fun hp=>by have:=h.2 hp;cases this)];rfl
theorem QkY{m n:Nat}:Nat.blt m n=true↔m<n:=by rw[Nat.blt_eq]
theorem QiC{m n:Nat}:Nat.ble m n=true↔m≤n:=by rw[Nat.ble_eq]
def sel{α:Type}(b:Bool)(x y:α)(_:Lk (x,y)):α:=cond b x y
theorem Qzk{α:Type}(x y:α)(l):sel true x y l=x:=_root_.id rfl
theorem QAo{α:Type}(x y:α)(l):sel false x y l=y:=_root_.id rfl
theorem QEp(v)(k:AV→Option β)(l):QjV v k l=k v:=_root_.id rfl
theorem QBo(K)(k:KS→Option β)(l):V2 K k l=k K:=_root_.id rfl
theorem QLL(f:Fr)(d:Nat)(v:AV)(t:Nat):up f d v t=sel (d==t) v (f t) ():=by
 unfold up sel;by_cases h:t=d
 ·simp[h]
 ·have:(d==t)=false:=by simp;exact fun h'=>h h'.symm
  simp[h,this]
theorem QLg(m n:Nat):Nat.ble m n=decide (m≤n):=by rw[Bool.eq_iff_iff,Nat.ble_eq];simp
theorem QIr(m n:Nat):Nat.blt m n=decide (m<n):=by rw[Bool.eq_iff_iff,Nat.blt_eq];simp
theorem QQC(h:Decidable True):@decide True h=true:=by simp
theorem QRQ(h:Decidable False):@decide False h=false:=by simp
theorem QEW(m n:Nat)(f:Fr)(t:Nat):QuB m n f t=sel (Nat.ble m t&&Nat.blt t n) .u (f t) ():=_root_.id rfl
theorem Quj(t:Nat):frm [] t=.u:=_root_.id rfl
theorem Qrg(d:Nat)(v:AV)(l:List (Nat×AV))(t:Nat):frm ((d,v)::l) t=sel (d==t) v (frm l t) ():=by
 show up (frm l) d v t=_;exact QLL _ _ _ _
theorem Qr4(t:Nat):VO [] t=.u:=by simp[VO]
theorem QqL(v:AV)(l:List AV):VO (v::l) 0=v:=_root_.id rfl
theorem Qqc(v:AV)(l:List AV)(t:Nat):VO (v::l) (t+1)=VO l t:=_root_.id rfl
theorem Qwb(f:Fr)(t:Tmp):ev f (.tmp t)=f t:=_root_.id rfl
theorem QrN(f:Fr)(v:Value):ev f (.const v)=cv v:=_root_.id rfl
theorem Qt9(f:Fr)(g:FuncId):ev f (.func g)=.clo g []:=_root_.id rfl
theorem Qun(b:Bool):cv (.bool b)=.b b:=_root_.id rfl
theorem Qxa(k:IntKind)(i:Int):cv (.int k i)=.i k i:=_root_.id rfl
theorem QyE(x:ByteArray):cv (.string x)=.s x.data.toList:=_root_.id rfl
theorem Qwy:cv (.slice none 0 0)=.nil:=_root_.id rfl
theorem Qpb{α:Type}(x y:α):cond true x y=x:=_root_.id rfl
theorem QqG{α:Type}(x y:α):cond false x y=y:=_root_.id rfl
theorem Vz(q:Option β)(l):Vf true q l=q:=_root_.id rfl
def Qbe{ρ δ γ:Type}(o:Option (Fl ρ δ))(p:ρ→γ)(q:δ→γ):Option γ:=o.map (evO p q)
theorem QnT{ρ δ γ:Type}(o:Option (Fl ρ δ))(p:ρ→γ)(q:δ→γ)(k:γ→Option β)(l):Jc (Qbe o p q) k l=o.bind (evO (fun r=>k (p r)) (fun r=>k (q r))):=by
 cases o with
 |none=>rfl
 |some o=>cases o<;>rfl
theorem Qic{α:Type}(x:α)(k:α→Option β)(l):Jc (some x) k l=k x:=_root_.id rfl
theorem QoS{α:Type}(k:α→Option β)(l):Jc (none:Option α) k l=none:=_root_.id rfl
theorem Qot{α:Type}(b:Bool)(q:Option α)(k:α→Option β)(l)(l'):Jc (Vf b q l') k l=Vf b (Jc q k l) ():=by cases b<;>rfl
theorem QqV{α γ:Type}(o:Option γ)(e:γ→α)(k:α→Option β)(l):Jc (o.map e) k l=o.bind (fun r=>k (e r)):=by cases o<;>rfl
theorem QlC{α:Type}(i):lk ([]:List (Nat×α)) i=none:=_root_.id rfl
theorem Qnj{α:Type}(i)(x:α)(l j):lk ((i,x)::l) j=sel (i==j) (some x) (lk l j) ():=_root_.id rfl
end
section
variable{β:Type}{P:Program}{D:Orc}{a:Ann}{f:Fr}{K:KS}{Q:KT β}{k:AV→KS→Option β}
theorem QDx(l):Vl P D a .skip Q f K l=Q .normal f K:=_root_.id rfl
theorem QLy(l):Vl P D a .ret Q f K l=Q .ret f K:=_root_.id rfl
theorem QDz(id l):Vl P D a (.exit id) Q f K l=Q (.exit id) f K:=_root_.id rfl
theorem QHy(x y l):Vl P D a (.seq x y) Q f K l=Vl P D a x (QoY (fun f K=>Vl P D a y Q f K ()) Q) f K ():=_root_.id rfl
def QI8(v:AV)(x y:Option β)(_:Lk (x,y)):Option β:=match v with|.b b=>cond b x y|_=>none
theorem QDA(c x y l):Vl P D a (.cond c x y) Q f K l=QI8 (ev f c) (Vl P D a x Q f K ()) (Vl P D a y Q f K ()) ():=_root_.id rfl
theorem QNv(b)(x y:Option β)(l):QI8 (.b b) x y l=cond b x y:=_root_.id rfl
theorem QAS(id c l):Vl P D a (.block id c) Q f K l=Vl P D a c (Que id Q) f K ():=_root_.id rfl
theorem QvD(id ol l):Vl P D a (.region id (List.toArray ol) false) Q f K l=ofz (lk a.fz id) (lk a.fc id) f K (fun f K=>QiU P D a id (lk a.av id) (List.toArray ol) Q f K ()) ():=_root_.id rfl
theorem QzO{α:Type}(x:α)(xs ys:List α):List.append (x::xs) ys=x::List.append xs ys:=_root_.id rfl
theorem QFh{α:Type}(ys:List α):List.append [] ys=ys:=_root_.id rfl
theorem QQy(f:Fr)(K:KS)(k:Fr→KS→Option β)(l):ofz none none f K k l=k f K:=_root_.id rfl
theorem QR7(f:Fr)(K:KS)(ss)(k:Fr→KS→Option β)(l):ofz (some ss) none f K k l=QoJ ss f K k ():=_root_.id rfl
theorem QRG(f:Fr)(K:KS)(cs)(k:Fr→KS→Option β)(l):ofz none (some cs) f K k l=QnV cs f K k ():=_root_.id rfl
theorem QRU(f:Fr)(K:KS)(k:Fr→KS→Option β)(l):QnV [] f K k l=k f K:=_root_.id rfl
theorem QRu(f:Fr)(K:KS)(s o ss)(k:Fr→KS→Option β)(l):QnV ((s,o)::ss) f K k l=Qzx o (f s) K (fun K=>QnV ss f K k ()) ():=_root_.id rfl
theorem QQX(o jb i q)(K:KS)(k:KS→Option β)(l):Qzx o (.ptr jb i q) K k l=QA7 o jb (kg K jb) K k ():=_root_.id rfl
theorem QPM(o jb cs)(K:KS)(k:KS→Option β)(l):QA7 o jb (some (.box cs)) K k l=QBl o jb cs (cs.drop o) K k ():=_root_.id rfl
theorem QSb(o jb j cs ds)(K:KS)(k:KS→Option β)(l):QBl o jb cs (.sl j::ds) K k l=Qy5 o jb j cs (kg K j) K k ():=_root_.id rfl
theorem QON(o jb j cs m rows)(K:KS)(k:KS→Option β)(l):Qy5 o jb j cs (some (.lst m rows)) K k l=k ((K.set j none).set jb (some (.box (cs.set o (.imm m (Qh rows)))))):=_root_.id rfl
theorem QOA(f:Fr)(K:KS)(k:Fr→KS→Option β)(l):QoJ [] f K k l=k f K:=_root_.id rfl
theorem QOQ(f:Fr)(K:KS)(s ss)(k:Fr→KS→Option β)(l):QoJ (s::ss) f K k l=Qy4 s (f s) f K (fun f K=>QoJ ss f K k ()) ():=_root_.id rfl
theorem QOY(f:Fr)(K:KS)(s j)(k:Fr→KS→Option β)(l):Qy4 s (.sl j) f K k l=QAJ s j (kg K j) f K k ():=_root_.id rfl
theorem QSo(f:Fr)(K:KS)(s j m rows)(k:Fr→KS→Option β)(l):QAJ s j (some (.lst m rows)) f K k l=k (up f s (.imm m (Qh rows))) (K.set j none):=_root_.id rfl
theorem QIO(id ol l):QiU P D a id none (List.toArray ol) Q f K l=Qp3 P D a id (lk a.an id) (List.toArray ol) ol Q f K ():=_root_.id rfl
theorem QLF(id vs ol l):QiU P D a id (some vs) (List.toArray ol) Q f K l=ZN vs P D (List.toArray ol) ol f K (fun f K=>Q .normal f K) ():=_root_.id rfl
theorem QEA(vs ops)(k:Fr→KS→Option β)(l):ZN vs P D ops [] f K k l=k f K:=_root_.id rfl
theorem QAv(vs ops d o t p af r)(k:Fr→KS→Option β)(l):ZN vs P D ops (⟨some d,o,t,p,af,none⟩::r) f K k l=Qks vs P D o f K (fun v K'=>QjV v (fun v=>ZN vs P D ops r (up f d v) K' k ()) ()) ():=_root_.id rfl
theorem Qwu(vs ops o t p af r)(k:Fr→KS→Option β)(l):ZN vs P D ops (⟨none,o,t,p,af,none⟩::r) f K k l=Qks vs P D o f K (fun v K'=>ZN vs P D ops r f K' k ()) ():=_root_.id rfl
theorem QPp(vs ops r)(k:Fr→KS→Option β)(d op t pos after j want l):ZN vs P D ops (⟨some d,op,t,pos,after,some (j,want)⟩::r) f K k l =
  ogd ((ops[j]?).bind (·.dst)) want f (fun f=>Qks vs P D op f K (fun v K'=>QjV v (fun v=>ZN vs P D ops r (up f d v) K' k ()) ()) ()) (fun f=>QjV (.tup []) (fun v=>ZN vs P D ops r (up f d v) K k ()) ()) ():=_root_.id rfl
theorem QNw(vs ops r)(k:Fr→KS→Option β)(op t pos after j want l):ZN vs P D ops (⟨none,op,t,pos,after,some (j,want)⟩::r) f K k l =
  ogd ((ops[j]?).bind (·.dst)) want f (fun f=>Qks vs P D op f K (fun v K'=>ZN vs P D ops r f K' k ()) ()) (fun f=>ZN vs P D ops r f K k ()) ():=_root_.id rfl
def QdE:Op→Bool
 |.call ⟨.value (.func _),_,_⟩=>true
 |_=>false
theorem QOt(vs o l)(k:AV→KS→Option β)(h:QdE o=false):Qks vs P D o f K k l=oop P D o f K k ():=by
 unfold QdE at h;unfold Qks
 split
 ·cases h
 ·rfl
theorem QKY(vs g args ts l)(k:AV→KS→Option β):Qks vs P D (.call ⟨.value (.func g),args,ts⟩) f K k l=cond (vs.contains g) (Qcu P D (.call ⟨.value (.func g),args,ts⟩) f K k ()) (oop P D (.call ⟨.value (.func g),args,ts⟩) f K k ()):=_root_.id rfl
theorem QyP(x args ts):QdE (.call ⟨.value (.tmp x),args,ts⟩)=false:=_root_.id rfl
theorem QKS(b args ts):QdE (.call ⟨.builtin b,args,ts⟩)=false:=_root_.id rfl
theorem QAs(x):QdE (.move x)=false:=_root_.id rfl
theorem QFP(x):QdE (.assign x)=false:=_root_.id rfl
theorem Qzt(t x):QdE (.load t x)=false:=_root_.id rfl
theorem QxE(t x y):QdE (.store t x y)=false:=_root_.id rfl
theorem QMg(t x i):QdE (.fieldAddr t x i)=false:=_root_.id rfl
theorem QIX(t x i):QdE (.indexAddr t x i)=false:=_root_.id rfl
theorem QED(x i):QdE (.extract x i)=false:=_root_.id rfl
theorem QDj(t x i):QdE (.field t x i)=false:=_root_.id rfl
theorem QFK(o t x y u):QdE (.binOp o t x y u)=false:=_root_.id rfl
theorem QLZ(o t x):QdE (.unOp o t x)=false:=_root_.id rfl
theorem QDW(x):QdE (.nilCheck x)=false:=_root_.id rfl
theorem QzA(c x y):QdE (.pick c x y)=false:=_root_.id rfl
theorem Qv6(t ps):QdE (.build t ps)=false:=_root_.id rfl
theorem QNq(t n ps):QdE (.buildSlice t n ps)=false:=_root_.id rfl
theorem QvY(t):QdE (.alloc t)=false:=_root_.id rfl
theorem QFI(t x):QdE (.box t x)=false:=_root_.id rfl
theorem QDO(t x lo hi m):QdE (.slice t x lo hi m)=false:=_root_.id rfl
theorem QFi(t x i):QdE (.index t x i)=false:=_root_.id rfl
theorem QHx(s t x):QdE (.convert s t x)=false:=_root_.id rfl
theorem QtI(id ops ol l):Qp3 P D a id none ops ol Q f K l=Qp5 P D a id (lk a.ac id) ops ol Q f K ():=_root_.id rfl
theorem QsV(id us ops ol l):Qp3 P D a id (some us) ops ol Q f K l=Qho P D ops us ol f K (fun f K=>Q .normal f K) ():=_root_.id rfl
theorem QtZ(id ops ol l):Qp5 P D a id none ops ol Q f K l=QlE P D a id ops ol Q f K ():=_root_.id rfl
theorem QsD(id x ops ol l):Qp5 P D a id (some x) ops ol Q f K l=QfD P D ops ol f K (fun f K=>Q .normal f K) ():=_root_.id rfl
theorem QDN(ops)(k:Fr→KS→Option β)(l):QfD P D ops [] f K k l=k f K:=_root_.id rfl
theorem QzW(ops d o t p af r)(k:Fr→KS→Option β)(l):QfD P D ops (⟨some d,o,t,p,af,none⟩::r) f K k l=Qcu P D o f K (fun v K'=>QjV v (fun v=>QfD P D ops r (up f d v) K' k ()) ()) ():=_root_.id rfl
theorem Qye(ops o t p af r)(k:Fr→KS→Option β)(l):QfD P D ops (⟨none,o,t,p,af,none⟩::r) f K k l=Qcu P D o f K (fun v K'=>QfD P D ops r f K' k ()) ():=_root_.id rfl
theorem Qzs(x l):Qcu P D (.move x) f K k l=oop P D (.move x) f K k ():=_root_.id rfl
theorem Quv(x l):Qcu P D (.assign x) f K k l=oop P D (.assign x) f K k ():=_root_.id rfl
theorem QyX(t x l):Qcu P D (.load t x) f K k l=oop P D (.load t x) f K k ():=_root_.id rfl
theorem QxA(t x y l):Qcu P D (.store t x y) f K k l=oop P D (.store t x y) f K k ():=_root_.id rfl
theorem QKb(t x i l):Qcu P D (.fieldAddr t x i) f K k l=oop P D (.fieldAddr t x i) f K k ():=_root_.id rfl
theorem QNV(t x i l):Qcu P D (.indexAddr t x i) f K k l=oop P D (.indexAddr t x i) f K k ():=_root_.id rfl
theorem QDv(t x i l):Qcu P D (.field t x i) f K k l=oop P D (.field t x i) f K k ():=_root_.id rfl
theorem QFb(x i l):Qcu P D (.extract x i) f K k l=oop P D (.extract x i) f K k ():=_root_.id rfl
theorem QEa(o t x y u l):Qcu P D (.binOp o t x y u) f K k l=oop P D (.binOp o t x y u) f K k ():=_root_.id rfl
theorem QxI(t ps l):Qcu P D (.build t ps) f K k l=oop P D (.build t ps) f K k ():=_root_.id rfl
theorem QLf(o t x l):Qcu P D (.unOp o t x) f K k l=oop P D (.unOp o t x) f K k ():=_root_.id rfl
theorem QEs(x l):Qcu P D (.nilCheck x) f K k l=oop P D (.nilCheck x) f K k ():=_root_.id rfl
theorem QAI(c x y l):Qcu P D (.pick c x y) f K k l=oop P D (.pick c x y) f K k ():=_root_.id rfl
theorem Qx3(t l):Qcu P D (.alloc t) f K k l=oop P D (.alloc t) f K k ():=_root_.id rfl
theorem QC6(t x lo hi m l):Qcu P D (.slice t x lo hi m) f K k l=oop P D (.slice t x lo hi m) f K k ():=_root_.id rfl
theorem QDr(t x i l):Qcu P D (.index t x i) f K k l=oop P D (.index t x i) f K k ():=_root_.id rfl
theorem QKZ(b xs ts l):Qcu P D (.call ⟨.builtin b,xs,ts⟩) f K k l=oop P D (.call ⟨.builtin b,xs,ts⟩) f K k ():=_root_.id rfl
theorem QNC(s t x l):Qcu P D (.convert s t x) f K k l=oop P D (.convert s t x) f K k ():=_root_.id rfl
theorem QCR(t x l):Qcu P D (.box t x) f K k l=oop P D (.box t x) f K k ():=_root_.id rfl
def Qu3(b c d e:Bool)(D:Orc)(g:FuncId)(K:KS)(vs:List AV)(k:AV→KS→Option β)(_:Lk (vs,k)):Option β:=cond b (Qnq K vs k ()) (cond c (QlU K vs k ()) (cond d (Qj1 D g K vs k ()) (cond e (QhB D g K vs k ()) (Qfw D g K vs k ()))))
theorem QAf(x xs ts l):Qcu P D (.call ⟨.value x,List.toArray xs,ts⟩) f K k l=QrR (ev f x) (fun g caps=>Qu3 (D.s g) (D.q g) (D.w g) (D.v g) D g K (xs.map (ev f)++caps) k ()) ():=_root_.id rfl
theorem s_t(g c d e)(K:KS)(vs)(k:AV→KS→Option β)(l):Qu3 true c d e D g K vs k l=Qnq K vs k ():=_root_.id rfl
theorem s_q(g d e)(K:KS)(vs)(k:AV→KS→Option β)(l):Qu3 false true d e D g K vs k l=QlU K vs k ():=_root_.id rfl
theorem s_f(g)(K:KS)(vs)(k:AV→KS→Option β)(l):Qu3 false false false false D g K vs k l=Qfw D g K vs k ():=_root_.id rfl
theorem s_w(g e)(K:KS)(vs)(k:AV→KS→Option β)(l):Qu3 false false true e D g K vs k l=Qk1 D g K (Qep vs) vs k ():=_root_.id rfl
theorem w_j(g)(K:KS)(js vs)(k:AV→KS→Option β)(l):Qk1 D g K js vs k l=Vf (ndB js) (Qk3 D g K js (QbP js vs) k ()) ():=_root_.id rfl
theorem w_s(g)(K:KS)(js cs)(k:AV→KS→Option β)(l):Qk3 D g K js (some cs) k l=Vf (QhS (X7 K js)) (Jc (D.a g (X7 K js) cs) (fun r=>k (Qa2 js K.length r.1) (Qdb K js r.2)) ()) ():=_root_.id rfl
theorem s_v(g)(K:KS)(vs)(k:AV→KS→Option β)(l):Qu3 false false false true D g K vs k l=QkZ D g K (Qep vs) vs k ():=_root_.id rfl
theorem v_j(g)(K:KS)(js vs)(k:AV→KS→Option β)(l):QkZ D g K js vs k l=Vf (ndB js) (Qk0 D g K js (QbP js vs) k ()) ():=_root_.id rfl
theorem v_s(g)(K:KS)(js cs)(k:AV→KS→Option β)(l):Qk0 D g K js (some cs) k l=Vf (Qr1 (X7 K js)) (Jc (D.m g (X7 K js) cs) (fun x=>k (VC K.length x).1 (JW K js (Qan js)++(VC K.length x).2)) ()) ():=_root_.id rfl
theorem QLR:Qan []=[]:=_root_.id rfl
theorem QNI(j js):Qan (j::js)=none::Qan js:=_root_.id rfl
theorem p_0(vs):QmH [] vs=vs:=by cases vs<;>rfl
theorem p_e(ss):QmH ss []=[]:=by cases ss<;>rfl
theorem p_s(s ss v vs):QmH (s::ss) (v::vs)=Qru s v::QmH ss vs:=_root_.id rfl
theorem p_n(v):Qru .n v=v:=by cases v<;>rfl
theorem p_z(k v):Qru (.z k) v=nic k v:=by cases v<;>rfl
theorem p_a(ns cs):Qru (.a ns) (.agg cs)=.agg (ni ns cs):=_root_.id rfl
theorem QPc(cs):ni [] cs=cs:=by cases cs<;>rfl
theorem QPt(n ns c cs):ni (n::ns) (c::cs)=nic n c::ni ns cs:=_root_.id rfl
theorem QQ8(n):nic (n+1) .nil=.imm (n+1) []:=_root_.id rfl
theorem QOT:nic 0 .nil=.nil:=_root_.id rfl
theorem QQx(n c x):nic n (.i c x)=.i c x:=_root_.id rfl
theorem QQp(n x):nic n (.b x)=.b x:=_root_.id rfl
theorem QP8(n x):nic n (.s x)=.s x:=_root_.id rfl
theorem QQL(n m r):nic n (.imm m r)=.imm m r:=_root_.id rfl
theorem QSk:Qep []=[]:=_root_.id rfl
theorem QQF(c cs):Qep (c::cs)=Ql7 c++Qep cs:=_root_.id rfl
theorem QJo(j):Ql7 (.sl j)=[j]:=_root_.id rfl
theorem QLe(j a b):Ql7 (.ptr j a b)=[j]:=_root_.id rfl
theorem QMr(js j a b):Qcm js (.ptr j a b)=(Qba js j).map fun i=>.ptr i a b:=_root_.id rfl
theorem QO1(K js es):Qdb K js es=JW K js es++Qhc js es:=_root_.id rfl
theorem QP5(es):Qhc [] es=es:=_root_.id rfl
theorem QOx(j js e es):Qhc (j::js) (e::es)=Qhc js es:=_root_.id rfl
theorem QR8(k i):rix [] k i=k+i:=_root_.id rfl
theorem QQo(j js k):rix (j::js) k 0=j:=_root_.id rfl
theorem QOq(j js k):rix (j::js) k 1=rix js k 0:=_root_.id rfl
theorem QQw(j js k):rix (j::js) k 2=rix js k 1:=_root_.id rfl
theorem QQV(j js k):rix (j::js) k 3=rix js k 2:=_root_.id rfl
theorem QRr(j js k):rix (j::js) k 4=rix js k 3:=_root_.id rfl
theorem QSD(j js k):rix (j::js) k 5=rix js k 4:=_root_.id rfl
theorem QSL(j js k):rix (j::js) k 6=rix js k 5:=_root_.id rfl
theorem QQE(j js k):rix (j::js) k 7=rix js k 6:=_root_.id rfl
theorem QOU(j js k):rix (j::js) k 8=rix js k 7:=_root_.id rfl
theorem QQQ(j js k):rix (j::js) k 9=rix js k 8:=_root_.id rfl
theorem QQ0(j js k):rix (j::js) k 10=rix js k 9:=_root_.id rfl
theorem QPv(j js k):rix (j::js) k 11=rix js k 10:=_root_.id rfl
theorem QPY(j js k):rix (j::js) k 12=rix js k 11:=_root_.id rfl
theorem QRs(j js k):rix (j::js) k 13=rix js k 12:=_root_.id rfl
theorem QP6(j js k):rix (j::js) k 14=rix js k 13:=_root_.id rfl
theorem QOI(j js k):rix (j::js) k 15=rix js k 14:=_root_.id rfl
theorem QPn(j js k):rix (j::js) k 16=rix js k 15:=_root_.id rfl
theorem QPN(js k c n):Qa2 js k (.i c n)=.i c n:=by simp[Qa2]
theorem QOJ(js k x):Qa2 js k (.b x)=.b x:=by simp[Qa2]
theorem QQD(js k x):Qa2 js k (.s x)=.s x:=by simp[Qa2]
theorem QPr(js k):Qa2 js k .nil=.nil:=by simp[Qa2]
theorem QSj(js k n r):Qa2 js k (.imm n r)=.imm n r:=by simp[Qa2]
theorem QLB(js k i):Qa2 js k (.sl i)=.sl (rix js k i):=by simp[Qa2]
theorem QJe(js k i a b):Qa2 js k (.ptr i a b)=.ptr (rix js k i) a b:=by simp[Qa2]
theorem QNx(js k cs):Qa2 js k (.agg cs)=.agg (QeJ js k cs):=by simp[Qa2]
theorem QMH(js k cs):Qa2 js k (.tup cs)=.tup (QeJ js k cs):=by simp[Qa2]
theorem QPA(js k):QeJ js k []=[]:=by simp[QeJ]
theorem QRM(js k c cs):QeJ js k (c::cs)=Qa2 js k c::QeJ js k cs:=by simp[QeJ]
theorem QPu(m c n):rok m (.i c n)=true:=_root_.id rfl
theorem QOP(m x):rok m (.b x)=true:=_root_.id rfl
theorem QSs(m x):rok m (.s x)=true:=_root_.id rfl
theorem QSp(m):rok m .nil=true:=_root_.id rfl
theorem QPl(m n r):rok m (.imm n r)=true:=_root_.id rfl
theorem QII(m i):rok m (.sl i)=Nat.ble (i+1) m:=_root_.id rfl
theorem QK0(m i a b):rok m (.ptr i a b)=Nat.ble (i+1) m:=_root_.id rfl
theorem QLG(m cs):rok m (.agg cs)=QmJ m cs:=_root_.id rfl
theorem QHO(m cs):rok m (.tup cs)=QmJ m cs:=_root_.id rfl
theorem QR6(m):QmJ m []=true:=_root_.id rfl
theorem QRn(m c cs):QmJ m (c::cs)=(rok m c&&QmJ m cs):=_root_.id rfl
theorem QPW(c n):clc (.i c n)=true:=_root_.id rfl
theorem QO4(x):clc (.b x)=true:=_root_.id rfl
theorem QIJ(x):clc (.s x)=true:=_root_.id rfl
theorem QPS:clc .nil=true:=_root_.id rfl
theorem QR1(n r):clc (.imm n r)=true:=_root_.id rfl
theorem QGF:QoN []=true:=_root_.id rfl
theorem QMm(c cs):QoN (c::cs)=(clc c&&QoN cs):=_root_.id rfl
theorem QQt:QhS []=true:=_root_.id rfl
theorem QQb(n r K):QhS (some (.lst n r)::K)=QhS K:=_root_.id rfl
theorem QOd(cs K):QhS (some (.box cs)::K)=(QoN cs&&QhS K):=_root_.id rfl
theorem QGi(cs):Ql7 (.agg cs)=Qep cs:=_root_.id rfl
theorem QQk(c n):Ql7 (.i c n)=[]:=_root_.id rfl
theorem QSg(x):Ql7 (.b x)=[]:=_root_.id rfl
theorem QKU(x):Ql7 (.s x)=[]:=_root_.id rfl
theorem QRF:Ql7 .nil=[]:=_root_.id rfl
theorem QOy(n r):Ql7 (.imm n r)=[]:=_root_.id rfl
theorem QSu(g l):Ql7 (.clo g l)=[]:=_root_.id rfl
theorem QOF(js):QbP js []=some []:=_root_.id rfl
theorem QQa(js c cs):QbP js (c::cs)=(Qcm js c).bind fun c'=>(QbP js cs).map (c'::·):=_root_.id rfl
theorem QJR(js j):Qcm js (.sl j)=(Qba js j).map .sl:=_root_.id rfl
theorem QDJ(js cs):Qcm js (.agg cs)=(QbP js cs).map .agg:=_root_.id rfl
theorem QRh(js c n):Qcm js (.i c n)=some (.i c n):=_root_.id rfl
theorem QOv(js x):Qcm js (.b x)=some (.b x):=_root_.id rfl
theorem QNt(js x):Qcm js (.s x)=some (.s x):=_root_.id rfl
theorem QQS(js):Qcm js .nil=some .nil:=_root_.id rfl
theorem QPC(js n r):Qcm js (.imm n r)=some (.imm n r):=_root_.id rfl
theorem QRi(js g):Qcm js (.clo g [])=some (.clo g []):=_root_.id rfl
theorem QjC(x y:Nat):Nat.beq x y=(x==y):=by rw[Bool.eq_iff_iff];simp
theorem QOp(x l j):Qba (x::l) j=sel (x==j) (some 0) ((Qba l j).map (·+1)) ():=by rw[←QjC];rfl
theorem QQj(K):X7 K []=[]:=_root_.id rfl
theorem QSl(K j js):X7 K (j::js)=kg K j::X7 K js:=_root_.id rfl
theorem QOo(K es):JW K [] es=K:=by cases es<;>rfl
theorem QQs(K j js e es):JW K (j::js) (e::es)=JW (K.set j e) js es:=_root_.id rfl
theorem QQG:Qr1 []=true:=_root_.id rfl
theorem QQn(n r K):Qr1 (some (.lst n r)::K)=Qr1 K:=_root_.id rfl
theorem QOV(c n):AV.scal (.i c n)=true:=_root_.id rfl
theorem QPg(x):AV.scal (.b x)=true:=_root_.id rfl
theorem QSa(x):AV.scal (.s x)=true:=_root_.id rfl
theorem QRA(c n):AV.flat (.i c n)=true:=_root_.id rfl
theorem QPG(x):AV.flat (.b x)=true:=_root_.id rfl
theorem QSE(x):AV.flat (.s x)=true:=_root_.id rfl
theorem QPj:AV.flat (.tup [])=true:=_root_.id rfl
theorem QPT:Qx6 .one=true:=_root_.id rfl
theorem w_p(x g j i o)(k:AV→KS→Option β)(l):onp D f K (.ptr j i o) x g k l=onj D f K x g j i o (kg K j) k ():=_root_.id rfl
theorem QQv(x g j i o q r)(k:AV→KS→Option β)(l):onj D f K x g j i o (some (.lst q r)) k l=onx D f K x g j i o q r ((QB r i).drop o) k ():=_root_.id rfl
theorem w_x(x g j i o q r m rs cs)(k:AV→KS→Option β)(l):onx D f K x g j i o q r (.own m rs::cs) k l=Vf x.scal (Jc (D.a g [some (.lst m rs)] [.sl 0,x]) (fun s=>onr D f K j i o q r s k ()) ()) ():=_root_.id rfl
theorem QRz(u us ops d o t p af r)(k:Fr→KS→Option β)(l):Qho P D ops (u::us) (⟨some d,o,t,p,af,none⟩::r) f K k l=oop P D o f K (fun v K'=>QjV v (fun v=>Qho P D ops us r (up f d v) K' k ()) ()) ():=_root_.id rfl
def QCA(d:Option Tmp)(v:AV)(f:Fr)(k:Fr→Option β)(_:Lk (f,k)):Option β:=match d with
 |some d=>QjV v (fun v=>k (up f d v)) ()
 |none=>k f
theorem QBT(d v f)(k:Fr→Option β)(l):QCA (some d) v f k l=QjV v (fun v=>k (up f d v)) ():=_root_.id rfl
theorem QPB(ops d t p y1 p1 a1 e x y2 p2 a2 dst g d' e' ts y3 p3 a3 r)(k:Fr→KS→Option β)(l):Qho P D ops [] (⟨some d,.load t p,y1,p1,a1,none⟩::⟨some e,.move x,y2,p2,a2,none⟩::⟨dst,.call ⟨.value (.func g),List.toArray [.tmp d',.tmp e'],ts⟩,y3,p3,a3,none⟩::r) f K k l =
  Vf (Qx6 (tk P t)&&((d==d')&&((e==e')&&!(d==e)))) (onp D f K (ev f p) (ev (up f d (.sl K.length)) x) g (fun v K'=>QCA dst v (up (up f d (.sl K.length)) e (ev (up f d (.sl K.length)) x)) (fun f=>QfD P D ops r f K' k ()) ()) ()) ():=by rw[←QjC,←QjC,←QjC];cases dst<;>rfl
theorem QJU(a b l):oop P D (.makeInterface a b) f K k l=none:=_root_.id rfl
theorem QJb(a l):oop P D (.panic a) f K k l=none:=_root_.id rfl
theorem QnJ(t len ps l):Qcu P D (.buildSlice t len ps) f K k l=oop P D (.buildSlice t len ps) f K k ():=_root_.id rfl
def Qrl(o:Option (List Int))(K:KS)(j:Nat)(k:AV→KS→Option β)(_:Lk k):Option β:=match o with
 |some xs=>Vf (decide (xs.length<4611686018427387904)) (V2 (K.set j none++[some (.lst 1 ((Xd xs).map cI))]) (fun K'=>k (.sl K.length) K') ()) ()
 |none=>none
def QvV(e:Option Ent)(K:KS)(j:Nat)(k:AV→KS→Option β)(_:Lk k):Option β:=match e with
 |some (.lst 1 rows)=>Qrl (Qcd rows) K j k ()
 |_=>none
theorem QR4(K:KS)(j)(k:AV→KS→Option β)(l):QlU K [.sl j] k l=QvV (kg K j) K j k ():=_root_.id rfl
theorem QJB(r)(K:KS)(j)(k:AV→KS→Option β)(l):QvV (some (.lst 1 r)) K j k l=Qrl (Qcd r) K j k ():=_root_.id rfl
theorem QD4(xs)(K:KS)(j)(k:AV→KS→Option β)(l):Qrl (some xs) K j k l=Vf (decide (xs.length<4611686018427387904)) (V2 (K.set j none++[some (.lst 1 ((Xd xs).map cI))]) (fun K'=>k (.sl K.length) K') ()) ():=_root_.id rfl
def Qr3(o:Option (List Int))(K:KS)(j:Nat)(k:AV→KS→Option β)(_:Lk k):Option β:=match o with
 |some xs=>Vf (decide (xs.length<4611686018427387904)) (V2 (K.set j (some (.lst 1 ((VZ xs).map cI)))) (fun K=>k (.tup []) K) ()) ()
 |none=>none
def QxR(e:Option Ent)(K:KS)(j:Nat)(k:AV→KS→Option β)(_:Lk k):Option β:=match e with
 |some (.lst 1 rows)=>Qr3 (Qcd rows) K j k ()
 |_=>none
theorem QSw(K:KS)(j)(k:AV→KS→Option β)(l):Qnq K [.sl j] k l=QxR (kg K j) K j k ():=_root_.id rfl
theorem QGE(r)(K:KS)(j)(k:AV→KS→Option β)(l):QxR (some (.lst 1 r)) K j k l=Qr3 (Qcd r) K j k ():=_root_.id rfl
theorem QD9(xs)(K:KS)(j)(k:AV→KS→Option β)(l):Qr3 (some xs) K j k l=Vf (decide (xs.length<4611686018427387904)) (V2 (K.set j (some (.lst 1 ((VZ xs).map cI)))) (fun K=>k (.tup []) K) ()) ():=_root_.id rfl
theorem Qrj:∀xs:List Int,Qcd (xs.map fun x=>[.i .i64 x])=some xs
 |[]=>rfl
 |x::xs=>by rw[List.map_cons,Qcd,Qrj xs];rfl
noncomputable def QxB(P:Program)(D:Orc)(a:Ann)(id:Nat)(ops:Array Oper)(o:Option (List Nat))(Q:KT β)(f:Fr)(K:KS)(_:Lk (ops,Q,f)):Option β:=QlE P D a id ops (Qqk ops o) Q f K ()
theorem QyY(id ol l):Vl P D a (.region id (List.toArray ol) true) Q f K l=ofz (lk a.fz id) (lk a.fc id) f K (fun f K=>Qiv P D a id (lk a.av id) (List.toArray ol) Q f K ()) ():=_root_.id rfl
theorem QJs(id ol l):Qiv P D a id none (List.toArray ol) Q f K l=Qo2 P D a id (lk a.eb id) (List.toArray ol) Q f K ():=_root_.id rfl
theorem QGB(id vs ol l):Qiv P D a id (some vs) (List.toArray ol) Q f K l=Qp7 vs P D a id (lk a.ot id) (List.toArray ol) Q f K ():=_root_.id rfl
theorem QLq(id vs ol l):Qp7 vs P D a id none (List.toArray ol) Q f K l=QtO vs P D (List.toArray ol) (lk a.ord id) Q f K ():=_root_.id rfl
theorem QMo(id vs t ops l):Qp7 vs P D a id (some t) ops Q f K l=Qbf vs P D ops t f K (fun f K=>Q .normal f K) ():=_root_.id rfl
theorem QJV(vs ol l):QtO vs P D (List.toArray ol) none Q f K l=ZN vs P D (List.toArray ol) ol f K (fun f K=>Q .normal f K) ():=_root_.id rfl
theorem QHn(id ops l):Qo2 P D a id none ops Q f K l=QfZ P D a id ops (lk a.ot id) Q f K ():=_root_.id rfl
noncomputable def QCw(P:Program)(D:Orc)(a:Ann)(id:Nat)(ol:List Oper)(Q:KT β)(f:Fr)(K:KS)(_:Lk (Q,f)):Option β:=QfZ P D a id (List.toArray ol) (lk a.ot id) Q f K ()
theorem QH6(id ds ol l):Qo2 P D a id (some ds) (List.toArray ol) Q f K l=QCw P D a id (ol.map (XX ds)) Q f K ():=by
 show QfZ P D a id ((List.toArray ol).map (XX ds)) (lk a.ot id) Q f K ()=QfZ P D a id (List.toArray (ol.map (XX ds))) (lk a.ot id) Q f K ();rw[List.map_toArray]
theorem c_M(id o r l):QCw P D a id (o::r) Q f K l=QfZ P D a id (List.toArray (o::r)) (lk a.ot id) Q f K ():=_root_.id rfl
theorem QHF(ds d t y p e g):XX ds ⟨d,.buildSlice t 0 (List.toArray []),y,p,e,g⟩=⟨d,.move (.const (.slice none 0 0)),y,p,e,g⟩:=_root_.id rfl
theorem QIF(ds d t m ps y p e g):XX ds ⟨d,.buildSlice t (m+1) ps,y,p,e,g⟩=⟨d,.buildSlice t (m+1) ps,y,p,e,g⟩:=_root_.id rfl
theorem QGc(ds d s x ts y p e g):XX ds ⟨d,.call ⟨.builtin .append,List.toArray [.tmp s,x],ts⟩,y,p,e,g⟩=cond (ds.contains s) ⟨d,.call ⟨.builtin .append,List.toArray [.const (.slice none 0 0),x],ts⟩,y,p,e,g⟩ ⟨d,.call ⟨.builtin .append,List.toArray [.tmp s,x],ts⟩,y,p,e,g⟩:=_root_.id rfl
theorem QGo(ds d xs ts y p e g):XX ds ⟨d,.call ⟨.builtin .len,xs,ts⟩,y,p,e,g⟩=⟨d,.call ⟨.builtin .len,xs,ts⟩,y,p,e,g⟩:=_root_.id rfl
theorem QBw(ds d v xs ts y p e g):XX ds ⟨d,.call ⟨.value v,xs,ts⟩,y,p,e,g⟩=⟨d,.call ⟨.value v,xs,ts⟩,y,p,e,g⟩:=_root_.id rfl
theorem QyW(ds d x y p e g):XX ds ⟨d,.move x,y,p,e,g⟩=⟨d,.move x,y,p,e,g⟩:=_root_.id rfl
theorem QFz(ds d x y p e g):XX ds ⟨d,.assign x,y,p,e,g⟩=⟨d,.assign x,y,p,e,g⟩:=_root_.id rfl
theorem Qzj(ds d t x y p e g):XX ds ⟨d,.load t x,y,p,e,g⟩=⟨d,.load t x,y,p,e,g⟩:=_root_.id rfl
theorem Qyh(ds d t x z y p e g):XX ds ⟨d,.store t x z,y,p,e,g⟩=⟨d,.store t x z,y,p,e,g⟩:=_root_.id rfl
theorem QLC(ds d t x i y p e g):XX ds ⟨d,.fieldAddr t x i,y,p,e,g⟩=⟨d,.fieldAddr t x i,y,p,e,g⟩:=_root_.id rfl
theorem QJJ(ds d t x i y p e g):XX ds ⟨d,.indexAddr t x i,y,p,e,g⟩=⟨d,.indexAddr t x i,y,p,e,g⟩:=_root_.id rfl
theorem Qyx(ds d t ps y p e g):XX ds ⟨d,.build t ps,y,p,e,g⟩=⟨d,.build t ps,y,p,e,g⟩:=_root_.id rfl
theorem QFx(ds d o t x z u y p e g):XX ds ⟨d,.binOp o t x z u,y,p,e,g⟩=⟨d,.binOp o t x z u,y,p,e,g⟩:=_root_.id rfl
theorem QFu(ds d x y p e g):XX ds ⟨d,.nilCheck x,y,p,e,g⟩=⟨d,.nilCheck x,y,p,e,g⟩:=_root_.id rfl
theorem QIk(ds d o t x y p e g):XX ds ⟨d,.unOp o t x,y,p,e,g⟩=⟨d,.unOp o t x,y,p,e,g⟩:=_root_.id rfl
theorem QFf(ds d t x i y p e g):XX ds ⟨d,.field t x i,y,p,e,g⟩=⟨d,.field t x i,y,p,e,g⟩:=_root_.id rfl
theorem QF3(ds d x i y p e g):XX ds ⟨d,.extract x i,y,p,e,g⟩=⟨d,.extract x i,y,p,e,g⟩:=_root_.id rfl
theorem QEK(ds d t x y p e g):XX ds ⟨d,.box t x,y,p,e,g⟩=⟨d,.box t x,y,p,e,g⟩:=_root_.id rfl
theorem QwY(ds d t y p e g):XX ds ⟨d,.alloc t,y,p,e,g⟩=⟨d,.alloc t,y,p,e,g⟩:=_root_.id rfl
theorem Qx2(ds d t x lo hi mx y p e g):XX ds ⟨d,.slice t x lo hi mx,y,p,e,g⟩=⟨d,.slice t x lo hi mx,y,p,e,g⟩:=_root_.id rfl
theorem Qwc(id ol l):QfZ P D a id (List.toArray ol) none Q f K l=QxB P D a id (List.toArray ol) (lk a.ord id) Q f K ():=_root_.id rfl
theorem QwZ(id ops t l):QfZ P D a id ops (some t) Q f K l=Qdh P D ops t f K (fun f K=>Q .normal f K) ():=_root_.id rfl
noncomputable def Qrr(P:Program)(D:Orc)(ops:Array Oper)(o:Option Oper)(t:OT)(f:Fr)(K:KS)(k:Fr→KS→Option β)(_:Lk (ops,f,k)):Option β:=match o with
 |some o=>QcL P D ops [o] f K (fun f K=>Qdh P D ops t f K k ()) ()
 |none=>none
theorem Qx1(ops)(k:Fr→KS→Option β)(l):Qdh P D ops .done f K k l=k f K:=_root_.id rfl
theorem QK5(ol i t)(k:Fr→KS→Option β)(l):Qdh P D (List.toArray ol) (.one i t) f K k l=Qrr P D (List.toArray ol) (ol[i]?) t f K k ():=by
 have:(List.toArray ol)[i]?=ol[i]?:=by simp
 unfold Qdh Qrr;rw[this];cases ol[i]?<;>rfl
theorem Qyr(ops o t)(k:Fr→KS→Option β)(l):Qrr P D ops (some o) t f K k l=QcL P D ops [o] f K (fun f K=>Qdh P D ops t f K k ()) ():=_root_.id rfl
theorem Qwk(vs ops)(k:Fr→KS→Option β)(l):Qbf vs P D ops .done f K k l=k f K:=_root_.id rfl
noncomputable def Qn4(vs:List Nat)(P:Program)(D:Orc)(ops:Array Oper)(o:Option Oper)(t:OT)(f:Fr)(K:KS)(k:Fr→KS→Option β)(_:Lk (ops,f,k)):Option β:=match o with
 |some o=>ZN vs P D ops [o] f K (fun f K=>Qbf vs P D ops t f K k ()) ()
 |none=>none
theorem QB5(vs ol i t)(k:Fr→KS→Option β)(l):Qbf vs P D (List.toArray ol) (.one i t) f K k l=Qn4 vs P D (List.toArray ol) (ol[i]?) t f K k ():=by
 have:(List.toArray ol)[i]?=ol[i]?:=by simp
 unfold Qbf Qn4;rw[this];cases ol[i]?<;>rfl
theorem QxK(vs ops o t)(k:Fr→KS→Option β)(l):Qn4 vs P D ops (some o) t f K k l=ZN vs P D ops [o] f K (fun f K=>Qbf vs P D ops t f K k ()) ():=_root_.id rfl
theorem QCk(vs ops a b)(k:Fr→KS→Option β)(l):Qbf vs P D ops (.alt a b) f K k l=oeq (Qbf vs P D ops a f K k ()) (Qbf vs P D ops b f K k ()):=_root_.id rfl
theorem QL2(ops a b)(k:Fr→KS→Option β)(l):Qdh P D ops (.alt a b) f K k l=oeq (Qdh P D ops a f K k ()) (Qdh P D ops b f K k ()):=_root_.id rfl
theorem VT(x:Option β):oeq x x=x:=by simp[oeq]
theorem VD(p q:Bool)(x:Option β)(l l':Unit):Vf p (Vf q x l) l'=Vf q (Vf p x l) l':=by cases p<;>cases q<;>rfl
theorem QFp(id ol l):QxB P D a id (List.toArray ol) none Q f K l=QlE P D a id (List.toArray ol) ol Q f K ():=_root_.id rfl
def pk:List Oper→List Nat→List Oper
 |_,[]=>[]
 |ol,i::is=>match ol[i]? with|some o=>o::pk ol is|none=>pk ol is
noncomputable def QBE(P:Program)(D:Orc)(a:Ann)(id:Nat)(ops:Array Oper)(l:List Oper)(Q:KT β)(f:Fr)(K:KS)(_:Lk (ops,Q,f)):Option β:=QlE P D a id ops l Q f K ()
theorem Qnp(ol is):Qqk (List.toArray ol) (some is)=pk ol is:=by
 show is.filterMap (fun i=>(List.toArray ol)[i]?)=_
 induction is with
 |nil=>rfl
 |cons i is ih =>
  rw[pk,List.filterMap_cons];have:(List.toArray ol)[i]?=ol[i]?:=by simp
  rw[this];cases ol[i]? with
  |none=>simpa using ih
  |some o=>rw[←ih]
theorem QCY(id ol is l):QxB P D a id (List.toArray ol) (some is) Q f K l=QBE P D a id (List.toArray ol) (pk ol is) Q f K ():=by
 show QlE P D a id _ (Qqk _ _) Q f K ()=_;rw[Qnp];rfl
noncomputable def QBL(vs:List Nat)(P:Program)(D:Orc)(ops:Array Oper)(l:List Oper)(Q:KT β)(f:Fr)(K:KS)(_:Lk (ops,Q,f)):Option β:=ZN vs P D ops l f K (fun f K=>Q .normal f K) ()
theorem QQ7(vs ol is l):QtO vs P D (List.toArray ol) (some is) Q f K l=QBL vs P D (List.toArray ol) (pk ol is) Q f K ():=by
 show ZN vs P D _ (Qqk _ _) f K _ ()=_;rw[Qnp];rfl
theorem c_K(vs ops o r l):QBL vs P D ops (o::r) Q f K l=ZN vs P D ops (o::r) f K (fun f K=>Q .normal f K) ():=_root_.id rfl
theorem QLu(ol):pk ol []=[]:=_root_.id rfl
def pkO(o:Option Oper)(l:List Oper):List Oper:=match o with|some o=>o::l|none=>l
theorem QKO(ol i is):pk ol (i::is)=pkO (ol[i]?) (pk ol is):=by rw[pk];cases ol[i]?<;>rfl
theorem QK1(o l):pkO (some o) l=o::l:=_root_.id rfl
theorem QEe(id ops o r l):QBE P D a id ops (o::r) Q f K l=QlE P D a id ops (o::r) Q f K ():=_root_.id rfl
theorem QH7{α:Type}(x:α)(l:List α):(x::l)[0]?=some x:=_root_.id rfl
theorem QKc{α:Type}(x:α)(l:List α)(i:Nat):(x::l)[i+1]?=l[i]?:=_root_.id rfl
theorem QMb{α:Type}(l:List α)(i:Nat):(List.toArray l)[i]?=l[i]?:=by simp
theorem QtL{α γ:Type}(x:α)(g:α→Option γ):(some x).bind g=g x:=_root_.id rfl
noncomputable def Qww(P:Program)(D:Orc)(j:Option (Nat×Nat×Nat))(ops:Array Oper)(l:List Oper)(Q:KT β)(f:Fr)(K:KS)(_:Lk (l,Q,f)):Option β :=
 match j with
 |none=>QcL P D ops l f K (fun f K=>Q .normal f K) ()
 |some (s,lo,hi)=>QnK (QcL P D ops l f K (fun f _=>asB (f s)) ()) (fun c=>Q .normal (up (QuB lo hi f) s (.b c)) K) ()
theorem QMd(id ops ol l):QlE P D a id ops ol Q f K l=Qww P D (lk a.jn id) ops ol Q f K ():=_root_.id rfl
theorem Qx9(ops ol l):Qww P D none ops ol Q f K l=QcL P D ops ol f K (fun f K=>Q .normal f K) ():=_root_.id rfl
theorem Qwh(s lo hi ops ol l):Qww P D (some (s,lo,hi)) ops ol Q f K l=QnK (QcL P D ops ol f K (fun f _=>asB (f s)) ()) (fun c=>Q .normal (up (QuB lo hi f) s (.b c)) K) ():=_root_.id rfl
theorem Qzu(o)(k:Bool→Option β)(l):QnK o k l=o.bind k:=_root_.id rfl
theorem QNj(b)(k:Bool→Option β)(l):QnK (Qka b) k l=k b:=_root_.id rfl
theorem Qzi(b x y):cond b (Qka x) (Qka y)=Qka (cond b x y):=by cases b<;>rfl
theorem QR9(b):Qka b=some b:=_root_.id rfl
theorem QKg(a b:Bool):cond a b false=(a&&b):=by cases a<;>rfl
theorem QPK(a b:Bool):cond a true b=(a||b):=by cases a<;>rfl
theorem QGp(a b:Bool):cond a false b=(!a&&b):=by cases a<;>rfl
theorem QHN(b):asB (.b b)=Qka b:=_root_.id rfl
def QCe(D:Orc)(t:Nat)(z:List Nat)(la:Option LA)(Q:KT β)(f:Fr)(K:KS)(_:Lk Q):Option β :=
 match la with
 |some la=>Qd1 z la.sl la.rg f K (fun f K=>Jc (D.l t f K) (fun o=>Q o.1 o.2.1 o.2.2) ()) ()
 |none=>none
theorem QDS(c l):Vl P D a (.loop c) Q f K l=QCe D (tag c) a.ak (lk a.lp (tag c)) Q f K ():=_root_.id rfl
theorem QsT(t z la l):QCe D t z (some la) Q f K l=Qd1 z la.sl la.rg f K (fun f K=>Jc (D.l t f K) (fun o=>Q o.1 o.2.1 o.2.2) ()) ():=_root_.id rfl
theorem QiP(id o d):tag (.region id o d)=id:=_root_.id rfl
theorem QuX(x y):tag (.seq x y)=tag x:=_root_.id rfl
theorem QrD(c x y):tag (.cond c x y)=tag x:=_root_.id rfl
theorem QpA(i x):tag (.block i x)=tag x:=_root_.id rfl
theorem Qrs(x):tag (.loop x)=tag x:=_root_.id rfl
theorem Qwv(k:Fr→KS→Option β)(Q f K):QoY k Q .normal f K=k f K:=_root_.id rfl
theorem Qw3(k:Fr→KS→Option β)(Q f K):QoY k Q .ret f K=Q .ret f K:=_root_.id rfl
theorem QvA(k:Fr→KS→Option β)(Q id f K):QoY k Q (.exit id) f K=Q (.exit id) f K:=_root_.id rfl
theorem Qz8(i f K):Que i Q .normal f K=Q .normal f K:=_root_.id rfl
theorem Qy0(i f K):Que i Q .ret f K=Q .ret f K:=_root_.id rfl
theorem QAu(i j f K):Que i Q (.exit j) f K=sel (j==i) (Q .normal f K) (Q (.exit j) f K) ():=_root_.id rfl
theorem QHH(ops)(k:Fr→KS→Option β)(l):QcL P D ops [] f K k l=k f K:=_root_.id rfl
theorem QC4(ops r)(k:Fr→KS→Option β)(d op t pos after l):QcL P D ops (⟨some d,op,t,pos,after,none⟩::r) f K k l=oop P D op f K (fun v K'=>QjV v (fun v=>QcL P D ops r (up f d v) K' k ()) ()) ():=_root_.id rfl
theorem QyT(ops r)(k:Fr→KS→Option β)(op t pos after l):QcL P D ops (⟨none,op,t,pos,after,none⟩::r) f K k l=oop P D op f K (fun v K'=>QcL P D ops r f K' k ()) ():=_root_.id rfl
theorem c_g(ops r)(k:Fr→KS→Option β)(d op t pos after j want l):QcL P D ops (⟨some d,op,t,pos,after,some (j,want)⟩::r) f K k l =
  ogd ((ops[j]?).bind (·.dst)) want f (fun f=>oop P D op f K (fun v K'=>QjV v (fun v=>QcL P D ops r (up f d v) K' k ()) ()) ()) (fun f=>QjV (.tup []) (fun v=>QcL P D ops r (up f d v) K k ()) ()) ():=_root_.id rfl
theorem QSi(ops r)(k:Fr→KS→Option β)(op t pos after j want l):QcL P D ops (⟨none,op,t,pos,after,some (j,want)⟩::r) f K k l =
  ogd ((ops[j]?).bind (·.dst)) want f (fun f=>oop P D op f K (fun v K'=>QcL P D ops r f K' k ()) ()) (fun f=>QcL P D ops r f K k ()) ():=_root_.id rfl
def QzZ(v:AV)(d:Nat)(want:Bool)(f:Fr)(yes no:Fr→Option β)(_:Lk (f,yes,no)):Option β :=
 match v with
 |.b x=>cond x (cond want (yes (up f d (.b true))) (no (up f d (.b true)))) (cond want (no (up f d (.b false))) (yes (up f d (.b false))))
 |.tup []=>no f
 |_=>none
theorem QPk(d want)(yes no:Fr→Option β)(l):ogd (some d) want f yes no l=QzZ (f d) d want f yes no ():=by
 cases want<;>rfl
theorem QBV(b d)(yes no:Fr→Option β)(l):QzZ (.b b) d true f yes no l=cond b (yes (up f d (.b true))) (no (up f d (.b false))):=_root_.id rfl
theorem QCB(b d)(yes no:Fr→Option β)(l):QzZ (.b b) d false f yes no l=cond b (no (up f d (.b true))) (yes (up f d (.b false))):=_root_.id rfl
theorem QCf(d w)(yes no:Fr→Option β)(l):QzZ (.tup []) d w f yes no l=no f:=_root_.id rfl
theorem QGj(x l):oop P D (.move x) f K k l=k (ev f x) K:=_root_.id rfl
theorem QxT(x l):oop P D (.assign x) f K k l=k (ev f x) K:=_root_.id rfl
theorem QEH(c x y l):oop P D (.pick c x y) f K k l=Qlq (ev f c) (ev f x) (ev f y) (fun v=>k v K) ():=_root_.id rfl
theorem Qy3(t l):oop P D (.alloc t) f K k l=QlM K (tzc P t) k ():=_root_.id rfl
theorem QHk(t v l):oop P D (.box t v) f K k l=Qro K (ev f v) k ():=_root_.id rfl
theorem QyR(t ps l):oop P D (.build t (List.toArray ps)) f K k l=QjW K (tbd P t) (ps.map fun p=>(p.1,ev f p.2)) (fun v=>k v K) ():=_root_.id rfl
theorem QvU(t len ps l):oop P D (.buildSlice t len (List.toArray ps)) f K k l=QgA (zB (Qc8 P t)) (Qc8 P t) K (tse P t) len (ps.map fun p=>(p.1,ev f p.2)) k ():=_root_.id rfl
theorem QFo(t x l):oop P D (.load t x) f K k l=QfH (tk P t) (X9 K (ev f x)) (fun v=>k v K) ():=_root_.id rfl
theorem QAH(t p v l):oop P D (.store t p v) f K k l=Qif (flT P t) (slz P 9 t) K (tk P t) (ev f p) (ev f v) (fun K=>k .u K) ():=_root_.id rfl
theorem QGy(op t x y s l):oop P D (.binOp op t x (.tmp y) s) f K k l=JL (Qjl P t) op (ev f x) (ev f (.tmp y)) (fun v=>k v K) ():=_root_.id rfl
theorem QES(op t x c n s l):oop P D (.binOp op t x (.const (.int c n)) s) f K k l=JL (Qjl P t) op (ev f x) (ev f (.const (.int c n))) (fun v=>k v K) ():=_root_.id rfl
theorem QFm(op t x c s l):oop P D (.binOp op t x (.const (.bool c)) s) f K k l=JL (Qjl P t) op (ev f x) (ev f (.const (.bool c))) (fun v=>k v K) ():=_root_.id rfl
theorem QCZ(op t x c s l):oop P D (.binOp op t x (.const (.string c)) s) f K k l=JL (Qjl P t) op (ev f x) (ev f (.const (.string c))) (fun v=>k v K) ():=_root_.id rfl
theorem QEh(op t x s l)(h:Qnn P t=true):oop P D (.binOp op t x (.const (.slice none 0 0)) s) f K k l=QjO op (ev f x) (fun v=>k v K) ():=by simp[oop,Qbh,h]
theorem QJ8(g caps l):oop P D (.makeFunc (.func g) (List.toArray []) (List.toArray caps)) f K k l=k (.clo g (caps.map (ev f))) K:=by simp[oop]
theorem QH9(s t x l)(h:bsl P s=true):oop P D (.convert s t x) f K k l=QqD K (ti P t) (ev f x) (fun v=>k v K) ():=by simp[oop,h]
theorem QMF(s t x l)(h:bsl P s=false)(h2:tok P s=true):oop P D (.convert s t x) f K k l=Qpp (ti P t) (ev f x) (fun v=>k v K) ():=by simp[oop,h,h2]
theorem QLS(t x lo hi l):oop P D (.slice t x lo hi none) f K k l=Qg4 (ti P t) (ev f x) (lo.map (ev f)) (hi.map (ev f)) (fun v=>k v K) ():=_root_.id rfl
theorem QMh(t x i l):oop P D (.index t x i) f K k l=QxL (ti P t) (ev f x) (ev f i) (fun v=>k v K) ():=_root_.id rfl
theorem QGT(x l):oop P D (.nilCheck x) f K k l=QwH K (ev f x) (fun v=>k v K) ():=_root_.id rfl
theorem QPL(op t x l):oop P D (.unOp op t x) f K k l=oun op (ev f x) (fun v=>k v K) ():=_root_.id rfl
theorem QPH(t x fl l):oop P D (.fieldAddr t x fl) f K k l=Qvk K (ev f x) (tfo P t fl) (fun v=>k v K) ():=_root_.id rfl
theorem QO6(t x i l):oop P D (.indexAddr t x i) f K k l=Qo7 K (ti P t) (ev f x) (ev f i) (fun v=>k v K) ():=_root_.id rfl
theorem QNU(t x i l):oop P D (.field t x i) f K k l=QxG (tfo P t i) (ev f x) (fun v=>k v K) ():=_root_.id rfl
theorem QJM(x i l):oop P D (.extract x i) f K k l=QwA (ev f x) i (fun v=>k v K) ():=_root_.id rfl
theorem QJr(x t ts l):oop P D (.call ⟨.builtin .len,List.toArray [x],List.toArray (t::ts)⟩) f K k l=Qp2 K (ti P t) (ev f x) (fun v=>k v K) ():=_root_.id rfl
theorem QGu(x y ts l):oop P D (.call ⟨.builtin .min,List.toArray [x,y],ts⟩) f K k l=Qxj (ev f x) (ev f y) (fun v=>k v K) ():=_root_.id rfl
theorem QKl(x y ts l):oop P D (.call ⟨.builtin .max,List.toArray [x,y],ts⟩) f K k l=QwW (ev f x) (ev f y) (fun v=>k v K) ():=_root_.id rfl
theorem QEQ(g args ts l):oop P D (.call ⟨.value g,List.toArray args,ts⟩) f K k l=QrR (ev f g) (fun g caps=>Qfw D g K (args.map (ev f)++caps) k ()) ():=_root_.id rfl
theorem QKR(g caps)(k:FuncId→List AV→Option β)(l):QrR (.clo g caps) k l=k g caps:=_root_.id rfl
theorem QAb(g vs l):Qfw D g K vs k l=Jc (D.p g (QmH (D.z g) (Qcz K vs))) (fun x=>k (VC K.length x).1 (K++(VC K.length x).2)) ():=_root_.id rfl
end
def QDs{β:Type}(o:Option Bool)(k:Bool→Option β)(_:Lk k):Option β:=match o with|some b=>k b|none=>none
section
variable{β:Type}{k:AV→Option β}{c:IntKind}{a b:Int}{te:Option (List CK)}
theorem QDB(K j i o l):QwH K (.ptr j i o) k l=Qsl (kg K j) (.ptr j i o) k ():=_root_.id rfl
theorem QC5(e x l):Qsl (some e) x k l=k x:=_root_.id rfl
theorem QD3(K n r i o l):QwH K (.iptr n r i o) k l=k (.iptr n r i o):=_root_.id rfl
theorem QCg(l):JL te .and (.i c a) (.i c b) k l=k (.i c (Qet .and c a b)):=by simp[JL,QfJ]
theorem QM2(l):JL te .or (.i c a) (.i c b) k l=k (.i c (Qet .or c a b)):=by simp[JL,QfJ]
theorem QG1(l):JL te .xor (.i c a) (.i c b) k l=k (.i c (Qet .xor c a b)):=by simp[JL,QfJ]
theorem QIp(d l):JL te .shl (.i c a) (.i d b) k l=Vf (decide (0≤b)) (k (.i c (shI .shl c a b))) ():=by simp[JL,QfJ]
theorem QH4(d l):JL te .shr (.i c a) (.i d b) k l=Vf (decide (0≤b)) (k (.i c (shI .shr c a b))) ():=by simp[JL,QfJ]
theorem QJz(l):JL te .add (.i c a) (.i c b) k l=k (.i c (c.wrap (a+b))):=by simp[JL,QfJ]
theorem QKv(l):JL te .sub (.i c a) (.i c b) k l=k (.i c (c.wrap (a-b))):=by simp[JL,QfJ]
theorem QMw(l):JL te .mul (.i c a) (.i c b) k l=k (.i c (c.wrap (a*b))):=by simp[JL,QfJ]
theorem QNG(l):JL te .quo (.i c a) (.i c b) k l=Vf (!decide (b=0)) (k (.i c (c.wrap (a.tdiv b)))) ():=by simp[JL,QfJ]
theorem QIl(l):JL te .rem (.i c a) (.i c b) k l=Vf (!decide (b=0)) (k (.i c (a.tmod b))) ():=by simp[JL,QfJ]
theorem QNS(l):JL te .eql (.i c a) (.i c b) k l=k (.b (decide (a=b))):=by simp[JL,QfJ]
theorem QKy(l):JL te .neq (.i c a) (.i c b) k l=k (.b (!decide (a=b))):=by simp[JL,QfJ]
theorem QM8(l):JL te .lss (.i c a) (.i c b) k l=k (.b (decide (a<b))):=by simp[JL,QfJ]
theorem QLr(l):JL te .leq (.i c a) (.i c b) k l=k (.b (decide (a≤b))):=by simp[JL,QfJ]
theorem QK3(l):JL te .gtr (.i c a) (.i c b) k l=k (.b (decide (b<a))):=by simp[JL,QfJ]
theorem QKH(l):JL te .geq (.i c a) (.i c b) k l=k (.b (decide (b≤a))):=by simp[JL,QfJ]
theorem QNp(ks xs ys l):JL (some ks) .eql (.agg xs) (.agg ys) k l=QDs (QH ks xs ys) (fun b=>k (.b b)) ():=_root_.id rfl
theorem QGV(ks xs ys l):JL (some ks) .neq (.agg xs) (.agg ys) k l=QDs (QH ks xs ys) (fun b=>k (.b (!b))) ():=_root_.id rfl
theorem QH0(x y l):JL (some [.t]) .eql (.b x) (.b y) k l=k (.b (decide (x=y))):=_root_.id rfl
theorem QMJ(x y l):JL (some [.t]) .neq (.b x) (.b y) k l=k (.b (!decide (x=y))):=_root_.id rfl
theorem QJ5(b)(k:Bool→Option β)(l):QDs (some b) k l=k b:=_root_.id rfl
theorem QGa(x y l):JL te .add (.s x) (.s y) k l=Vf (QMT x y) (k (.s (QNi x y))) ():=by simp[JL,QMT,QNi]
theorem QC9(x y l):JL te .eql (.s x) (.s y) k l=k (.b (decide (x=y))):=by simp[JL]
theorem QEX(x y l):JL te .neq (.s x) (.s y) k l=k (.b (!decide (x=y))):=by simp[JL]
def QBC(o:Option AV)(k:AV→Option β)(_:Lk k):Option β:=match o with|some c=>k c|none=>none
theorem QHZ(cs i l):QwA (.tup cs) i k l=QBC (cs[i]?) k ():=_root_.id rfl
theorem QE9(c l):QBC (some c) k l=k c:=_root_.id rfl
theorem QJ4:QH [] [] []=some true:=_root_.id rfl
theorem QNr(ks c x y xs ys):QH (.i::ks) (.i c x::xs) (.i c y::ys)=(QH ks xs ys).map (decide (x=y)&&·):=by simp[QH]
theorem QML(ks x y xs ys):QH (.b::ks) (.b x::xs) (.b y::ys)=(QH ks xs ys).map (decide (x=y)&&·):=_root_.id rfl
theorem QIz(ks x y xs ys):QH (.s::ks) (.s x::xs) (.s y::ys)=(QH ks xs ys).map (decide (x=y)&&·):=_root_.id rfl
theorem QGS(x l):oun .not (.b x) k l=k (.b (!x)):=_root_.id rfl
theorem QMq(l):oun .neg (.i c a) k l=k (.i c (c.wrap (-a))):=_root_.id rfl
theorem QAz(x y:AV)(l):Qlq (.b true) x y k l=k x:=_root_.id rfl
theorem Qy1(x y:AV)(l):Qlq (.b false) x y k l=k y:=_root_.id rfl
theorem QAg(x y:Bool)(c:Bool)(l):Qlq (.b c) (.b x) (.b y) k l=k (.b (cond c x y)):=by cases c<;>rfl
theorem QG5(l):Qxj (.i c a) (.i c b) k l=k (.i c (if b<a then b else a)):=_root_.id rfl
theorem QLp(l):QwW (.i c a) (.i c b) k l=k (.i c (if a<b then b else a)):=_root_.id rfl
theorem QHD(e:Option Ent)(K:KS):kg (e::K) 0=e:=_root_.id rfl
theorem QLU(e:Option Ent)(K:KS)(j:Nat):kg (e::K) (j+1)=kg K j:=_root_.id rfl
theorem QEY{α:Type}(e e':α)(K:List α):(e::K).set 0 e'=e'::K:=_root_.id rfl
theorem QEL{α:Type}(e e':α)(K:List α)(j:Nat):(e::K).set (j+1) e'=e::K.set j e':=_root_.id rfl
theorem QKh{α:Type}(e:α)(K L:List α):(e::K)++L=e::(K++L):=_root_.id rfl
theorem QEV{α:Type}(L:List α):[]++L=L:=_root_.id rfl
theorem QF1{α:Type}:([]:List α).length=0:=_root_.id rfl
theorem QE3{α:Type}(e:α)(K:List α):(e::K).length=K.length+1:=_root_.id rfl
theorem Qzw{α:Type}(K:List α):K.drop 0=K:=_root_.id rfl
theorem QBk{α:Type}(e:α)(K:List α)(n:Nat):(e::K).drop (n+1)=K.drop n:=_root_.id rfl
theorem QBA{α:Type}(K:List α):K.take 0=[]:=by simp
theorem Qzr{α:Type}(e:α)(K:List α)(n:Nat):(e::K).take (n+1)=e::K.take n:=_root_.id rfl
def lnR(r:List (List AV)):Int:=r.length
theorem QyL(K e m n r l):Qp2 K (.sl e m) (.imm n r) k l=k (.i .i64 (lnR r)):=_root_.id rfl
theorem QHI(n r)(k:AV→Option β)(l):QjO .eql (.imm n r) k l=Qky r.isEmpty (k (.b true)) (k (.b false)):=_root_.id rfl
theorem QDa(n r)(k:AV→Option β)(l):QjO .neq (.imm n r) k l=Qky r.isEmpty (k (.b false)) (k (.b true)):=_root_.id rfl
theorem QF0(x:Option β)(b):Qky b x x=x:=by cases b<;>simp[Qky,oeq]
theorem QFg(n:Nat)(R:List (List AV))(b:Nat)(m):Qky R.isEmpty (some (AV.own n [])) (Vf (decide (R.length*b≤140737488355328)) (some (AV.own n R)) m)=Vf (decide (R.length*b≤140737488355328)) (some (AV.own n R)) ():=by
 cases R with
 |nil=>simp[Qky,oeq,Vf]
 |cons r R=>rfl
theorem QyI(K e m l):Qp2 K (.sl e m) .nil k l=k (.i .i64 0):=_root_.id rfl
def QCz(e:Option Ent)(k:AV→Option β)(_:Lk k):Option β:=match e with|some e=>k (.i .i64 (lnR e.rows))|none=>none
theorem QDu(c d a l):Qpp (.int c) (.i d a) k l=k (.i c (c.wrap a)):=_root_.id rfl
def Qrn(o:Option (List UInt8))(k:AV→Option β)(_:Lk k):Option β:=match o with|some s=>k (.s s)|none=>none
def Qyn(e:Option Ent)(k:AV→Option β)(_:Lk k):Option β:=match e with|some (.lst 1 rows)=>Qrn (QbE rows) k ()|_=>none
theorem QJt(K j l):QqD K .str (.sl j) k l=Qyn (kg K j) k ():=_root_.id rfl
theorem QDf(r l):Qyn (some (.lst 1 r)) k l=Qrn (QbE r) k ():=_root_.id rfl
theorem QGd(s l):Qrn (some s) k l=k (.s s):=_root_.id rfl
theorem QF7:QbE []=some []:=_root_.id rfl
theorem QAD(n r):QbE ([.i .u8 n]::r)=(QbE r).map (UInt8.ofNat n.toNat::·):=by
 show(match QoL [.i .u8 n],QbE r with|some x,some xs=>some (x::xs)|_,_=>none)=_
 simp only[QoL];cases QbE r<;>rfl
theorem QzQ(K e m j l):Qp2 K (.sl e m) (.sl j) k l=QCz (kg K j) k ():=_root_.id rfl
theorem Qvy(n r l):QCz (some (.lst n r)) k l=k (.i .i64 (lnR r)):=_root_.id rfl
theorem Qwo(K x l):Qp2 K .str (.s x) k l=k (.i .i64 (ln x)):=_root_.id rfl
theorem QFa(K n r i p o t l):Qvk K (.iptr n r i p) (some (o,t)) k l=k (.iptr n r i (p+o)):=_root_.id rfl
def QBW(e:Option Ent)(v:AV)(k:AV→Option β)(_:Lk k):Option β:=match e with|some _=>k v|none=>none
theorem QKF(K j i p o t l):Qvk K (.ptr j i p) (some (o,t)) k l=QBW (kg K j) (.ptr j i (p+o)) k ():=_root_.id rfl
theorem QEj(e v l):QBW (some e) v k l=k v:=_root_.id rfl
theorem QDQ(K e m r kd i l):Qo7 K (.sl e m) (.imm m r) (.i kd i) k l=Vf (inb r i) (k (.iptr m r i.toNat 0)) ():=by simp[Qo7]
def Qv1(e:Option Ent)(m:Nat)(j:Nat)(i:Int)(k:AV→Option β)(_:Lk k):Option β:=match e with|some e=>if m=e.n then Vf (inb e.rows i) (k (.ptr j i.toNat 0)) ()else none|none=>none
theorem QHQ(K e m j kd i l):Qo7 K (.sl e m) (.sl j) (.i kd i) k l=Qv1 (kg K j) m j i k ():=_root_.id rfl
theorem QCN(m r j i l):Qv1 (some (.lst m r)) m j i k l=Vf (inb r i) (k (.ptr j i.toNat 0)) ():=by simp[Qv1,Ent.n,Ent.rows]
def QCd(e:Option Ent)(n:Nat)(i:Int)(p:AV)(k:AV→Option β)(_:Lk k):Option β:=match e with|some _=>Vf (Qub n i) (k p) ()|none=>none
theorem QFn(K e n m j r o kd i l):Qo7 K (.arr n e m) (.ptr j r o) (.i kd i) k l=QCd (kg K j) n i (.ptr j r (o+i.toNat*m)) k ():=_root_.id rfl
theorem QEt(e n i p l):QCd (some e) n i p k l=Vf (Qub n i) (k p) ():=_root_.id rfl
theorem QD0(e m r h c l):Qg4 (.sl e m) (.imm m r) none (some (.i c h)) k l=Vf (slB 0 h (lnR r)) (k (.imm m (cut r 0 h))) ():=by simp[Qg4,bd,lnR]
theorem QFs(e m r h c l):Qg4 (.sl e m) (.imm m r) (some (.i c h)) none k l=Vf (slB h (lnR r) (lnR r)) (k (.imm m (cut r h (lnR r)))) ():=by simp[Qg4,bd,lnR]
theorem QFG(e m r h h' c c' l):Qg4 (.sl e m) (.imm m r) (some (.i c h)) (some (.i c' h')) k l=Vf (slB h h' (lnR r)) (k (.imm m (cut r h h'))) ():=by simp[Qg4,bd,lnR]
theorem QCT(r h c l):Qg4 .str (.s r) none (some (.i c h)) k l=Vf (slB 0 h (ln r)) (k (.s (cut r 0 h))) ():=by simp[Qg4,bd,ln]
theorem QDd(r h c l):Qg4 .str (.s r) (some (.i c h)) none k l=Vf (slB h (ln r) (ln r)) (k (.s (cut r h (ln r)))) ():=by simp[Qg4,bd,ln]
theorem QEP(r h h' c c' l):Qg4 .str (.s r) (some (.i c h)) (some (.i c' h')) k l=Vf (slB h h' (ln r)) (k (.s (cut r h h'))) ():=by simp[Qg4,bd,ln]
theorem QNA(r i c l):QxL .str (.s r) (.i c i) k l=Vf (inb r i) (k (.i .u8 ((gt r i).toNat:Int))) ():=_root_.id rfl
class Strs (cs:List AV) (xs:outParam (List (List UInt8))):Prop where
 eq:cs=xs.map AV.s
instance:Strs [] []:=⟨rfl⟩
instance(x cs xs)[h:Strs cs xs]:Strs (.s x::cs) (x::xs):=⟨by rw[h.eq];rfl⟩
theorem QFe{cs:List AV}{xs:List (List UInt8)}[h:Strs cs xs](i:Int)(hi:Qub cs.length i=true)(l):QfH .one (cs.drop (0+i.toNat*1)) k l=k (.s (gt xs i)):=by
 have hcs:=h.eq;subst hcs;simp[Qub]at hi;have h2:i.toNat<xs.length:=by omega
 rw[Nat.zero_add,Nat.mul_one,List.drop_eq_getElem_cons (by simpa using h2)]
 simp[QfH,gt,List.getD_eq_getElem?_getD,h2]
theorem QOm(K n r i o):X9 K (.iptr n r i o)=((QB r i).drop o).map ld:=_root_.id rfl
def QrG(e:Option Ent)(i o:Nat):List AV:=match e with|some (.box cs)=>if i=0 then cs.drop o else[]|some (.lst _ rows)=>((QB rows i).drop o).map ld|none=>[]
theorem m_c(K j i o):X9 K (.ptr j i o)=QrG (kg K j) i o:=_root_.id rfl
theorem QE7(cs o):QrG (some (.box cs)) 0 o=cs.drop o:=_root_.id rfl
theorem QCX(n r i o):QrG (some (.lst n r)) i o=((QB r i).drop o).map ld:=_root_.id rfl
theorem QFL{α γ:Type}(g:α→γ):[].map g=[]:=_root_.id rfl
theorem QE4{α γ:Type}(g:α→γ)(x l):(x::l).map g=g x::l.map g:=_root_.id rfl
theorem QJG(x):ld (.b x)=.b x:=_root_.id rfl
theorem QID(c x):ld (.i c x)=.i c x:=_root_.id rfl
theorem QKq(x):ld (.s x)=.s x:=_root_.id rfl
theorem QyZ(n x):ld (.imm n x)=.imm n x:=_root_.id rfl
theorem QA9:ld .nil=.nil:=_root_.id rfl
theorem QBu(n x):ld (.own n x)=.u:=_root_.id rfl
theorem QKm(o t cs l):QxG (some (o,t)) (.agg cs) k l=QfH t (cs.drop o) k ():=_root_.id rfl
theorem QzF(c cs l):QfH .one (c::cs) k l=k c:=_root_.id rfl
def QyK(b:Bool)(v:AV)(k:AV→Option β)(_:Lk k):Option β:=cond b (k v) none
theorem QyU(m cs l):QfH (.agg m) cs k l=QyK (Nat.blt 0 m&&Nat.ble m cs.length) (.agg (cs.take m)) k () :=
 Qce (by simp only[Bool.and_eq_true,QkY,QiC]) _ _
theorem QzI(v l):QyK true v k l=k v:=_root_.id rfl
theorem QAj(K cs)(k:AV→KS→Option β)(l):QlM K (some cs) k l=V2 (K++[some (.box cs)]) (fun K'=>k (.ptr K.length 0 0) K') ():=_root_.id rfl
def okB(b:Bool)(x:Option β)(_:Lk x):Option β:=cond b x none
theorem QOz(x:Option β)(l):okB true x l=x:=_root_.id rfl
theorem QF8(K cs)(k:AV→KS→Option β)(l):Qro K (.agg cs) k l=okB (cs.all (Zx K)) (V2 (K++[some (.box cs)]) (fun K'=>k (.ptr K.length 0 0) K') ()) ():=by
 simp only[Qro,okB];cases cs.all (Zx K)<;>rfl
theorem QEx(K c x)(k:AV→KS→Option β)(l):Qro K (.i c x) k l=V2 (K++[some (.box [.i c x])]) (fun K'=>k (.ptr K.length 0 0) K') ():=_root_.id rfl
theorem QCU{α:Type}(p:α→Bool):[].all p=true:=_root_.id rfl
theorem QDR{α:Type}(p:α→Bool)(x l):(x::l).all p=(p x&&l.all p):=_root_.id rfl
theorem QL7(K x):Zx K (.b x)=true:=_root_.id rfl
theorem QKM(K c x):Zx K (.i c x)=true:=_root_.id rfl
theorem QKt(K x):Zx K (.s x)=true:=_root_.id rfl
theorem QG7(K):Zx K .nil=true:=_root_.id rfl
theorem QzH(K n r):Zx K (.imm n r)=true:=_root_.id rfl
theorem Qy2(K n r):Zx K (.clo n r)=true:=_root_.id rfl
theorem QFr(K j):Zx K (.sl j)=(kg K j).isSome:=_root_.id rfl
theorem QBv(K j i o):Zx K (.ptr j i o)=(kg K j).isSome:=_root_.id rfl
theorem QR0{α:Type}(x:α):(some x).isSome=true:=_root_.id rfl
theorem QMp(x):AV.closed (.b x)=true:=_root_.id rfl
theorem QHW(c x):AV.closed (.i c x)=true:=_root_.id rfl
theorem QN4(x):AV.closed (.s x)=true:=_root_.id rfl
theorem QGY:AV.closed .nil=true:=_root_.id rfl
theorem Qzp(n r):AV.closed (.imm n r)=true:=_root_.id rfl
theorem QEC(x:Bool):(false&&x)=false:=_root_.id rfl
theorem QMi(x:Bool):(true&&x)=x:=_root_.id rfl
def QgC(fl:Bool)(ns:List Nat)(K:KS)(e:Option Ent)(t:TK)(j i o:Nat)(v:AV)(k:KS→Option β)(_:Lk k):Option β :=
 match e with
  |some (.box cs)=>if i=0 then Qg6 cs o t v (Zx K) (fun cs=>V2 (K.set j (some (.box cs))) k ()) ()else none
  |some (.lst n rows)=>if(ZU v).all clq=true then(if i<rows.length then Qg6 (QB rows i) o t v AV.closed (fun r=>V2 (K.set j (some (.lst n (rows.set i r)))) k ()) ()else none)else if fl=false then Qh5 ns K t j i o n rows v k ()else none
  |none=>none
theorem QzU(fl ns K t j i o v)(k:KS→Option β)(l):Qif fl ns K t (.ptr j i o) v k l=QgC fl ns K (kg K j) t j i o v k ():=by
 show(match kg K j with|some (.lst n rows)=>_|_=>_)=_
 cases h:kg K j with
 |none=>simp[QgC,Qjv,h]
 |some e=>cases e<;>simp[QgC,Qjv,h]
theorem Qv9(fl ns K cs t j o v)(k:KS→Option β)(l):QgC fl ns K (some (.box cs)) t j 0 o v k l=Qg6 cs o t v (Zx K) (fun cs=>V2 (K.set j (some (.box cs))) k ()) ():=_root_.id rfl
def QkV(b fl:Bool)(ns:List Nat)(K:KS)(n:Nat)(r:List (List AV))(t:TK)(j i o:Nat)(v:AV)(k:KS→Option β)(_:Lk k):Option β :=
 cond b (if i<r.length then Qg6 (QB r i) o t v AV.closed (fun r'=>V2 (K.set j (some (.lst n (r.set i r')))) k ()) ()else none) (if fl=false then Qh5 ns K t j i o n r v k ()else none)
theorem Qvv(fl ns K n r t j i o v)(k:KS→Option β)(l):QgC fl ns K (some (.lst n r)) t j i o v k l=QkV ((ZU v).all clq) fl ns K n r t j i o v k ():=by
 simp only[QgC,QkV];cases (ZU v).all clq<;>rfl
theorem QLm(ds):ZU (.agg ds)=ds:=_root_.id rfl
theorem QJ0(c x):ZU (.i c x)=[.i c x]:=_root_.id rfl
theorem QG4(x):ZU (.b x)=[.b x]:=_root_.id rfl
theorem QLc(x):ZU (.s x)=[.s x]:=_root_.id rfl
theorem QHw:ZU .nil=[.nil]:=_root_.id rfl
theorem QOe(n r):ZU (.imm n r)=[.imm n r]:=_root_.id rfl
theorem QHd(j):ZU (.sl j)=[.sl j]:=_root_.id rfl
theorem QFW(j):clq (.sl j)=false:=_root_.id rfl
theorem QJY(x):clq (.b x)=true:=_root_.id rfl
theorem QJ2(c x):clq (.i c x)=true:=_root_.id rfl
theorem QLK(x):clq (.s x)=true:=_root_.id rfl
theorem QKB:clq .nil=false:=_root_.id rfl
theorem QJI(n r):clq (.imm n r)=true:=_root_.id rfl
theorem QQJ(cs):nz [] cs=cs:=by cases cs<;>rfl
theorem QQN(ns):nz ns []=[]:=by cases ns<;>rfl
theorem QOK(n ns c cs):nz (n::ns) (c::cs)=nzc n c::nz ns cs:=_root_.id rfl
theorem QRb(n x):nzc n (.b x)=.b x:=_root_.id rfl
theorem QPX(n c x):nzc n (.i c x)=.i c x:=_root_.id rfl
theorem QPx(n x):nzc n (.s x)=.s x:=_root_.id rfl
theorem QQU(n):nzc n .nil=.own n []:=_root_.id rfl
theorem QQr(n m r):nzc n (.own m r)=.own m r:=_root_.id rfl
theorem QSh(n m r):nzc n (.imm m r)=.imm m r:=_root_.id rfl
theorem QPU(k v):Qn1 (.z k) v=nzc k v:=_root_.id rfl
theorem QSd(v):Qn1 .n v=v:=_root_.id rfl
theorem QOB(ns cs):Qn1 (.a ns) (.agg cs)=.agg (nz ns cs):=_root_.id rfl
theorem QPO(v):QmU [] v=v:=_root_.id rfl
theorem QRB(s v):QmU [s] v=Qn1 s v:=_root_.id rfl
theorem QOs(s s' ss vs):QmU (s::s'::ss) (.tup vs)=.tup (QpB (s::s'::ss) vs):=_root_.id rfl
theorem QOW(s ss v vs):QpB (s::ss) (v::vs)=Qn1 s v::QpB ss vs:=_root_.id rfl
theorem QNK(vs):QpB [] vs=vs:=_root_.id rfl
theorem QNg(m ds l):Qoq (.agg m) (.agg ds) l=(m==l):=_root_.id rfl
theorem QHK(j l):Qoq .one (.sl j) l=(l==1):=_root_.id rfl
def Qtj(ns:List Nat)(K:KS)(a:Option (KS×List AV))(t:TK)(j o n i:Nat)(r:List (List AV))(v:AV)(k:KS→Option β)(_:Lk k):Option β :=
 match a with
  |some (K1,ds)=>if(kg K1 j).isSome=true∧Qoq t v ds.length=true∧o+ds.length≤(QB r i).length then V2 (K1.set j (some (.lst n (r.set i (putCells (QB r i) o (nz ns ds)))))) k ()else none
  |none=>none
theorem QRt(ns K K1 ds t j o n i r v)(k:KS→Option β)(l):Qtj ns K (some (K1,ds)) t j o n i r v k l=okB ((kg K1 j).isSome&&(Qoq t v ds.length&&Nat.ble (o+ds.length) (QB r i).length)) (V2 (K1.set j (some (.lst n (r.set i (putCells (QB r i) o (nz ns ds)))))) k ()) () :=
 Qce (by simp only[Bool.and_eq_true,QiC]) _ _
def QmQ(r:List (List AV))(i:Nat):Bool:=Nat.blt i r.length
theorem w_n(D:Orc)(f:Fr)(K:KS)(j i o q r v m rs)(k:AV→KS→Option β)(l):onr D f K j i o q r (v,[some (.lst m rs)]) k l=Vf (v.flat&&QmQ r i) (V2 (K.set j (some (.lst q (r.set i (putCells (QB r i) o [.own m rs]))))++[none]) (fun K'=>k v K') ()) ():=_root_.id rfl
theorem QFH(x r):QmQ (x::r) 0=true:=by simp[QmQ,Nat.blt_eq]
theorem QFF(x r i):QmQ (x::r) (i+1)=QmQ r i:=by
 unfold QmQ;rw[Bool.eq_iff_iff,Nat.blt_eq,Nat.blt_eq];simp
theorem QGm(fl ns K n r t j i o v)(k:KS→Option β)(l):QkV true fl ns K n r t j i o v k l=okB (QmQ r i) (Qg6 (QB r i) o t v AV.closed (fun r'=>V2 (K.set j (some (.lst n (r.set i r')))) k ()) ()) () :=
 Qce QkY _ _
theorem QDH(ns K n r t j i o v)(k:KS→Option β)(l):QkV false false ns K n r t j i o v k l=okB (QmQ r i) (Qtj ns K (Vj K (ZU v)) t j o n i r v k ()) () :=
 Qce QkY _ _
theorem QCM(cs o m ds ok)(k:List AV→Option β)(l):Qg6 cs o (.agg m) (.agg ds) ok k l=okB ((m==ds.length)&&(Nat.ble (o+m) cs.length&&ds.all ok)) (k (putCells cs o ds)) () :=
 Qce (by simp only[Bool.and_eq_true,beq_iff_eq,QiC]) _ _
theorem QuL(cs:List AV)(o:Nat)(v:AV)(ok:AV→Bool)(k:List AV→Option β):(if o<cs.length∧ok v=true then k (cs.set o v)else none)=okB (Nat.blt o cs.length&&ok v) (k (cs.set o v)) () :=
 Qce (by simp only[Bool.and_eq_true,QkY]) _ _
theorem QEu(cs o x ok)(k:List AV→Option β)(l):Qg6 cs o .one (.b x) ok k l=okB (Nat.blt o cs.length&&ok (.b x)) (k (cs.set o (.b x))) ():=QuL ..
theorem QEO(cs o c x ok)(k:List AV→Option β)(l):Qg6 cs o .one (.i c x) ok k l=okB (Nat.blt o cs.length&&ok (.i c x)) (k (cs.set o (.i c x))) ():=QuL ..
theorem QF9(cs o x ok)(k:List AV→Option β)(l):Qg6 cs o .one (.s x) ok k l=okB (Nat.blt o cs.length&&ok (.s x)) (k (cs.set o (.s x))) ():=QuL ..
theorem QGk(cs o ok)(k:List AV→Option β)(l):Qg6 cs o .one .nil ok k l=okB (Nat.blt o cs.length&&ok .nil) (k (cs.set o .nil)) ():=QuL ..
theorem QzP(cs o j ok)(k:List AV→Option β)(l):Qg6 cs o .one (.sl j) ok k l=okB (Nat.blt o cs.length&&ok (.sl j)) (k (cs.set o (.sl j))) ():=QuL ..
theorem QxJ(cs o n r ok)(k:List AV→Option β)(l):Qg6 cs o .one (.imm n r) ok k l=okB (Nat.blt o cs.length&&ok (.imm n r)) (k (cs.set o (.imm n r))) ():=QuL ..
theorem QPb(cs o ds):putCells cs o ds=cs.take o++ds++cs.drop (o+ds.length):=_root_.id rfl
theorem QFZ(P z nr S rs f K):Qdg P z nr S rs .normal f K=Qmw P z S rs nr f K ():=_root_.id rfl
theorem QCL(P z nr S rs f K):Qdg P z nr S rs .ret f K=Qmw P z S rs nr f K ():=_root_.id rfl
theorem QHq(P z S rs f K l):Qmw P z S rs none f K l=Jc (QbT f K P rs) (fun vs=>Vf (rok (tkl z K).length (Qfs vs)&&(QhS (tkl z K)&&Nat.ble z.length (tkl z K).length)) (some (Qfs vs,tkl z K)) ()) ():=_root_.id rfl
theorem QIn(P z S rs r f K l):Qmw P z S rs (some r) f K l=Jc (QbT f K P rs) (fun vs=>Qd1 z [S] r (up f S (Qfs vs)) K (fun f K=>QjV (f S) (fun v=>Vf (rok K.length v&&(QhS K&&Nat.ble z.length K.length)) (some (v,K)) ()) ()) ()) ():=_root_.id rfl
theorem QIN{α:Type}:(none:Option α).isSome=false:=_root_.id rfl
theorem QMz{α:Type}(x:α):(some x).isSome=true:=_root_.id rfl
theorem QG2(K):tkl [] K=[]:=by cases K<;>rfl
theorem QNh(x z e K):tkl (x::z) (e::K)=e::tkl z K:=_root_.id rfl
theorem QBi(P sh rs f K):Qhx P sh rs .normal f K=Jc (QbT f K P rs) (fun vs=>(Qbj K (Qfs vs)).map fun p=>QmU sh p.2) ():=_root_.id rfl
theorem Qzv(P sh rs f K):Qhx P sh rs .ret f K=Jc (QbT f K P rs) (fun vs=>(Qbj K (Qfs vs)).map fun p=>QmU sh p.2) ():=_root_.id rfl
theorem QH3(f K P):QbT f K P []=some []:=_root_.id rfl
theorem QHh(f K P t rs):QbT f K P (.tmp t::rs)=(QbT f K P rs).map (f t::·):=_root_.id rfl
theorem QFM(f K P x t rs):QbT f K P (.cell x t::rs)=Jc (QfH (tk P t) (X9 K (f x)) some ()) (fun v=>(QbT f K P rs).map (v::·)) ():=_root_.id rfl
theorem Qlp{α γ:Type}(g:α→γ)(x:α):(some x).map g=some (g x):=_root_.id rfl
theorem Qr7{α γ:Type}(g:α→γ):(none:Option α).map g=none:=_root_.id rfl
theorem QKj(v):Qfs [v]=v:=_root_.id rfl
theorem QHe(v w vs):Qfs (v::w::vs)=.tup (v::w::vs):=_root_.id rfl
theorem QDb:Qfs []=.tup []:=_root_.id rfl
theorem x_b(K x):Qbj K (.b x)=some (K,.b x):=_root_.id rfl
theorem x_i(K c x):Qbj K (.i c x)=some (K,.i c x):=_root_.id rfl
theorem x_s(K x):Qbj K (.s x)=some (K,.s x):=_root_.id rfl
theorem QMW(K):Qbj K .nil=some (K,.nil):=_root_.id rfl
theorem QHt(K n r):Qbj K (.imm n r)=none:=by simp[Qbj]
theorem QLv(K cs):Qbj K (.agg cs)=(Qd8 K cs).map fun p=>(p.1,.agg p.2):=by simp[Qbj]
theorem QHG(K cs):Qbj K (.tup cs)=(Qd8 K cs).map fun p=>(p.1,.tup p.2):=by simp[Qbj]
def QCH(K:KS)(e:Option Ent)(j:Nat):Option (KS×AV):=match e with|some (.lst n rows)=>if Qz rows=true then some (K.set j none,.own n rows)else none|_=>none
theorem QPm(K j):Qbj K (.sl j)=QCH K (kg K j) j:=by rw[Qbj];rfl
theorem QRH:Qz []=true:=_root_.id rfl
theorem QQ6(r rs):Qz (r::rs)=cond (Vt r) (Qz rs) false:=by rw[show Qz (r::rs)=(Vt r&&Qz rs)by simp[Qz]];cases Vt r<;>rfl
theorem QRR:Vt []=true:=_root_.id rfl
theorem QO8(c cs):Vt (c::cs)=cond (AV.clean c) (Vt cs) false:=by rw[show Vt (c::cs)=(AV.clean c&&Vt cs)by simp[Vt]];cases AV.clean c<;>rfl
theorem k_i(k n):AV.clean (.i k n)=true:=_root_.id rfl
theorem k_b(x):AV.clean (.b x)=true:=_root_.id rfl
theorem k_s(x):AV.clean (.s x)=true:=_root_.id rfl
theorem QGZ(K n r j):QCH K (some (.lst n r)) j=cond (Qz r) (some (K.set j none,.own n r)) none:=Qce Iff.rfl _ _
theorem QDF(K):Qd8 K []=some (K,[]):=by simp[Qd8]
def QrF(e:Option (KS×AV))(cs:List AV):Option (KS×List AV):=match e with|some (K1,c')=>(Qd8 K1 cs).map fun p=>(p.1,c'::p.2)|none=>none
theorem Qzl(K c cs):Qd8 K (c::cs)=QrF (Qbj K c) cs:=by rw[Qd8];rfl
theorem QPQ(K c cs):QrF (some (K,c)) cs=(Qd8 K cs).map fun p=>(p.1,c::p.2):=_root_.id rfl
theorem QP9(cs):QrF none cs=none:=_root_.id rfl
theorem QGh(z sl rg f K)(k:Fr→KS→Option β)(l):Qd1 z sl rg f K k l=Vy rg f K [] (fun f K π=>Vf (ndB π) (onz z π (V2 (QAi K π) (fun K'=>k (QA5 f π sl) K') ()) ()) ()) ():=_root_.id rfl
theorem QNH(π)(q:Option β)(l):onz [] π q l=q:=_root_.id rfl
theorem QKK(x z π)(q:Option β)(l):onz (x::z) π q l=Vf (pfx (x::z) π) q ():=_root_.id rfl
theorem QOn(π):pfx [] π=true:=_root_.id rfl
theorem QPI(x z y π):pfx (x::z) (y::π)=((x==y)&&pfx z π):=by rw[←QjC];rfl
theorem QQZ(x:Nat):([]:List Nat).contains x=false:=_root_.id rfl
theorem QOE(x y:Nat)(l:List Nat):(y::l).contains x=((x==y)||l.contains x):=List.contains_cons
theorem QRT(b:Bool):(false||b)=b:=by cases b<;>rfl
theorem QRC(b:Bool):(true||b)=true:=by cases b<;>rfl
theorem QBM(f K π)(k:Fr→KS→List Nat→Option β)(l):Vy [] f K π k l=k f K π:=_root_.id rfl
theorem n_r(i r f K π)(k:Fr→KS→List Nat→Option β)(l):Vy (.r i::r) f K π k l=Vy r f K (π++[i]) k ():=_root_.id rfl
def QlO(v:AV)(t n:Nat)(r:List Pt)(f:Fr)(K:KS)(π:List Nat)(k:Fr→KS→List Nat→Option β)(_:Lk (f,k)):Option β:=match v with
  |.sl j=>Vy r f K (π++[j]) k ()
  |.ptr j _ _=>Vy r f K (π++[j]) k ()
  |.nil=>Vy r (up f t (.sl K.length)) (K++[some (.lst n [])]) (π++[K.length]) k ()
  |_=>none
theorem n_s(t n r f K π)(k:Fr→KS→List Nat→Option β)(l):Vy (.s t n::r) f K π k l=QlO (f t) t n r f K π k ():=by simp only[Vy,QlO];rfl
theorem QMG(j t n r f K π)(k:Fr→KS→List Nat→Option β)(l):QlO (.sl j) t n r f K π k l=Vy r f K (π++[j]) k ():=_root_.id rfl
theorem QC1(j i o t n r f K π)(k:Fr→KS→List Nat→Option β)(l):QlO (.ptr j i o) t n r f K π k l=Vy r f K (π++[j]) k ():=_root_.id rfl
theorem QEZ(t n r f K π)(k:Fr→KS→List Nat→Option β)(l):QlO .nil t n r f K π k l=Vy r (up f t (.sl K.length)) (K++[some (.lst n [])]) (π++[K.length]) k ():=_root_.id rfl
def Ql4(c:Option AV)(r:List Pt)(f:Fr)(K:KS)(π:List Nat)(k:Fr→KS→List Nat→Option β)(_:Lk (f,k)):Option β:=match c with
  |some (.sl i)=>Vy r f K (π++[i]) k ()
  |some (.ptr i _ _)=>Vy r f K (π++[i]) k ()
  |_=>none
def Qn8(e:Option Ent)(o:Nat)(r:List Pt)(f:Fr)(K:KS)(π:List Nat)(k:Fr→KS→List Nat→Option β)(_:Lk (f,k)):Option β:=match e with
  |some (.box cs)=>Ql4 (cs[o]?) r f K π k ()
  |_=>none
def Qrv(q:Option Nat)(o:Nat)(r:List Pt)(f:Fr)(K:KS)(π:List Nat)(k:Fr→KS→List Nat→Option β)(_:Lk (f,k)):Option β:=match q with
  |some j=>Qn8 (kg K j) o r f K π k ()
  |none=>none
theorem n_c(q o n r f K π)(k:Fr→KS→List Nat→Option β)(l):Vy (.c q o n::r) f K π k l=Qrv (π[q]?) o r f K π k ():=by
 simp only[Vy,Qrv,Qn8,Ql4];cases π[q]? with
 |none=>rfl
 |some j =>
  simp only;cases kg K j with
  |none=>rfl
  |some e =>
   cases e with
   |box cs =>
    simp only;cases cs[o]? with
    |none=>rfl
    |some c=>cases c<;>rfl
   |lst _ _=>rfl
theorem QI4(j o r f K π)(k:Fr→KS→List Nat→Option β)(l):Qrv (some j) o r f K π k l=Qn8 (kg K j) o r f K π k ():=_root_.id rfl
theorem QMD(cs o r f K π)(k:Fr→KS→List Nat→Option β)(l):Qn8 (some (.box cs)) o r f K π k l=Ql4 (cs[o]?) r f K π k ():=_root_.id rfl
theorem QJW(i r f K π)(k:Fr→KS→List Nat→Option β)(l):Ql4 (some (.sl i)) r f K π k l=Vy r f K (π++[i]) k ():=_root_.id rfl
theorem QNO(i a b r f K π)(k:Fr→KS→List Nat→Option β)(l):Ql4 (some (.ptr i a b)) r f K π k l=Vy r f K (π++[i]) k ():=_root_.id rfl
def QlN(c:Option AV)(cs:List AV)(t o n:Nat)(r:List Pt)(f:Fr)(K:KS)(π:List Nat)(k:Fr→KS→List Nat→Option β)(_:Lk (f,k)):Option β:=match c with
  |some (.sl j)=>Vy r f K (π++[j]) k ()
  |some .nil=>Vy r (up f t (.agg (cs.set o (.sl K.length)))) (K++[some (.lst n [])]) (π++[K.length]) k ()
  |_=>none
def Qrf(v:AV)(t o n:Nat)(r:List Pt)(f:Fr)(K:KS)(π:List Nat)(k:Fr→KS→List Nat→Option β)(_:Lk (f,k)):Option β:=match v with
  |.agg cs=>QlN (cs[o]?) cs t o n r f K π k ()
  |_=>none
theorem n_g(t o n r f K π)(k:Fr→KS→List Nat→Option β)(l):Vy (.g t o n::r) f K π k l=Qrf (f t) t o n r f K π k ():=by
 simp only[Vy,Qrf,QlN];cases f t with
 |agg cs =>
  simp only;cases cs[o]? with
  |none=>rfl
  |some c=>cases c<;>rfl
 |_=>rfl
theorem QHA(cs t o n r f K π)(k:Fr→KS→List Nat→Option β)(l):Qrf (.agg cs) t o n r f K π k l=QlN (cs[o]?) cs t o n r f K π k ():=_root_.id rfl
theorem QKJ(j cs t o n r f K π)(k:Fr→KS→List Nat→Option β)(l):QlN (some (.sl j)) cs t o n r f K π k l=Vy r f K (π++[j]) k ():=_root_.id rfl
theorem QMB(cs t o n r f K π)(k:Fr→KS→List Nat→Option β)(l):QlN (some .nil) cs t o n r f K π k l=Vy r (up f t (.agg (cs.set o (.sl K.length)))) (K++[some (.lst n [])]) (π++[K.length]) k ():=_root_.id rfl
theorem QIa:ndB []=true:=_root_.id rfl
theorem QJ1(x l):ndB (x::l)=(!l.contains x&&ndB l):=_root_.id rfl
def krn(K:KS)(π:List Nat)(l:List Nat):KS:=l.map fun j=>(kg K j).map (QhU π)
theorem QQz(K π):QAi K π=krn K π π:=_root_.id rfl
theorem QFQ(K π):krn K π []=[]:=_root_.id rfl
theorem QEG(K π j l):krn K π (j::l)=(kg K j).map (QhU π)::krn K π l:=_root_.id rfl
theorem QM1(π cs):QhU π (.box cs)=.box (QdV π cs):=_root_.id rfl
theorem QGO(π n r):QhU π (.lst n r)=.lst n r:=_root_.id rfl
theorem QNl(π):QdV π []=[]:=by simp[QdV]
theorem QIx(π c cs):QdV π (c::cs)=ren π c::QdV π cs:=by simp[QdV]
def slO:Option Nat→AV|some i=>.sl i|none=>.u
def QD5(i o:Nat):Option Nat→AV|some j=>.ptr j i o|none=>.u
theorem QIK(i):slO (some i)=.sl i:=_root_.id rfl
theorem QGC:slO none=.u:=_root_.id rfl
theorem QDl(i o j):QD5 i o (some j)=.ptr j i o:=_root_.id rfl
theorem QD8(i o):QD5 i o none=.u:=_root_.id rfl
theorem QDp(π j):ren π (.sl j)=slO (Qkw π j):=by simp only[ren];rfl
theorem QAy(π j i o):ren π (.ptr j i o)=QD5 i o (Qkw π j):=by simp only[ren];rfl
theorem QyV(π cs):ren π (.agg cs)=.agg (QdV π cs):=by simp[ren]
theorem QAw(π cs):ren π (.tup cs)=.tup (QdV π cs):=by simp[ren]
theorem QBe(π g cs):ren π (.clo g cs)=.clo g (QdV π cs):=by simp[ren]
theorem QD2(π x):ren π (.b x)=.b x:=by simp[ren]
theorem QMk(π c x):ren π (.i c x)=.i c x:=by simp[ren]
theorem QIS(π x):ren π (.s x)=.s x:=by simp[ren]
theorem QJK(π):ren π .nil=.nil:=by simp[ren]
theorem QIH(π):ren π .u=.u:=by simp[ren]
theorem QA0(π n r):ren π (.imm n r)=.imm n r:=by simp[ren]
theorem QyD(π n r i o):ren π (.iptr n r i o)=.iptr n r i o:=by simp[ren]
theorem QEE(j):Qkw [] j=none:=_root_.id rfl
theorem QC8(x l j):Qkw (x::l) j=sel (x==j) (some 0) ((Qkw l j).map (·+1)) ():=by
 rw[Qkw];exact Qce (by simp) _ _
theorem QGr(f π l):QA5 f π l=frm (frl f π l):=_root_.id rfl
theorem QEl(f π):frl f π []=[]:=_root_.id rfl
theorem QFk(f π t l):frl f π (t::l)=(t,ren π (f t))::frl f π l:=_root_.id rfl
theorem QQM(z la rt f K):Qgx z la rt .normal f K=Qd1 z la.sl la.rg f K (fun f K=>some (.inl (f,K))) ():=_root_.id rfl
theorem QO0(z la rt f K):Qgx z la rt .ret f K=Qd1 z rt.sl rt.rg f K (fun f K=>some (.inr (.ret,f,K))) ():=_root_.id rfl
theorem QPs(z la rt i f K):Qgx z la rt (.exit i) f K=Qd1 z la.xs la.xr f K (fun f K=>some (.inr (.exit i,f,K))) ():=_root_.id rfl
theorem QLH(t x y):QG t (.seq x y)=(QG t x).or (QG t y):=_root_.id rfl
theorem QEq(t c x y):QG t (.cond c x y)=(QG t x).or (QG t y):=_root_.id rfl
theorem QzX(t i x):QG t (.block i x)=QG t x:=_root_.id rfl
theorem QEF(t x):QG t (.loop x)=sel (tag x==t) (some x) (QG t x) ():=_root_.id rfl
theorem QyF(t i o d):QG t (.region i o d)=none:=_root_.id rfl
theorem QE8(t):QG t .skip=none:=_root_.id rfl
theorem QMU(t):QG t .ret=none:=_root_.id rfl
theorem QFB(t i):QG t (.exit i)=none:=_root_.id rfl
theorem QCC(x:Option Code):(none:Option Code).or x=x:=by cases x<;>rfl
theorem QCj(x:Code)(y:Option Code):(some x).or y=some x:=_root_.id rfl
theorem l_0(K):Qcz K []=[]:=by simp[Qcz]
theorem l_s(K c cs):Qcz K (c::cs)=Qar K c::Qcz K cs:=by simp[Qcz]
def QwP(e:Option Ent):AV:=match e with|some (.lst n rows)=>.imm n (Qh rows)|_=>.u
theorem QQY(K j):Qar K (.sl j)=QwP (kg K j):=by simp only[Qar];rfl
theorem QJf(n r):QwP (some (.lst n r))=.imm n (Qh r):=_root_.id rfl
theorem QKw(K j):QnB K j=QwP (kg K j):=_root_.id rfl
def Qq4(K:KS)(e:Option Ent)(i o:Nat):AV:=match e with
 |some (.lst n rows)=>.iptr n (Qh rows) i o
 |some (.box cs)=>.iptr cs.length [cs.map (QfI K)] i o
 |none=>.u
theorem QIW(K j i o):Qar K (.ptr j i o)=Qq4 K (kg K j) i o:=by simp only[Qar];rfl
theorem QCO(K cs i o):Qq4 K (some (.box cs)) i o=.iptr cs.length [cs.map (QfI K)] i o:=_root_.id rfl
theorem QCP(K n r i o):Qq4 K (some (.lst n r)) i o=.iptr n (Qh r) i o:=_root_.id rfl
theorem QDK(K n r i o):Qar K (.iptr n r i o)=.iptr n r i o:=by simp[Qar]
theorem QKx(K j):QfI K (.sl j)=QnB K j:=_root_.id rfl
theorem QSF(K x):QfI K (.b x)=.b x:=_root_.id rfl
theorem QP2(K c x):QfI K (.i c x)=.i c x:=_root_.id rfl
theorem QPa(K x):QfI K (.s x)=.s x:=_root_.id rfl
theorem QRX(K):QfI K .nil=.nil:=_root_.id rfl
theorem QQO(K n r):QfI K (.imm n r)=.imm n r:=_root_.id rfl
theorem QEm(r:List AV)(rs):QB (r::rs) 0=r:=_root_.id rfl
theorem QJ3(K cs):Qar K (.agg cs)=.agg (Qcz K cs):=by simp[Qar]
theorem QKL(K cs):Qar K (.tup cs)=.tup (Qcz K cs):=by simp[Qar]
theorem QME(K g cs):Qar K (.clo g cs)=.clo g (Qcz K cs):=by simp[Qar]
theorem l_b(K x):Qar K (.b x)=.b x:=by simp[Qar]
theorem l_i(K c x):Qar K (.i c x)=.i c x:=by simp[Qar]
theorem QOg(K x):Qar K (.s x)=.s x:=by simp[Qar]
theorem l_n(K):Qar K .nil=.nil:=by simp[Qar]
theorem QLw(K n r):Qar K (.imm n r)=.imm n r:=by simp[Qar]
theorem QBq:Qh []=[]:=by simp[Qh]
theorem QAq(r rs):Qh (r::rs)=Q5 r::Qh rs:=by simp[Qh]
theorem QDZ:Q5 []=[]:=by simp[Q5]
theorem QCS(c cs):Q5 (c::cs)=Vo c::Q5 cs:=by simp[Q5]
theorem QP3(x):Vo (.b x)=.b x:=by simp[Vo]
theorem QQA(c x):Vo (.i c x)=.i c x:=by simp[Vo]
theorem QRO(x):Vo (.s x)=.s x:=by simp[Vo]
theorem QO7:Vo .nil=.nil:=by simp[Vo]
theorem QGg(n r):Vo (.imm n r)=.imm n r:=by simp[Vo]
theorem QFc(n r):Vo (.own n r)=.imm n (Qh r):=by simp[Vo]
theorem QMI(m n r):VC m (.own n r)=(.sl m,[some (.lst n r)]):=by simp[VC]
theorem QJw(m cs):VC m (.agg cs)=(.agg (Qbd m cs).1,(Qbd m cs).2):=by simp[VC]
theorem QH1(m cs):VC m (.tup cs)=(.tup (Qbd m cs).1,(Qbd m cs).2):=by simp[VC]
theorem i_b(m x):VC m (.b x)=(.b x,[]):=by simp[VC]
theorem i_i(m c x):VC m (.i c x)=(.i c x,[]):=by simp[VC]
theorem QQf(m x):VC m (.s x)=(.s x,[]):=by simp[VC]
theorem i_n(m):VC m .nil=(.nil,[]):=by simp[VC]
theorem QOh(m):Qbd m []=([],[]):=by simp[Qbd]
theorem QRw(m c cs):Qbd m (c::cs)=((VC m c).1::(Qbd (m+(VC m c).2.length) cs).1,(VC m c).2++(Qbd (m+(VC m c).2.length) cs).2):=by simp[Qbd]
theorem QCp{α γ:Type}(x:α)(y:γ):(x,y).1=x:=_root_.id rfl
theorem QIM{α γ:Type}(x:α)(y:γ):(x,y).2=y:=_root_.id rfl
def QnP(e:Option (List AV))(k:AV→Option β)(_:Lk k):Option β:=match e with|some cs=>k (.agg cs)|none=>none
theorem QNb(K z p ps l):QjW K (.st z p) ps k l=QnP (Qau K (p[·]?) z ps) k ():=_root_.id rfl
theorem QDP(K z m ps l):QjW K (.arr z m) ps k l=QnP (Qau K (fun i=>some (i*m,m)) z ps) k ():=_root_.id rfl
theorem QNX(cs l):QnP (some cs) k l=k (.agg cs):=_root_.id rfl
def QB7(fl:Bool)(ns:List Nat)(e:Option (List AV))(K:KS)(len m:Nat)(k:AV→KS→Option β)(_:Lk k):Option β:=match e with
  |some cs=>cond (yB fl cs) (match Vj K cs with
   |some (K1,cs)=>V2 (K1++[some (.lst m ((QaK m len cs).map (nz ns)))]) (fun K'=>k (.sl K.length) K') ()
   |none=>none) none
  |none=>none
theorem QQq(fl ns K e m z)(k:AV→KS→Option β)(l):QgA fl ns K (some (e,m,z)) 0 [] k l=V2 (K++[some (.lst m [])]) (fun K'=>k (.sl K.length) K') ():=_root_.id rfl
theorem s_b(fl ns K e m z len ps)(k:AV→KS→Option β)(l):QgA fl ns K (some (e,m,z)) (len+1) ps k l=okB (Nat.ble ((len+1)*m) 16777216) (QB7 fl ns (Qau K (fun i=>some (i*m,m)) (Qc0 (len+1) z) ps) K (len+1) m k ()) () :=
 Qce QiC _ _
def QBR(ns:List Nat)(e:Option (KS×List AV))(n len m:Nat)(k:AV→KS→Option β)(_:Lk k):Option β:=match e with
   |some (K1,cs)=>V2 (K1++[some (.lst m ((QaK m len cs).map (nz ns)))]) (fun K'=>k (.sl n) K') ()
   |none=>none
theorem QSn(fl ns K cs len m)(k:AV→KS→Option β)(l):QB7 fl ns (some cs) K len m k l=cond (yB fl cs) (QBR ns (Vj K cs) K.length len m k ()) none:=_root_.id rfl
theorem QRx:zB []=true:=_root_.id rfl
theorem QOO(l:List Nat):zB (0::l)=zB l:=_root_.id rfl
theorem QRJ(n:Nat)(l:List Nat):zB ((n+1)::l)=false:=_root_.id rfl
theorem QRk(cs):yB false cs=true:=_root_.id rfl
theorem QRq(cs):yB true cs=noS cs:=_root_.id rfl
theorem QRI:noS []=true:=_root_.id rfl
theorem QQd(c n l):noS (.i c n::l)=noS l:=_root_.id rfl
theorem QOD(x l):noS (.b x::l)=noS l:=_root_.id rfl
theorem QRP(x l):noS (.s x::l)=noS l:=_root_.id rfl
theorem QRa(l):noS (.nil::l)=noS l:=_root_.id rfl
theorem QRf(n r l):noS (.imm n r::l)=noS l:=_root_.id rfl
theorem QQH(j l):noS (.sl j::l)=false:=_root_.id rfl
theorem QSq(ns K1 cs n len m)(k:AV→KS→Option β)(l):QBR ns (some (K1,cs)) n len m k l=V2 (K1++[some (.lst m ((QaK m len cs).map (nz ns)))]) (fun K'=>k (.sl n) K') ():=_root_.id rfl
theorem QRm(K p cs):Qau K p cs []=some cs:=_root_.id rfl
def Qxi(K:KS)(place:Nat→Option (Nat×Nat))(cs:List AV)(p:Option (Nat×Nat))(d:Option (List AV))(rest:List (Nat×AV)):Option (List AV):=match p,d with
  |some (o,m),some ds=>if ds.length=m∧o+m≤cs.length then Qau K place (putCells cs o ds) rest else none
  |_,_=>none
theorem QOl(K p cs i v r):Qau K p cs ((i,v)::r)=Qxi K p cs (p i) (Qcs K v) r:=by simp only[Qau];rfl
theorem QSI(K p cs o m ds r):Qxi K p cs (some (o,m)) (some ds) r=cond ((ds.length==m)&&Nat.ble (o+m) cs.length) (Qau K p (putCells cs o ds) r) none :=
 Qce (by simp only[Bool.and_eq_true,beq_iff_eq,QiC]) _ _
theorem QPV(K cs):Qcs K (.agg cs)=some cs:=_root_.id rfl
theorem QOX(K x):Qcs K (.b x)=some [.b x]:=_root_.id rfl
theorem QRY(K c x):Qcs K (.i c x)=some [.i c x]:=_root_.id rfl
theorem QQI(K x):Qcs K (.s x)=some [.s x]:=_root_.id rfl
theorem QSv(K):Qcs K .nil=some [.nil]:=_root_.id rfl
theorem QDC(K n r):Qcs K (.imm n r)=some [.imm n r]:=_root_.id rfl
theorem QJD(K j):Qcs K (.sl j)=cond (kg K j).isSome (some [.sl j]) none:=by
 show(if Zx K (.sl j)=true then some [AV.sl j]else none)=_;exact Qce Iff.rfl _ _
theorem QRd(z):Qc0 0 z=[]:=by simp[Qc0]
theorem QPz(n z):Qc0 (n+1) z=z++Qc0 n z:=by simp[Qc0,List.replicate_succ]
theorem QKV(K):Vj K []=some (K,[]):=_root_.id rfl
theorem QIV(K x cs):Vj K (.b x::cs)=(Vj K cs).map fun p=>(p.1,.b x::p.2):=by simp[Vj,AV.closed]
theorem QMx(K c x cs):Vj K (.i c x::cs)=(Vj K cs).map fun p=>(p.1,.i c x::p.2):=by simp[Vj,AV.closed]
theorem QHg(K x cs):Vj K (.s x::cs)=(Vj K cs).map fun p=>(p.1,.s x::p.2):=by simp[Vj,AV.closed]
theorem QLi(K cs):Vj K (.nil::cs)=(Vj K cs).map fun p=>(p.1,.nil::p.2):=by simp[Vj,AV.closed]
theorem QzR(K n r cs):Vj K (.imm n r::cs)=(Vj K cs).map fun p=>(p.1,.imm n r::p.2):=by simp[Vj,AV.closed]
def QHu(e:Option Ent)(K:KS)(j:Nat)(cs:List AV):Option (KS×List AV):=match e with
  |some (.lst n rows)=>(Vj (K.set j none) cs).map fun p=>(p.1,.own n rows::p.2)
  |_=>none
theorem QFV(K j cs):Vj K (.sl j::cs)=QHu (kg K j) K j cs:=by simp only[Vj];rfl
theorem QJx(K n r j cs):QHu (some (.lst n r)) K j cs=(Vj (K.set j none) cs).map fun p=>(p.1,.own n r::p.2):=_root_.id rfl
theorem QGv(m cs):QaK m 0 cs=[]:=_root_.id rfl
theorem QMR(m l cs):QaK m (l+1) cs=cs.take m::QaK m l (cs.drop m):=_root_.id rfl
def QtT(e:Option (List (List AV)×KS))(n m b:Nat)(s:AV)(k:AV→KS→Option β)(_:Lk k):Option β:=match e with
  |some (rows',K1)=>match s with
   |.sl j=>match kg K1 j with
    |some (.lst n' rows)=>if n'=m then Vf (decide ((rows.length+rows'.length)*(b+1)≤140737488355328)) (V2 (K1.set j none++[some (.lst m (rows++rows'))]) (fun K'=>k (.sl n) K') ()) ()else none
    |_=>none
   |.nil=>Vf (decide (rows'.length*(b+1)≤140737488355328)) (V2 (K1++[some (.lst m rows')]) (fun K'=>k (.sl n) K') ()) ()
   |_=>none
  |none=>none
def QxU(e:Option Ent)(r:List (List AV))(K1:KS)(n m b j:Nat)(k:AV→KS→Option β)(_:Lk k):Option β:=match e with
    |some (.lst n' rows)=>if n'=m then Vf (decide ((rows.length+r.length)*(b+1)≤140737488355328)) (V2 (K1.set j none++[some (.lst m (rows++r))]) (fun K'=>k (.sl n) K') ()) ()else none
    |_=>none
def QEI(K:KS)(t:Option (TypeId×Nat×List AV))(bytes:Option Nat)(s x:AV)(k:AV→KS→Option β)(_:Lk k):Option β:=QkW K t bytes s x k ()
def QzT(P:Program)(t:Option (TypeId×Nat×List AV)):Option Nat:=t.bind fun q=>tb P q.1
theorem QMy{P:Program}{D:Orc}{f:Fr}{K:KS}(s x t tx ts)(k:AV→KS→Option β)(l):oop P D (.call ⟨.builtin .append,List.toArray [s,x],List.toArray (t::tx::ts)⟩) f K k l=okB (Z6 P tx&&!(Qbh s&&Qe2 (ev f x))) (QEI K (tse P t) (QzT P (tse P t)) (ev f s) (ev f x) k ()) ():=by
 simp only[oop,okB,QEI,QzT];cases Z6 P tx<;>cases (Qbh s&&Qe2 (ev f x))<;>rfl
theorem QPF(d):Qbh (.tmp d)=false:=_root_.id rfl
theorem QP1:Qbh (.const (.slice none 0 0))=true:=_root_.id rfl
theorem QPE(n r):Qe2 (.imm n r)=false:=_root_.id rfl
theorem QRZ:Qe2 .nil=false:=_root_.id rfl
theorem QRV(j):Qe2 (.sl j)=true:=_root_.id rfl
def Qxc(ns:List Nat)(K:KS)(t:Option (TypeId×Nat×List AV))(bytes:Option Nat)(l c:AV)(k:AV→KS→Option β)(_:Lk k):Option β:=QtB ns K t bytes l c k ()
theorem QO3{P:Program}{D:Orc}{f:Fr}{K:KS}(t x c)(k:AV→KS→Option β)(l):oop P D (.makeSlice t x c) f K k l=Qxc (Qc8 P t) K (tse P t) (QzT P (tse P t)) (ev f x) (ev f c) k ():=_root_.id rfl
theorem QNM(ns K e m z b i c)(k:AV→KS→Option β)(l):Qxc ns K (some (e,m,z)) (some (b+1)) (.i .i64 i) (.i .i64 c) k l=Vf (decide (i=c)) (Vf (mkB i (b+1)) (V2 (K++[some (.lst m (List.replicate i.toNat (nz ns z)))]) (fun K'=>k (.sl K.length) K') ()) ()) ():=_root_.id rfl
theorem QSJ(i:Int):(i=i)=True:=by simp
theorem QG9(P e m z):QzT P (some (e,m,z))=tb P e:=_root_.id rfl
theorem a_1(K e m z b s x)(k:AV→KS→Option β)(l):QEI K (some (e,m,z)) (some (b+1)) s x k l=QtT (Qco K m x) K.length m b s k ():=_root_.id rfl
theorem a_2(r K1 n m b j)(k:AV→KS→Option β)(l):QtT (some (r,K1)) n m b (.sl j) k l=QxU (kg K1 j) r K1 n m b j k ():=_root_.id rfl
theorem a_3(r K1 n m b)(k:AV→KS→Option β)(l):QtT (some (r,K1)) n m b .nil k l=Vf (rm r.length (b+1)) (V2 (K1++[some (.lst m r)]) (fun K'=>k (.sl n) K') ()) ():=by
 simp[QtT,rm]
theorem a_4(r' r K1 n m b j)(k:AV→KS→Option β)(l):QxU (some (.lst m r')) r K1 n m b j k l=Vf (rm (r'.length+r.length) (b+1)) (V2 (K1.set j none++[some (.lst m (r'++r))]) (fun K'=>k (.sl n) K') ()) ():=by
 simp[QxU,rm]
theorem QSK(K m):Qco K m .nil=some ([],K):=_root_.id rfl
theorem QQh(K m r):Qco K m (.imm m r)=some (r,K):=by simp[Qco]
def QDD(e:Option Ent)(K:KS)(m k:Nat):Option (List (List AV)×KS):=match e with
  |some (.lst n rows)=>if n=m then some (rows,K.set k none)else none
  |_=>none
theorem QSH(K m j):Qco K m (.sl j)=QDD (kg K j) K m j:=_root_.id rfl
theorem QOr(K m j r):QDD (some (.lst m r)) K m j=some (r,K.set j none):=by simp[QDD]
end
section
variable(T:Tld)
theorem QKd(n h):(orc T (n+1) h).w=T.wt:=_root_.id rfl
theorem QJl(n h g):(orc T n h).z g=(lk T.pz g).getD []:=by cases n<;>rfl
theorem QJc(n h):(orc T (n+1) h).v=T.vt:=_root_.id rfl
theorem QKk(n h):(orc T n h).m=CM T n:=by cases n<;>rfl
theorem QIf(n h):(orc T n h).a=CA T n:=by cases n<;>rfl
theorem QIo(n h):(orc T (n+1) h).q=T.qt:=_root_.id rfl
theorem QLM(n h):(orc T (n+1) h).s=T.st:=_root_.id rfl
theorem QIP(n h):(orc T n h).p=CP T n:=by cases n<;>rfl
theorem QJZ(n h):(orc T n h).l=LP T n h:=_root_.id rfl
noncomputable def cpF(T:Tld)(n g:Nat)(fn:Option Func)(a:Option Ann)(args:List AV):Option AV:=match a with
 |some a=>match fn with
  |some f=>cond (Nat.ble args.length f.ntmps) (Vl T.P (orc T n g) a (f.body.getD .skip) (Qhx T.P a.sh f.results.toList) (VO args) [] ()) none
  |none=>cond (Nat.ble args.length 0) (Vl T.P (orc T n g) a .skip (Qhx T.P a.sh []) (VO args) [] ()) none
 |none=>T.xt g args
noncomputable def caF(T:Tld)(n g:Nat)(fn:Option Func)(a:Option Ann)(K:KS)(args:List AV):Option (AV×KS):=match a with
 |some a=>match fn with
  |some f=>cond (a.wr&&(Nat.beq K.length a.ak.length&&Nat.ble args.length f.ntmps)) (Vl T.P (orc T n g) a (f.body.getD .skip) (Qdg T.P a.ak a.nr f.ntmps f.results.toList) (VO args) K ()) none
  |none=>cond (a.wr&&(Nat.beq K.length a.ak.length&&Nat.ble args.length 0)) (Vl T.P (orc T n g) a .skip (Qdg T.P a.ak a.nr 0 []) (VO args) K ()) none
 |none=>none
theorem QaG(n g K args):CA T (n+1) g K args=caF T n g (T.P.funcs[g]?) (T.at g) K args:=by
 show(match T.at g with|some a=>cond _ _ _|none=>none)=_
 unfold caF body QkH ntm;cases T.at g with
 |none=>rfl
 |some a=>cases T.P.funcs[g]?<;>rfl
theorem QvB(n g K args a)(x1 x2 x3 x4 x5 x6 m)(rs:List ResultVar)(c x7 x8 x9 x10 x11 x12 x13):caF T n g (some ⟨x1,x2,x3,x4,x5,x6,m,List.toArray rs,some c,x7,x8,x9,x10,x11,x12,x13⟩) (some a) K args=cond ((a.nr.isSome||!a.ak.isEmpty)&&((K.length==a.ak.length)&&Nat.ble args.length m)) (Vl T.P (orc T n g) a c (Qdg T.P a.ak a.nr m rs) (VO args) K ()) none:=by rw[←QjC];rfl
theorem QGe{α:Type}(x:α)(l:List α):(x::l).isEmpty=false:=_root_.id rfl
theorem QPo:(!false)=true:=_root_.id rfl
noncomputable def cmF(T:Tld)(n g:Nat)(fn:Option Func)(a:Option Ann)(K:KS)(args:List AV):Option AV:=match a with
 |some a=>cond (Nat.ble args.length (match fn with|some f=>f.ntmps|none=>0)) (Vl T.P (orc T n g) a (match fn with|some f=>f.body.getD .skip|none=>.skip) (Qhx T.P a.sh (match fn with|some f=>f.results.toList|none=>[])) (VO args) K ()) none
 |none=>T.mt g K args
theorem QCE(n g K args):CM T (n+1) g K args=cmF T n g (T.P.funcs[g]?) (T.at g) K args:=by
 show(match T.at g with|some a=>_|none=>_)=_
 unfold cmF body QkH ntm;cases T.at g with
 |none=>rfl
 |some a=>cases T.P.funcs[g]?<;>rfl
theorem Qxm(n g K args a)(x1 x2 x3 x4 x5 x6 m)(rs:List ResultVar)(c x7 x8 x9 x10 x11 x12 x13):cmF T n g (some ⟨x1,x2,x3,x4,x5,x6,m,List.toArray rs,some c,x7,x8,x9,x10,x11,x12,x13⟩) (some a) K args=cond (Nat.ble args.length m) (Vl T.P (orc T n g) a c (Qhx T.P a.sh rs) (VO args) K ()) none:=_root_.id rfl
theorem Qm(n g args):CP T (n+1) g args=cpF T n g (T.P.funcs[g]?) (T.at g) args:=by
 show(match T.at g with|some a=>cond _ _ _|none=>T.xt g args)=_
 unfold cpF body QkH ntm;cases T.at g with
 |none=>rfl
 |some a=>cases T.P.funcs[g]?<;>rfl
theorem QOG(n g args)(h:T.at g=none):CP T (n+1) g args=T.xt g args:=by rw[Qm,h];rfl
theorem QvO(n g args a)(x1 x2 x3 x4 x5 x6 m)(rs:List ResultVar)(c x7 x8 x9 x10 x11 x12 x13):cpF T n g (some ⟨x1,x2,x3,x4,x5,x6,m,List.toArray rs,some c,x7,x8,x9,x10,x11,x12,x13⟩) (some a) args=cond (Nat.ble args.length m) (Vl T.P (orc T n g) a c (Qhx T.P a.sh rs) (VO args) [] ()) none:=_root_.id rfl
noncomputable def lpG(T:Tld)(n h:Nat)(a:Ann)(c:Option Code)(la:Option LA)(f:Fr)(K:KS):Option (XE×Fr×KS):=match c,la with
    |some c,some la=>run (fun s=>Vl T.P (orc T n h) a c (Qgx a.ak la a.rt) s.1 s.2 ()) (f,K)
    |_,_=>none
noncomputable def lpF(T:Tld)(n h t:Nat)(fn:Option Func)(a:Option Ann)(f:Fr)(K:KS):Option (XE×Fr×KS):=match a with
 |some a=>lpG T n h a (QG t (match fn with|some f=>f.body.getD .skip|none=>.skip)) (lk a.lp t) f K
 |none=>none
theorem QK(n h t f K):LP T (n+1) h t f K=lpF T n h t (T.P.funcs[h]?) (T.at h) f K:=by
 show(match T.at h with|some a=>_|none=>none)=_
 unfold lpF;cases T.at h<;>rfl
theorem QwI(n h t a f K)(x1 x2 x3 x4 x5 x6 m rs c x7 x8 x9 x10 x11 x12 x13):lpF T n h t (some ⟨x1,x2,x3,x4,x5,x6,m,rs,some c,x7,x8,x9,x10,x11,x12,x13⟩) (some a) f K=lpG T n h a (QG t c) (lk a.lp t) f K:=_root_.id rfl
theorem Qu(n h a c la f K):lpG T n h a (some c) (some la) f K=run (fun s=>Vl T.P (orc T n h) a c (Qgx a.ak la a.rt) s.1 s.2 ()) (f,K):=_root_.id rfl
theorem getD_some{α:Type}(x d:α):(some x).getD d=x:=_root_.id rfl
theorem QjE{α:Type}(d:α):(none:Option α).getD d=d:=_root_.id rfl
end
end Go.Proofs.YtonidbheohhgdaaGreat.Am
namespace Go.Proofs.YtonidbheohhgdaaGreat.Am
open Go
set_option linter.unusedVariables false
set_option linter.unusedSimpArgs false
section
variable{α β γ:Type}{c:α→List AV}
theorem Qnf(xs:List α)(i):inb (xs.map c) i=inb xs i:=by simp[inb]
theorem QRE(xs:List α):lnR (xs.map c)=ln xs:=by simp[lnR,ln]
theorem Qnk[Inhabited α](xs:List α)(i:Int)(h:inb xs i=true):QB (xs.map c) i.toNat=c (gt xs i):=by
 obtain⟨h0,h1⟩:=Qcc.1 h;have h2:i.toNat<xs.length:=by omega
 simp[QB,gt,List.getD_eq_getElem?_getD,h2]
theorem QNf(xs:List α)(i:Int)(h:inb xs i=true):QmQ (xs.map c) i.toNat=true:=by
 unfold QmQ;obtain⟨h0,h1⟩:=Qcc.1 h;rw[Nat.blt_eq];simp;omega
theorem QLh(xs:List α)(l h:Int):cut (xs.map c) l h=(cut xs l h).map c:=by simp[cut,List.map_take,List.map_drop]
theorem QIZ(xs:List α):(xs.map c).length=xs.length:=by simp
theorem QvR(xs:List α)(n:Nat)(x:α)(i:Int):inb (xs.set n x) i=inb xs i:=by simp[inb]
theorem QBx[Inhabited α](xs:List α)(x:α)(i:Int)(h:inb xs i=true):gt (xs.set i.toNat x) i=x:=by
 obtain⟨h0,h1⟩:=Qcc.1 h;have h2:i.toNat<xs.length:=by omega
 simp[gt,List.getD_eq_getElem?_getD,h2]
theorem Qv5(xs:List α)(n:Nat)(x y:α):(xs.set n x).set n y=xs.set n y:=by simp
theorem QuV(o:Option α)(g:β→γ)(f:α→Option β):(o.bind f).map g=o.bind fun x=>(f x).map g:=by cases o<;>rfl
theorem QuI(b:Bool)(o:Option β)(g:β→γ)(l):(Vf b o l).map g=Vf b (o.map g) ():=by cases b<;>rfl
theorem QuC(b:Bool)(x y:Option β)(g:β→γ):(cond b x y).map g=cond b (x.map g) (y.map g):=by cases b<;>rfl
theorem QyC{ρ δ:Type}(p:ρ→Option β)(q:δ→Option β)(x)(g:β→γ):(evO p q x).map g=evO (fun r=>(p r).map g) (fun r=>(q r).map g) x:=by cases x<;>rfl
theorem Qpo(x:α)(f:α→Option β):(some x).bind f=f x:=_root_.id rfl
theorem Qqu(o:Option α)(f:α→Option β)(g:β→Option γ):(o.bind f).bind g=o.bind fun x=>(f x).bind g:=by cases o<;>rfl
theorem QAY{α' β':Type}(f:α→α')(g:β→β')(x):Sum.map f g (.inl x)=.inl (f x):=_root_.id rfl
theorem QAa{α' β':Type}(f:α→α')(g:β→β')(x):Sum.map f g (.inr x)=.inr (g x):=_root_.id rfl
end
class EncR {α:Type} (c:α→List AV) (r:List AV) (x:outParam α):Prop where
 eq:r=c x
class EncL {α:Type} (c:α→List AV) (R:List (List AV)) (xs:outParam (List α)):Prop where
 eq:R=xs.map c
instance{α:Type}(c:α→List AV)(x:α):EncR c (c x) x:=⟨rfl⟩
instance{α:Type}(c:α→List AV)(xs:List α):EncL c (xs.map c) xs:=⟨rfl⟩
instance{α:Type}(c:α→List AV):EncL c [] []:=⟨rfl⟩
instance{α:Type}(c:α→List AV)(r R x xs)[h:EncR c r x][H:EncL c R xs]:EncL c (r::R) (x::xs):=⟨by rw[h.eq,H.eq];rfl⟩
instance{α:Type}(c:α→List AV)(R S xs ys)[h:EncL c R xs][H:EncL c S ys]:EncL c (R++S) (xs++ys):=⟨by rw[h.eq,H.eq];simp⟩
instance{α:Type}(c:α→List AV)(R xs)(i:Nat)(r x)[h:EncL c R xs][H:EncR c r x]:EncL c (R.set i r) (xs.set i x):=⟨by rw[h.eq,H.eq,List.map_set]⟩
instance{α:Type}(c:α→List AV)(n:Nat)(r x)[H:EncR c r x]:EncL c (List.replicate n r) (List.replicate n x):=⟨by rw[H.eq,List.map_replicate]⟩
theorem QDy{α:Type}{c:α→List AV}(xs:List α)(R){ys}[h:EncL c R ys]:xs.map c++R=(xs++ys).map c:=by rw[h.eq];simp
theorem QDt{α:Type}{c:α→List AV}(xs:List α)(n:Nat)(R){x}[h:EncR c R x]:(xs.map c).set n R=(xs.set n x).map c:=by rw[h.eq,List.map_set]
theorem Jb{α:Type}{c:α→List AV}(h:∀x,Vt (c x)=true)(xs:List α):Qz (xs.map c)=true:=by
 induction xs with
 |nil=>simp[Qz]
 |cons x xs ih=>simp[Qz,h,ih]
theorem ZK{α:Type}{c c':α→List AV}(h:∀x,Q5 (c x)=c' x)(xs:List α):Qh (xs.map c)=xs.map c':=by
 induction xs with
 |nil=>simp[Qh]
 |cons x xs ih=>simp[Qh,h,ih]
theorem QF2{α:Type}{c:α→List AV}(xs:List α)(n b:Nat)(m):Qky (xs.map c).isEmpty (some (AV.own n [])) (Vf (rm (0+xs.length) b) (some (AV.own n (xs.map c))) m)=Vf (rm (0+xs.length) b) (some (AV.own n (xs.map c))) ():=by
 cases xs with
 |nil=>simp[Qky,oeq,Vf,rm]
 |cons r R=>rfl
set_option linter.defProp false
set_option maxRecDepth 100000
def evA:=aI @QLq<|aI @QMo<|aI @Qwk<|aI @QB5<|aI @QxK<|aI @QCk<|aI @QIO<|aI @QLF<|aI @QEA<|aI @QAv<|aI @Qwu<|aI @QPp<|aI @QNw<|aI @QOt<|aI @QKY<|aI @QyP<|aI @QKS<|aI @QAs<|aI @QFP<|aI @Qzt<|aI @QxE<|aI @QMg<|aI @QIX<|aI @QED<|aI @QDj<|aI @QFK<|aI @QDW<|aI @QLZ<|aI @QzA<|aI @Qv6<|aI @QNq<|aI @QvY<|aI @QFI<|aI @QDO<|aI @QFi<|aI @QHx<|aI @QJs<|aI @QGB<|aI @QJV<|aI @QxI<|aI @QnJ<|aI @QEs<|aI @QLf<|aI @QAI<|aI @Qx3<|aI @QC6<|aI @QDr<|aI @QKZ<|aI @QNC<|aI @s_v<|aI @v_j<|aI @v_s<|aI @QLR<|aI @QNI<|aI @Qxm<|aI @QtL<|aI @n_c<|aI @QI4<|aI @QMD<|aI @QJW<|aI @QNO<|aI @n_g<|aI @QHA<|aI @QKJ<|aI @QMB<|aI @QDx<|aI @QLy<|aI @QDz<|aI @QHy<|aI @QDA<|aI @QAS<|aI @QvD<|aI @QtI<|aI @QsV<|aI @QtZ<|aI @QsD<|aI @QRz<|aI @QPB<|aI @QBT<|aI @QNH<|aI @QKK<|aI @QFZ<|aI @QCL<|aI @QDN<|aI @QzW<|aI @Qye<|aI @Qzs<|aI @Quv<|aI @QyX<|aI @QxA<|aI @QKb<|aI @QNV<|aI @QFb<|aI @QDv<|aI @QEa<|aI @QCR <|  aI @QAf<|aI @QnJ<|aI @QJU<|aI @QJb<|aI @QyY<|aI @QHn<|aI @QH6<|aI @Qwc<|aI @QwZ<|aI @Qx1<|aI @QK5<|aI @Qyr<|aI @QL2<|aI @QMd <|
 aI @Qx9<|aI @Qwh<|aI @QDS<|aI @QsT<|aI @Qwv<|aI @Qw3<|aI @QvA<|aI @Qz8<|aI @Qy0<|aI @QAu <|
 aI @QHH<|aI @QC4<|aI @QyT<|aI @c_g<|aI @QSi<|aI @QBV<|aI @QCB<|aI @QCf <|
 aI @QiP<|aI @QuX<|aI @QrD<|aI @QpA<|aI @Qrs <|
 aI @QGj<|aI @QxT<|aI @QEH<|aI @Qy3<|aI @QHk<|aI @QyR<|aI @QvU<|aI @QFo<|aI @QAH<|aI @QGy<|aI @QES<|aI @QFm<|aI @QCZ<|aI @QEh<|aI @QJ8<|aI @QH9<|aI @QMF<|aI @QLS<|aI @QMh<|aI @QGT<|aI @QDB<|aI @QC5<|aI @QD3<|aI @QPL <|
 aI @QPH<|aI @QO6<|aI @QJM<|aI @QNU<|aI @QJr<|aI @QGu<|aI @QKl<|aI @QEQ<|aI @QAb<|aI @QMy<|aI @QO3 <|
 aI @QLL<|aI @QEW<|aI @Quj<|aI @Qrg<|aI @Qr4<|aI @QqL<|aI @Qqc<|aI @Qwb<|aI @QrN<|aI @Qt9 <|
 aI @Qpb<|aI @QqG<|aI @Vz<|aI @Qic<|aI @QlC<|aI @Qnj <|
 aI @QBi<|aI @Qzv<|aI @QGh<|aI @QBM<|aI @n_r<|aI @n_s<|aI @QQM<|aI @QO0<|aI @QPs <|
 aI @QLH<|aI @QEq<|aI @QzX<|aI @QEF<|aI @QyF<|aI @QE8<|aI @QMU<|aI @QFB<|aI @QCC<|aI @QCj <|
 aI @getD_some<|aI @QjE<|aI @QvO<|aI @QvB<|aI @QwI @QCp
def evB:=aI @Qot<|aI @QoS<|aI @QQy<|aI @QRH<|aI @QQ6<|aI @QRR<|aI @QO8<|aI @k_i<|aI @k_b<|aI @k_s<|aI @QzO<|aI @QFh<|aI @QR7<|aI @QRG<|aI @QRU<|aI @QRu<|aI @QQX<|aI @QPM<|aI @QSb<|aI @QON<|aI @QOA<|aI @QOQ<|aI @QOY<|aI @QSo<|aI @QRx<|aI @QOO<|aI @QRJ<|aI @QRk<|aI @QRq<|aI @QRI<|aI @QQd<|aI @QOD<|aI @QRP<|aI @QRa<|aI @QRf<|aI @QQH<|aI @QLq<|aI @QMo<|aI @Qwk<|aI @QB5<|aI @QxK<|aI @QCk<|aI @QIO<|aI @QLF<|aI @QJs<|aI @QGB<|aI @QJV<|aI @QQ7<|aI @c_K<|aI @QKY<|aI @QHt<|aI @QP9<|aI @s_v<|aI @v_j<|aI @v_s<|aI @QLR<|aI @QNI<|aI @Qxm<|aI @p_0<|aI @p_e<|aI @p_s<|aI @p_n<|aI @p_z<|aI @p_a<|aI @QPc<|aI @QPt<|aI @QQ8<|aI @QOT<|aI @QQx<|aI @QQp<|aI @QP8<|aI @QQL<|aI @QJl<|aI @QlC<|aI @Qnj<|aI @QjE<|aI @getD_some<|aI @n_c<|aI @QI4<|aI @QMD<|aI @QJW<|aI @QNO<|aI @n_g<|aI @QHA<|aI @QKJ<|aI @QMB<|aI @QBM<|aI @n_r<|aI @n_s<|aI @Qzu<|aI @Qzk<|aI @QAo<|aI @Qpb<|aI @QqG<|aI @Vz<|aI @Qic<|aI @Qx9<|aI @Qwh<|aI @QsT<|aI @QBV<|aI @QCB<|aI @QCC<|aI @QCj<|aI @getD_some<|aI @QjE<|aI @Qwc<|aI @QwZ<|aI @Qyr<|aI @Qx1<|aI @VT<|aI @QHn<|aI @QH6<|aI @c_M<|aI @QPF<|aI @QP1<|aI @QPE<|aI @QRZ<|aI @QRV<|aI @QHF<|aI @QIF<|aI @QGc<|aI @QGo<|aI @QBw<|aI @QyW<|aI @QFz<|aI @Qzj<|aI @Qyh<|aI @QLC<|aI @QJJ<|aI @Qyx<|aI @QFx<|aI @QFu<|aI @QIk<|aI @QF3<|aI @QFf<|aI @QEK<|aI @QwY<|aI @Qx2<|aI @QtI<|aI @QsV<|aI @QNH<|aI @QKK<|aI @QOn<|aI @QPI<|aI @QQZ<|aI @QOE<|aI @QRT<|aI @QRC<|aI @s_w<|aI @w_j<|aI @w_s<|aI @QSk<|aI @QQF<|aI @QJo<|aI @QGi<|aI @QQk<|aI @QSg<|aI @QKU<|aI @QRF<|aI @QOy<|aI @QOF<|aI @QQa<|aI @QJR<|aI @QDJ<|aI @QRh<|aI @QOv<|aI @QNt<|aI @QQS<|aI @QPC<|aI @QRi<|aI @QSu<|aI @QOp<|aI @QQj<|aI @QSl<|aI @QOo<|aI @QQs<|aI @QQG<|aI @QQn<|aI @QLe<|aI @QMr<|aI @QO1<|aI @QP5<|aI @QOx<|aI @QR8<|aI @QQo<|aI @QOq<|aI @QQw<|aI @QQV<|aI @QRr<|aI @QSD<|aI @QSL<|aI @QQE<|aI @QOU<|aI @QQQ<|aI @QQ0<|aI @QPv<|aI @QPY<|aI @QRs<|aI @QP6<|aI @QOI<|aI @QPn<|aI @QPN<|aI @QOJ<|aI @QQD<|aI @QPr<|aI @QSj<|aI @QLB<|aI @QJe<|aI @QNx<|aI @QMH<|aI @QPA<|aI @QRM<|aI @QPu<|aI @QOP<|aI @QSs<|aI @QSp<|aI @QPl<|aI @QII<|aI @QK0<|aI @QLG<|aI @QHO<|aI @QR6<|aI @QRn<|aI @QPW<|aI @QO4<|aI @QIJ<|aI @QPS<|aI @QR1<|aI @QGF<|aI @QMm<|aI @QQt<|aI @QQb<|aI @QOd<|aI @QHq<|aI @QIn<|aI @QIN<|aI @QMz<|aI @Bool.true_or<|aI @Bool.false_or<|aI @QOV<|aI @QPg<|aI @QSa<|aI @QRA<|aI @QPG<|aI @QSE<|aI @QPj<|aI @QPT<|aI @w_p<|aI @QQv<|aI @w_x<|aI @w_n<|aI @QBT<|aI @QG2<|aI @QNh<|aI @QvB<|aI @QGe<|aI @QPo<|aI @QtZ<|aI @QsD<|aI @s_t<|aI @s_q<|aI @s_f<|aI @QR4<|aI @QJB<|aI @QD4<|aI @QSw<|aI @QGE<|aI @QD9<|aI @Qrj<|aI @QFp<|aI @QCY<|aI @QLu<|aI @QKO<|aI @QK1<|aI @QEe<|aI @QH7<|aI @QKc<|aI @QMb<|aI @QtL<|aI @QvO<|aI @QwI<|aI @QlC<|aI @QiP <|
 aI @QLg<|aI @QIr<|aI @QQC<|aI @QRQ<|aI @QFH<|aI @QFF<|aI @QEp<|aI @QBo<|aI @Qun<|aI @Qxa<|aI @QyE<|aI @Qwy<|aI @QqV<|aI @QNv<|aI @QHN<|aI @QPk<|aI @QKR <|
 aI @QCg<|aI @QM2<|aI @QG1<|aI @QIp<|aI @QH4<|aI @QJz<|aI @QKv<|aI @QMw<|aI @QNG<|aI @QIl<|aI @QNS<|aI @QKy<|aI @QM8<|aI @QLr<|aI @QK3<|aI @QKH<|aI @QGS<|aI @QMq <|
 aI @QNp<|aI @QGV<|aI @QJ5<|aI @QH0<|aI @QMJ<|aI @QEC<|aI @QGa<|aI @QC9<|aI @QEX<|aI @QHZ<|aI @QE9<|aI @QJ4<|aI @QNr<|aI @QML<|aI @QIz<|aI @QFn<|aI @QEt<|aI @QD0<|aI @QFs<|aI @QFG<|aI @QCT<|aI @QDd<|aI @QEP<|aI @QNA<|aI @QFe <|
 aI @QAg<|aI @QAz<|aI @Qy1<|aI @QNj<|aI @Qzi<|aI @QKg<|aI @QPK<|aI @QGp<|aI @QnT<|aI @QG5<|aI @QLp <|
 aI @QHD<|aI @QLU<|aI @QEY<|aI @QEL<|aI @QKh<|aI @QEV<|aI @QF1<|aI @QE3<|aI @Qzw<|aI @QBk<|aI @QBA<|aI @Qzr <|
 aI @QDu<|aI @QJt<|aI @QDf<|aI @QGd<|aI @QF7<|aI @QAD<|aI @QHI<|aI @QDa<|aI @QF0<|aI @QFg<|aI @QyL<|aI @QyI<|aI @QzQ<|aI @Qvy<|aI @Qwo<|aI @QFa<|aI @QKF<|aI @QEj<|aI @QDQ<|aI @QHQ<|aI @QCN <|
 aI @QOm<|aI @m_c<|aI @QE7<|aI @QCX<|aI @QFL<|aI @QE4<|aI @QJG<|aI @QID<|aI @QKq<|aI @QyZ<|aI @QA9<|aI @QBu <|
 aI @QzF<|aI @QKm<|aI @QyU<|aI @QzI<|aI @QAj<|aI @QOz<|aI @QF8<|aI @QEx<|aI @QCU<|aI @QDR <|
 aI @QL7<|aI @QKM<|aI @QKt<|aI @QG7<|aI @QzH<|aI @Qy2<|aI @QFr<|aI @QBv<|aI @QR0<|aI @QMp<|aI @QHW<|aI @QN4<|aI @QGY<|aI @Qzp<|aI @QMi <|
 aI @QzU<|aI @Qv9<|aI @Qvv<|aI @QGm<|aI @QDH<|aI @QRt<|aI @QLm<|aI @QJ0<|aI @QG4<|aI @QLc<|aI @QHw<|aI @QOe<|aI @QHd<|aI @QFW<|aI @QJY<|aI @QJ2<|aI @QLK<|aI @QKB<|aI @QJI<|aI @QQJ<|aI @QQN<|aI @QOK<|aI @QRb<|aI @QPX<|aI @QPx<|aI @QQU<|aI @QQr<|aI @QSh<|aI @QPU<|aI @QSd<|aI @QOB<|aI @QPO<|aI @QRB<|aI @QOs<|aI @QOW<|aI @QNK<|aI @QNg<|aI @QHK<|aI @QCM<|aI @QEu<|aI @QEO<|aI @QF9<|aI @QGk<|aI @QzP<|aI @QxJ<|aI @QPb <|
 aI @QH3<|aI @QHh<|aI @QFM<|aI @Qlp<|aI @Qr7<|aI @QKj<|aI @QHe<|aI @QDb<|aI @x_b<|aI @x_i<|aI @x_s<|aI @QMW<|aI @QLv<|aI @QHG<|aI @QPm<|aI @QGZ<|aI @QDF<|aI @Qzl<|aI @QPQ <|
 aI @QMG<|aI @QC1<|aI @QEZ<|aI @QIa<|aI @QJ1<|aI @QQz<|aI @QFQ<|aI @QEG<|aI @QM1<|aI @QGO<|aI @QNl<|aI @QIx<|aI @QIK<|aI @QGC<|aI @QDl<|aI @QD8 <|
 aI @QDp<|aI @QAy<|aI @QyV<|aI @QAw<|aI @QBe<|aI @QD2<|aI @QMk<|aI @QIS<|aI @QJK<|aI @QIH<|aI @QA0<|aI @QyD<|aI @QEE<|aI @QC8<|aI @QGr<|aI @QEl<|aI @QFk <|
 aI @l_0<|aI @l_s<|aI @QQY<|aI @QJf<|aI @QKw<|aI @QIW<|aI @QCO<|aI @QCP<|aI @QDK<|aI @QKx<|aI @QSF<|aI @QP2<|aI @QPa<|aI @QRX<|aI @QQO<|aI @QEm<|aI @QJ3<|aI @QKL<|aI @QME<|aI @l_b<|aI @l_i<|aI @QOg<|aI @l_n<|aI @QLw<|aI @QBq<|aI @QAq<|aI @QDZ<|aI @QCS<|aI @QP3<|aI @QQA<|aI @QRO<|aI @QO7<|aI @QGg<|aI @QFc <|
 aI @QMI<|aI @QJw<|aI @QH1<|aI @i_b<|aI @i_i<|aI @QQf<|aI @i_n<|aI @QOh<|aI @QRw<|aI @QCp<|aI @QIM <|
 aI @QNb<|aI @QDP<|aI @QNX<|aI @QQq<|aI @s_b<|aI @QSn<|aI @QSq<|aI @QRm<|aI @QOl<|aI @QSI<|aI @QPV<|aI @QOX<|aI @QRY<|aI @QQI<|aI @QSv<|aI @QDC<|aI @QJD<|aI @QRd<|aI @QPz <|
 aI @QKV<|aI @QIV<|aI @QMx<|aI @QHg<|aI @QLi<|aI @QzR<|aI @QFV<|aI @QJx<|aI @QGv<|aI @QMR <|
 aI @QG9<|aI @QNM<|aI @QSJ<|aI @QCf<|aI @a_1<|aI @a_2<|aI @a_3<|aI @a_4<|aI @QSK<|aI @QQh<|aI @QSH @QOr
def evT:=aI @Qnf<|aI @QF2<|aI @QLh<|aI @QRE<|aI @Qnk<|aI @QNf<|aI @QDt<|aI @QDy<|aI @Qyf<|aI @QIZ<|aI @QvR<|aI @QBx<|aI @Qv5<|aI @QwM<|aI @QK2<|aI @QuV<|aI @QuI<|aI @QuC<|aI @Qpo<|aI @QyC<|aI @Qqu<|aI @QAY @QAa
def evN:=aI @Vz<|aI @List.contains_nil<|aI @Bool.not_false<|aI @Bool.and_true<|aI @List.length_append<|aI @List.length_cons<|aI @List.length_nil<|aI @Nat.zero_add<|aI @VD<|@VT
end Go.Proofs.YtonidbheohhgdaaGreat.Am
