import Derived.Test.YtonidbheohhgdaaGreatEvA
namespace Go.Proofs.YtonidbheohhgdaaGreat.Am
open Go
set_option linter.unusedVariables false
set_option linter.unusedSimpArgs false
section
variable{β:Type}
theorem Qcr{α:Type}{p:Prop}[Decidable p]{b:Bool}(h:b=true↔p)(x y:α):(if p then x else y)=cond b x y:=by
 cases b with
 |true=>rw[if_pos (h.1 rfl)];rfl
 |false=>rw[if_neg (fun hp=>by have:=h.2 hp;cases this)];rfl
theorem Qk4{m n:Nat}:Nat.blt m n=true↔m<n:=by rw[Nat.blt_eq]
theorem Qil{m n:Nat}:Nat.ble m n=true↔m≤n:=by rw[Nat.ble_eq]
def sel{α:Type}(b:Bool)(x y:α)(_:Lk (x,y)):α:=cond b x y
theorem QAl{α:Type}(x y:α)(l):sel true x y l=x:=_root_.id rfl
theorem QzM{α:Type}(x y:α)(l):sel false x y l=y:=_root_.id rfl
theorem QEf(v)(k:AV→Option β)(l):QjM v k l=k v:=_root_.id rfl
theorem QyX(K)(k:KS→Option β)(l):V0 K k l=k K:=_root_.id rfl
theorem QJg(f:Fr)(d:Nat)(v:AV)(t:Nat):up f d v t=sel (d==t) v (f t) ():=by
 unfold up sel;by_cases h:t=d
 ·simp[h]
 ·have:(d==t)=false:=by simp;exact fun h'=>h h'.symm
  simp[h,this]
theorem QMw(m n:Nat):Nat.ble m n=decide (m≤n):=by rw[Bool.eq_iff_iff,Nat.ble_eq];simp
theorem QMR(m n:Nat):Nat.blt m n=decide (m<n):=by rw[Bool.eq_iff_iff,Nat.blt_eq];simp
theorem QQD(h:Decidable True):@decide True h=true:=by simp
theorem QRN(h:Decidable False):@decide False h=false:=by simp
theorem QDM(m n:Nat)(f:Fr)(t:Nat):Qva m n f t=sel (Nat.ble m t&&Nat.blt t n) .u (f t) ():=_root_.id rfl
theorem Qur(t:Nat):frm [] t=.u:=_root_.id rfl
theorem Qq9(d:Nat)(v:AV)(l:List (Nat×AV))(t:Nat):frm ((d,v)::l) t=sel (d==t) v (frm l t) ():=by
 show up (frm l) d v t=_;exact QJg _ _ _ _
theorem Qrm(t:Nat):VP [] t=.u:=by simp[VP]
theorem Qq1(v:AV)(l:List AV):VP (v::l) 0=v:=_root_.id rfl
theorem QqM(v:AV)(l:List AV)(t:Nat):VP (v::l) (t+1)=VP l t:=_root_.id rfl
theorem QvL(f:Fr)(t:Tmp):ev f (.tmp t)=f t:=_root_.id rfl
theorem Qq6(f:Fr)(v:Value):ev f (.const v)=cv v:=_root_.id rfl
theorem Qu9(f:Fr)(g:FuncId):ev f (.func g)=.clo g []:=_root_.id rfl
theorem Quw(b:Bool):cv (.bool b)=.b b:=_root_.id rfl
theorem QvZ(k:IntKind)(i:Int):cv (.int k i)=.i k i:=_root_.id rfl
theorem Qw2(x:ByteArray):cv (.string x)=.s x.data.toList:=_root_.id rfl
theorem Qx1:cv (.slice none 0 0)=.nil:=_root_.id rfl
theorem QqW{α:Type}(x y:α):cond true x y=x:=_root_.id rfl
theorem Qqg{α:Type}(x y:α):cond false x y=y:=_root_.id rfl
theorem VA(q:Option β)(l):Vf true q l=q:=_root_.id rfl
def Qbe{ρ δ γ:Type}(o:Option (Fl ρ δ))(p:ρ→γ)(q:δ→γ):Option γ:=o.map (evO p q)
theorem Qn3{ρ δ γ:Type}(o:Option (Fl ρ δ))(p:ρ→γ)(q:δ→γ)(k:γ→Option β)(l):Jc (Qbe o p q) k l=o.bind (evO (fun r=>k (p r)) (fun r=>k (q r))):=by
 cases o with
 |none=>rfl
 |some o=>cases o<;>rfl
theorem QiC{α:Type}(x:α)(k:α→Option β)(l):Jc (some x) k l=k x:=_root_.id rfl
theorem QoB{α:Type}(k:α→Option β)(l):Jc (none:Option α) k l=none:=_root_.id rfl
theorem Qow{α:Type}(b:Bool)(q:Option α)(k:α→Option β)(l)(l'):Jc (Vf b q l') k l=Vf b (Jc q k l) ():=by cases b<;>rfl
theorem QpY{α γ:Type}(o:Option γ)(e:γ→α)(k:α→Option β)(l):Jc (o.map e) k l=o.bind (fun r=>k (e r)):=by cases o<;>rfl
theorem Qmi{α:Type}(i):lk ([]:List (Nat×α)) i=none:=_root_.id rfl
theorem Qni{α:Type}(i)(x:α)(l j):lk ((i,x)::l) j=sel (i==j) (some x) (lk l j) ():=_root_.id rfl
end
section
variable{β:Type}{P:Program}{D:Orc}{a:Ann}{f:Fr}{K:KS}{Q:KT β}{k:AV→KS→Option β}
theorem QDv(l):Vl P D a .skip Q f K l=Q .normal f K:=_root_.id rfl
theorem QMI(l):Vl P D a .ret Q f K l=Q .ret f K:=_root_.id rfl
theorem QFu(id l):Vl P D a (.exit id) Q f K l=Q (.exit id) f K:=_root_.id rfl
theorem QGW(x y l):Vl P D a (.seq x y) Q f K l=Vl P D a x (Qql (fun f K=>Vl P D a y Q f K ()) Q) f K ():=_root_.id rfl
def QKW(v:AV)(x y:Option β)(_:Lk (x,y)):Option β:=match v with|.b b=>cond b x y|_=>none
theorem QGm(c x y l):Vl P D a (.cond c x y) Q f K l=QKW (ev f c) (Vl P D a x Q f K ()) (Vl P D a y Q f K ()) ():=_root_.id rfl
theorem QJV(b)(x y:Option β)(l):QKW (.b b) x y l=cond b x y:=_root_.id rfl
theorem Qzt(id c l):Vl P D a (.block id c) Q f K l=Vl P D a c (Quf id Q) f K ():=_root_.id rfl
theorem Qxt(id ol l):Vl P D a (.region id (List.toArray ol) false) Q f K l=ofz (lk a.fz id) (lk a.fc id) f K (fun f K=>QiT P D a id (lk a.av id) (List.toArray ol) Q f K ()) ():=_root_.id rfl
theorem QAD{α:Type}(x:α)(xs ys:List α):List.append (x::xs) ys=x::List.append xs ys:=_root_.id rfl
theorem QEU{α:Type}(ys:List α):List.append [] ys=ys:=_root_.id rfl
theorem QR1(f:Fr)(K:KS)(k:Fr→KS→Option β)(l):ofz none none f K k l=k f K:=_root_.id rfl
theorem QO3(f:Fr)(K:KS)(ss)(k:Fr→KS→Option β)(l):ofz (some ss) none f K k l=Qoc ss f K k ():=_root_.id rfl
theorem QSt(f:Fr)(K:KS)(cs)(k:Fr→KS→Option β)(l):ofz none (some cs) f K k l=QoS cs f K k ():=_root_.id rfl
theorem QP2(f:Fr)(K:KS)(k:Fr→KS→Option β)(l):QoS [] f K k l=k f K:=_root_.id rfl
theorem QR8(f:Fr)(K:KS)(s o ss)(k:Fr→KS→Option β)(l):QoS ((s,o)::ss) f K k l=Qzb o (f s) K (fun K=>QoS ss f K k ()) ():=_root_.id rfl
theorem QOF(o jb i q)(K:KS)(k:KS→Option β)(l):Qzb o (.ptr jb i q) K k l=QyO o jb (kg K jb) K k ():=_root_.id rfl
theorem QSv(o jb cs)(K:KS)(k:KS→Option β)(l):QyO o jb (some (.box cs)) K k l=Qzv o jb cs (cs.drop o) K k ():=_root_.id rfl
theorem QOA(o jb j cs ds)(K:KS)(k:KS→Option β)(l):Qzv o jb cs (.sl j::ds) K k l=QBc o jb j cs (kg K j) K k ():=_root_.id rfl
theorem QRU(o jb j cs m rows)(K:KS)(k:KS→Option β)(l):QBc o jb j cs (some (.lst m rows)) K k l=k ((K.set j none).set jb (some (.box (cs.set o (.imm m (Qh rows)))))):=_root_.id rfl
theorem QO0(f:Fr)(K:KS)(k:Fr→KS→Option β)(l):Qoc [] f K k l=k f K:=_root_.id rfl
theorem QRv(f:Fr)(K:KS)(s ss)(k:Fr→KS→Option β)(l):Qoc (s::ss) f K k l=QAY s (f s) f K (fun f K=>Qoc ss f K k ()) ():=_root_.id rfl
theorem QQc(f:Fr)(K:KS)(s j)(k:Fr→KS→Option β)(l):QAY s (.sl j) f K k l=Qy4 s j (kg K j) f K k ():=_root_.id rfl
theorem QQX(f:Fr)(K:KS)(s j m rows)(k:Fr→KS→Option β)(l):Qy4 s j (some (.lst m rows)) f K k l=k (up f s (.imm m (Qh rows))) (K.set j none):=_root_.id rfl
theorem QGX(id ol l):QiT P D a id none (List.toArray ol) Q f K l=QoV P D a id (lk a.an id) (List.toArray ol) ol Q f K ():=_root_.id rfl
theorem QG0(id vs ol l):QiT P D a id (some vs) (List.toArray ol) Q f K l=ZN vs P D (List.toArray ol) ol f K (fun f K=>Q .normal f K) ():=_root_.id rfl
theorem QFN(vs ops)(k:Fr→KS→Option β)(l):ZN vs P D ops [] f K k l=k f K:=_root_.id rfl
theorem QBf(vs ops d o t p af r)(k:Fr→KS→Option β)(l):ZN vs P D ops (⟨some d,o,t,p,af,none⟩::r) f K k l=QkC vs P D o f K (fun v K'=>QjM v (fun v=>ZN vs P D ops r (up f d v) K' k ()) ()) ():=_root_.id rfl
theorem Qv9(vs ops o t p af r)(k:Fr→KS→Option β)(l):ZN vs P D ops (⟨none,o,t,p,af,none⟩::r) f K k l=QkC vs P D o f K (fun v K'=>ZN vs P D ops r f K' k ()) ():=_root_.id rfl
theorem QRT(vs ops r)(k:Fr→KS→Option β)(d op t pos after j want l):ZN vs P D ops (⟨some d,op,t,pos,after,some (j,want)⟩::r) f K k l =
  ogd ((ops[j]?).bind (·.dst)) want f (fun f=>QkC vs P D op f K (fun v K'=>QjM v (fun v=>ZN vs P D ops r (up f d v) K' k ()) ()) ()) (fun f=>QjM (.tup []) (fun v=>ZN vs P D ops r (up f d v) K k ()) ()) ():=_root_.id rfl
theorem QKU(vs ops r)(k:Fr→KS→Option β)(op t pos after j want l):ZN vs P D ops (⟨none,op,t,pos,after,some (j,want)⟩::r) f K k l =
  ogd ((ops[j]?).bind (·.dst)) want f (fun f=>QkC vs P D op f K (fun v K'=>ZN vs P D ops r f K' k ()) ()) (fun f=>ZN vs P D ops r f K k ()) ():=_root_.id rfl
def QdK:Op→Bool
 |.call ⟨.value (.func _),_,_⟩=>true
 |_=>false
theorem QOm(vs o l)(k:AV→KS→Option β)(h:QdK o=false):QkC vs P D o f K k l=oop P D o f K k ():=by
 unfold QdK at h;unfold QkC
 split
 ·cases h
 ·rfl
theorem QMi(vs g args ts l)(k:AV→KS→Option β):QkC vs P D (.call ⟨.value (.func g),args,ts⟩) f K k l=cond (vs.contains g) (Qct P D (.call ⟨.value (.func g),args,ts⟩) f K k ()) (oop P D (.call ⟨.value (.func g),args,ts⟩) f K k ()):=_root_.id rfl
theorem QAU(x args ts):QdK (.call ⟨.value (.tmp x),args,ts⟩)=false:=_root_.id rfl
theorem QKO(b args ts):QdK (.call ⟨.builtin b,args,ts⟩)=false:=_root_.id rfl
theorem Qz8(x):QdK (.move x)=false:=_root_.id rfl
theorem QCT(x):QdK (.assign x)=false:=_root_.id rfl
theorem QAv(t x):QdK (.load t x)=false:=_root_.id rfl
theorem QvW(t x y):QdK (.store t x y)=false:=_root_.id rfl
theorem QIh(t x i):QdK (.fieldAddr t x i)=false:=_root_.id rfl
theorem QNu(t x i):QdK (.indexAddr t x i)=false:=_root_.id rfl
theorem QFA(x i):QdK (.extract x i)=false:=_root_.id rfl
theorem QC4(t x i):QdK (.field t x i)=false:=_root_.id rfl
theorem QF1(o t x y u):QdK (.binOp o t x y u)=false:=_root_.id rfl
theorem QNR(o t x):QdK (.unOp o t x)=false:=_root_.id rfl
theorem QEB(x):QdK (.nilCheck x)=false:=_root_.id rfl
theorem QzN(c x y):QdK (.pick c x y)=false:=_root_.id rfl
theorem QvE(t ps):QdK (.build t ps)=false:=_root_.id rfl
theorem QNm(t n ps):QdK (.buildSlice t n ps)=false:=_root_.id rfl
theorem Qwk(t):QdK (.alloc t)=false:=_root_.id rfl
theorem QFP(t x):QdK (.box t x)=false:=_root_.id rfl
theorem QFU(t x lo hi m):QdK (.slice t x lo hi m)=false:=_root_.id rfl
theorem QFZ(t x i):QdK (.index t x i)=false:=_root_.id rfl
theorem QGY(s t x):QdK (.convert s t x)=false:=_root_.id rfl
theorem QtR(id ops ol l):QoV P D a id none ops ol Q f K l=QqT P D a id (lk a.ac id) ops ol Q f K ():=_root_.id rfl
theorem Qss(id us ops ol l):QoV P D a id (some us) ops ol Q f K l=Qho P D ops us ol f K (fun f K=>Q .normal f K) ():=_root_.id rfl
theorem QtM(id ops ol l):QqT P D a id none ops ol Q f K l=QmE P D a id ops ol Q f K ():=_root_.id rfl
theorem Qtm(id x ops ol l):QqT P D a id (some x) ops ol Q f K l=Qfx P D ops ol f K (fun f K=>Q .normal f K) ():=_root_.id rfl
theorem QD3(ops)(k:Fr→KS→Option β)(l):Qfx P D ops [] f K k l=k f K:=_root_.id rfl
theorem QAM(ops d o t p af r)(k:Fr→KS→Option β)(l):Qfx P D ops (⟨some d,o,t,p,af,none⟩::r) f K k l=Qct P D o f K (fun v K'=>QjM v (fun v=>Qfx P D ops r (up f d v) K' k ()) ()) ():=_root_.id rfl
theorem QwA(ops o t p af r)(k:Fr→KS→Option β)(l):Qfx P D ops (⟨none,o,t,p,af,none⟩::r) f K k l=Qct P D o f K (fun v K'=>Qfx P D ops r f K' k ()) ():=_root_.id rfl
theorem QA0(x l):Qct P D (.move x) f K k l=oop P D (.move x) f K k ():=_root_.id rfl
theorem Qvf(x l):Qct P D (.assign x) f K k l=oop P D (.assign x) f K k ():=_root_.id rfl
theorem QAK(t x l):Qct P D (.load t x) f K k l=oop P D (.load t x) f K k ():=_root_.id rfl
theorem QyL(t x y l):Qct P D (.store t x y) f K k l=oop P D (.store t x y) f K k ():=_root_.id rfl
theorem QIY(t x i l):Qct P D (.fieldAddr t x i) f K k l=oop P D (.fieldAddr t x i) f K k ():=_root_.id rfl
theorem QJD(t x i l):Qct P D (.indexAddr t x i) f K k l=oop P D (.indexAddr t x i) f K k ():=_root_.id rfl
theorem QFG(t x i l):Qct P D (.field t x i) f K k l=oop P D (.field t x i) f K k ():=_root_.id rfl
theorem QDr(x i l):Qct P D (.extract x i) f K k l=oop P D (.extract x i) f K k ():=_root_.id rfl
theorem QE8(o t x y u l):Qct P D (.binOp o t x y u) f K k l=oop P D (.binOp o t x y u) f K k ():=_root_.id rfl
theorem Qvy(t ps l):Qct P D (.build t ps) f K k l=oop P D (.build t ps) f K k ():=_root_.id rfl
theorem QIg(o t x l):Qct P D (.unOp o t x) f K k l=oop P D (.unOp o t x) f K k ():=_root_.id rfl
theorem QFV(x l):Qct P D (.nilCheck x) f K k l=oop P D (.nilCheck x) f K k ():=_root_.id rfl
theorem QyW(c x y l):Qct P D (.pick c x y) f K k l=oop P D (.pick c x y) f K k ():=_root_.id rfl
theorem Qwv(t l):Qct P D (.alloc t) f K k l=oop P D (.alloc t) f K k ():=_root_.id rfl
theorem QEx(t x lo hi m l):Qct P D (.slice t x lo hi m) f K k l=oop P D (.slice t x lo hi m) f K k ():=_root_.id rfl
theorem QDQ(t x i l):Qct P D (.index t x i) f K k l=oop P D (.index t x i) f K k ():=_root_.id rfl
theorem QNL(b xs ts l):Qct P D (.call ⟨.builtin b,xs,ts⟩) f K k l=oop P D (.call ⟨.builtin b,xs,ts⟩) f K k ():=_root_.id rfl
theorem QMW(s t x l):Qct P D (.convert s t x) f K k l=oop P D (.convert s t x) f K k ():=_root_.id rfl
theorem QDk(t x l):Qct P D (.box t x) f K k l=oop P D (.box t x) f K k ():=_root_.id rfl
def Qu0(b c d e:Bool)(D:Orc)(g:FuncId)(K:KS)(vs:List AV)(k:AV→KS→Option β)(_:Lk (vs,k)):Option β:=cond b (Qnq K vs k ()) (cond c (Qmm K vs k ()) (cond d (Qjw D g K vs k ()) (cond e (Qhq D g K vs k ()) (QfD D g K vs k ()))))
theorem QAr(x xs ts l):Qct P D (.call ⟨.value x,List.toArray xs,ts⟩) f K k l=Qri (ev f x) (fun g caps=>Qu0 (D.s g) (D.q g) (D.w g) (D.v g) D g K (xs.map (ev f)++caps) k ()) ():=_root_.id rfl
theorem s_t(g c d e)(K:KS)(vs)(k:AV→KS→Option β)(l):Qu0 true c d e D g K vs k l=Qnq K vs k ():=_root_.id rfl
theorem s_q(g d e)(K:KS)(vs)(k:AV→KS→Option β)(l):Qu0 false true d e D g K vs k l=Qmm K vs k ():=_root_.id rfl
theorem s_f(g)(K:KS)(vs)(k:AV→KS→Option β)(l):Qu0 false false false false D g K vs k l=QfD D g K vs k ():=_root_.id rfl
theorem s_w(g e)(K:KS)(vs)(k:AV→KS→Option β)(l):Qu0 false false true e D g K vs k l=QkZ D g K (Qep vs) vs k ():=_root_.id rfl
theorem w_j(g)(K:KS)(js vs)(k:AV→KS→Option β)(l):QkZ D g K js vs k l=Vf (ndB js) (Qk2 D g K js (QbT js vs) k ()) ():=_root_.id rfl
theorem w_s(g)(K:KS)(js cs)(k:AV→KS→Option β)(l):Qk2 D g K js (some cs) k l=Vf (QhZ (Jb K js)) (Jc (D.a g (Jb K js) cs) (fun r=>k (Qa5 js K.length r.1) (Qc5 K js r.2)) ()) ():=_root_.id rfl
theorem s_v(g)(K:KS)(vs)(k:AV→KS→Option β)(l):Qu0 false false false true D g K vs k l=QkX D g K (Qep vs) vs k ():=_root_.id rfl
theorem v_j(g)(K:KS)(js vs)(k:AV→KS→Option β)(l):QkX D g K js vs k l=Vf (ndB js) (QkS D g K js (QbT js vs) k ()) ():=_root_.id rfl
theorem v_s(g)(K:KS)(js cs)(k:AV→KS→Option β)(l):QkS D g K js (some cs) k l=Vf (Qq4 (Jb K js)) (Jc (D.m g (Jb K js) cs) (fun x=>k (VD K.length x).1 (J1 K js (Qao js)++(VD K.length x).2)) ()) ():=_root_.id rfl
theorem QNn:Qao []=[]:=_root_.id rfl
theorem QHg(j js):Qao (j::js)=none::Qao js:=_root_.id rfl
theorem p_0(vs):QmH [] vs=vs:=by cases vs<;>rfl
theorem p_e(ss):QmH ss []=[]:=by cases ss<;>rfl
theorem p_s(s ss v vs):QmH (s::ss) (v::vs)=Qrp s v::QmH ss vs:=_root_.id rfl
theorem p_n(v):Qrp .n v=v:=by cases v<;>rfl
theorem p_z(k v):Qrp (.z k) v=nic k v:=by cases v<;>rfl
theorem p_a(ns cs):Qrp (.a ns) (.agg cs)=.agg (ni ns cs):=_root_.id rfl
theorem QPc(cs):ni [] cs=cs:=by cases cs<;>rfl
theorem QOI(n ns c cs):ni (n::ns) (c::cs)=nic n c::ni ns cs:=_root_.id rfl
theorem QPz(n):nic (n+1) .nil=.imm (n+1) []:=_root_.id rfl
theorem QPK:nic 0 .nil=.nil:=_root_.id rfl
theorem QRI(n c x):nic n (.i c x)=.i c x:=_root_.id rfl
theorem QRa(n x):nic n (.b x)=.b x:=_root_.id rfl
theorem QPi(n x):nic n (.s x)=.s x:=_root_.id rfl
theorem QPt(n m r):nic n (.imm m r)=.imm m r:=_root_.id rfl
theorem QPp:Qep []=[]:=_root_.id rfl
theorem QSC(c cs):Qep (c::cs)=QlI c++Qep cs:=_root_.id rfl
theorem QHa(j):QlI (.sl j)=[j]:=_root_.id rfl
theorem QHE(j a b):QlI (.ptr j a b)=[j]:=_root_.id rfl
theorem QNr(js j a b):Qce js (.ptr j a b)=(QaT js j).map fun i=>.ptr i a b:=_root_.id rfl
theorem QQo(K js es):Qc5 K js es=J1 K js es++Qhg js es:=_root_.id rfl
theorem QPH(es):Qhg [] es=es:=_root_.id rfl
theorem QRb(j js e es):Qhg (j::js) (e::es)=Qhg js es:=_root_.id rfl
theorem QOM(k i):rix [] k i=k+i:=_root_.id rfl
theorem QPY(j js k):rix (j::js) k 0=j:=_root_.id rfl
theorem QPd(j js k):rix (j::js) k 1=rix js k 0:=_root_.id rfl
theorem QQv(j js k):rix (j::js) k 2=rix js k 1:=_root_.id rfl
theorem QQ8(j js k):rix (j::js) k 3=rix js k 2:=_root_.id rfl
theorem QOr(j js k):rix (j::js) k 4=rix js k 3:=_root_.id rfl
theorem QQm(j js k):rix (j::js) k 5=rix js k 4:=_root_.id rfl
theorem QRh(j js k):rix (j::js) k 6=rix js k 5:=_root_.id rfl
theorem QP0(j js k):rix (j::js) k 7=rix js k 6:=_root_.id rfl
theorem QRs(j js k):rix (j::js) k 8=rix js k 7:=_root_.id rfl
theorem QSj(j js k):rix (j::js) k 9=rix js k 8:=_root_.id rfl
theorem QOL(j js k):rix (j::js) k 10=rix js k 9:=_root_.id rfl
theorem QOu(j js k):rix (j::js) k 11=rix js k 10:=_root_.id rfl
theorem QPL(j js k):rix (j::js) k 12=rix js k 11:=_root_.id rfl
theorem QQq(j js k):rix (j::js) k 13=rix js k 12:=_root_.id rfl
theorem QPT(j js k):rix (j::js) k 14=rix js k 13:=_root_.id rfl
theorem QSd(j js k):rix (j::js) k 15=rix js k 14:=_root_.id rfl
theorem QRe(j js k):rix (j::js) k 16=rix js k 15:=_root_.id rfl
theorem QRL(js k c n):Qa5 js k (.i c n)=.i c n:=by simp[Qa5]
theorem QR3(js k x):Qa5 js k (.b x)=.b x:=by simp[Qa5]
theorem QOE(js k x):Qa5 js k (.s x)=.s x:=by simp[Qa5]
theorem QSb(js k):Qa5 js k .nil=.nil:=by simp[Qa5]
theorem QP5(js k n r):Qa5 js k (.imm n r)=.imm n r:=by simp[Qa5]
theorem QMp(js k i):Qa5 js k (.sl i)=.sl (rix js k i):=by simp[Qa5]
theorem QID(js k i a b):Qa5 js k (.ptr i a b)=.ptr (rix js k i) a b:=by simp[Qa5]
theorem QKc(js k cs):Qa5 js k (.agg cs)=.agg (QeU js k cs):=by simp[Qa5]
theorem QHh(js k cs):Qa5 js k (.tup cs)=.tup (QeU js k cs):=by simp[Qa5]
theorem QQn(js k):QeU js k []=[]:=by simp[QeU]
theorem QRq(js k c cs):QeU js k (c::cs)=Qa5 js k c::QeU js k cs:=by simp[QeU]
theorem QSl(m c n):rok m (.i c n)=true:=_root_.id rfl
theorem QSf(m x):rok m (.b x)=true:=_root_.id rfl
theorem QQL(m x):rok m (.s x)=true:=_root_.id rfl
theorem QQN(m):rok m .nil=true:=_root_.id rfl
theorem QQb(m n r):rok m (.imm n r)=true:=_root_.id rfl
theorem QNH(m i):rok m (.sl i)=Nat.ble (i+1) m:=_root_.id rfl
theorem QMV(m i a b):rok m (.ptr i a b)=Nat.ble (i+1) m:=_root_.id rfl
theorem QHe(m cs):rok m (.agg cs)=Qm0 m cs:=_root_.id rfl
theorem QIy(m cs):rok m (.tup cs)=Qm0 m cs:=_root_.id rfl
theorem QSE(m):Qm0 m []=true:=_root_.id rfl
theorem QSJ(m c cs):Qm0 m (c::cs)=(rok m c&&Qm0 m cs):=_root_.id rfl
theorem QO4(c n):clc (.i c n)=true:=_root_.id rfl
theorem QRx(x):clc (.b x)=true:=_root_.id rfl
theorem QKj(x):clc (.s x)=true:=_root_.id rfl
theorem QPe:clc .nil=true:=_root_.id rfl
theorem QQR(n r):clc (.imm n r)=true:=_root_.id rfl
theorem QNV:QoQ []=true:=_root_.id rfl
theorem QHO(c cs):QoQ (c::cs)=(clc c&&QoQ cs):=_root_.id rfl
theorem QRu:QhZ []=true:=_root_.id rfl
theorem QOG(n r K):QhZ (some (.lst n r)::K)=QhZ K:=_root_.id rfl
theorem QM0(cs K):QhZ (some (.box cs)::K)=(QoQ cs&&QhZ K):=_root_.id rfl
theorem QDL(cs):QlI (.agg cs)=Qep cs:=_root_.id rfl
theorem QQM(c n):QlI (.i c n)=[]:=_root_.id rfl
theorem QRj(x):QlI (.b x)=[]:=_root_.id rfl
theorem QJ0(x):QlI (.s x)=[]:=_root_.id rfl
theorem QPA:QlI .nil=[]:=_root_.id rfl
theorem QSG(n r):QlI (.imm n r)=[]:=_root_.id rfl
theorem QQd(g l):QlI (.clo g l)=[]:=_root_.id rfl
theorem QPq(js):QbT js []=some []:=_root_.id rfl
theorem QRl(js c cs):QbT js (c::cs)=(Qce js c).bind fun c'=>(QbT js cs).map (c'::·):=_root_.id rfl
theorem QLM(js j):Qce js (.sl j)=(QaT js j).map .sl:=_root_.id rfl
theorem QEI(js cs):Qce js (.agg cs)=(QbT js cs).map .agg:=_root_.id rfl
theorem QOg(js c n):Qce js (.i c n)=some (.i c n):=_root_.id rfl
theorem QSa(js x):Qce js (.b x)=some (.b x):=_root_.id rfl
theorem QNh(js x):Qce js (.s x)=some (.s x):=_root_.id rfl
theorem QPE(js):Qce js .nil=some .nil:=_root_.id rfl
theorem QPX(js n r):Qce js (.imm n r)=some (.imm n r):=_root_.id rfl
theorem QRn(js g):Qce js (.clo g [])=some (.clo g []):=_root_.id rfl
theorem QjJ(x y:Nat):Nat.beq x y=(x==y):=by rw[Bool.eq_iff_iff];simp
theorem QQ5(x l j):QaT (x::l) j=sel (x==j) (some 0) ((QaT l j).map (·+1)) ():=by rw[←QjJ];rfl
theorem QPW(K):Jb K []=[]:=_root_.id rfl
theorem QOj(K j js):Jb K (j::js)=kg K j::Jb K js:=_root_.id rfl
theorem QPo(K es):J1 K [] es=K:=by cases es<;>rfl
theorem QQB(K j js e es):J1 K (j::js) (e::es)=J1 (K.set j e) js es:=_root_.id rfl
theorem QOR:Qq4 []=true:=_root_.id rfl
theorem QQE(n r K):Qq4 (some (.lst n r)::K)=Qq4 K:=_root_.id rfl
theorem QRX(c n):AV.scal (.i c n)=true:=_root_.id rfl
theorem QPn(x):AV.scal (.b x)=true:=_root_.id rfl
theorem QRH(x):AV.scal (.s x)=true:=_root_.id rfl
theorem QOo(c n):AV.flat (.i c n)=true:=_root_.id rfl
theorem QSe(x):AV.flat (.b x)=true:=_root_.id rfl
theorem QPw(x):AV.flat (.s x)=true:=_root_.id rfl
theorem QSH:AV.flat (.tup [])=true:=_root_.id rfl
theorem QOX:Qyh .one=true:=_root_.id rfl
theorem w_p(x g j i o)(k:AV→KS→Option β)(l):onp D f K (.ptr j i o) x g k l=onj D f K x g j i o (kg K j) k ():=_root_.id rfl
theorem QRm(x g j i o q r)(k:AV→KS→Option β)(l):onj D f K x g j i o (some (.lst q r)) k l=onx D f K x g j i o q r ((QB r i).drop o) k ():=_root_.id rfl
theorem w_x(x g j i o q r m rs cs)(k:AV→KS→Option β)(l):onx D f K x g j i o q r (.own m rs::cs) k l=Vf x.scal (Jc (D.a g [some (.lst m rs)] [.sl 0,x]) (fun s=>onr D f K j i o q r s k ()) ()) ():=_root_.id rfl
theorem QRV(u us ops d o t p af r)(k:Fr→KS→Option β)(l):Qho P D ops (u::us) (⟨some d,o,t,p,af,none⟩::r) f K k l=oop P D o f K (fun v K'=>QjM v (fun v=>Qho P D ops us r (up f d v) K' k ()) ()) ():=_root_.id rfl
def QBO(d:Option Tmp)(v:AV)(f:Fr)(k:Fr→Option β)(_:Lk (f,k)):Option β:=match d with
 |some d=>QjM v (fun v=>k (up f d v)) ()
 |none=>k f
theorem QCx(d v f)(k:Fr→Option β)(l):QBO (some d) v f k l=QjM v (fun v=>k (up f d v)) ():=_root_.id rfl
theorem QRJ(ops d t p y1 p1 a1 e x y2 p2 a2 dst g d' e' ts y3 p3 a3 r)(k:Fr→KS→Option β)(l):Qho P D ops [] (⟨some d,.load t p,y1,p1,a1,none⟩::⟨some e,.move x,y2,p2,a2,none⟩::⟨dst,.call ⟨.value (.func g),List.toArray [.tmp d',.tmp e'],ts⟩,y3,p3,a3,none⟩::r) f K k l =
  Vf (Qyh (tk P t)&&((d==d')&&((e==e')&&!(d==e)))) (onp D f K (ev f p) (ev (up f d (.sl K.length)) x) g (fun v K'=>QBO dst v (up (up f d (.sl K.length)) e (ev (up f d (.sl K.length)) x)) (fun f=>Qfx P D ops r f K' k ()) ()) ()) ():=by rw[←QjJ,←QjJ,←QjJ];cases dst<;>rfl
theorem QGu(a b l):oop P D (.makeInterface a b) f K k l=none:=_root_.id rfl
theorem QKD(a l):oop P D (.panic a) f K k l=none:=_root_.id rfl
theorem Qnh(t len ps l):Qct P D (.buildSlice t len ps) f K k l=oop P D (.buildSlice t len ps) f K k ():=_root_.id rfl
def Qr9(o:Option (List Int))(K:KS)(j:Nat)(k:AV→KS→Option β)(_:Lk k):Option β:=match o with
 |some xs=>Vf (decide (xs.length<4611686018427387904)) (V0 (K.set j none++[some (.lst 1 ((Xd xs).map cI))]) (fun K'=>k (.sl K.length) K') ()) ()
 |none=>none
def QxD(e:Option Ent)(K:KS)(j:Nat)(k:AV→KS→Option β)(_:Lk k):Option β:=match e with
 |some (.lst 1 rows)=>Qr9 (Qcw rows) K j k ()
 |_=>none
theorem QPG(K:KS)(j)(k:AV→KS→Option β)(l):Qmm K [.sl j] k l=QxD (kg K j) K j k ():=_root_.id rfl
theorem QLG(r)(K:KS)(j)(k:AV→KS→Option β)(l):QxD (some (.lst 1 r)) K j k l=Qr9 (Qcw r) K j k ():=_root_.id rfl
theorem QGq(xs)(K:KS)(j)(k:AV→KS→Option β)(l):Qr9 (some xs) K j k l=Vf (decide (xs.length<4611686018427387904)) (V0 (K.set j none++[some (.lst 1 ((Xd xs).map cI))]) (fun K'=>k (.sl K.length) K') ()) ():=_root_.id rfl
def QrP(o:Option (List Int))(K:KS)(j:Nat)(k:AV→KS→Option β)(_:Lk k):Option β:=match o with
 |some xs=>Vf (decide (xs.length<4611686018427387904)) (V0 (K.set j (some (.lst 1 ((V3 xs).map cI)))) (fun K=>k (.tup []) K) ()) ()
 |none=>none
def Qvu(e:Option Ent)(K:KS)(j:Nat)(k:AV→KS→Option β)(_:Lk k):Option β:=match e with
 |some (.lst 1 rows)=>QrP (Qcw rows) K j k ()
 |_=>none
theorem QPa(K:KS)(j)(k:AV→KS→Option β)(l):Qnq K [.sl j] k l=Qvu (kg K j) K j k ():=_root_.id rfl
theorem QNZ(r)(K:KS)(j)(k:AV→KS→Option β)(l):Qvu (some (.lst 1 r)) K j k l=QrP (Qcw r) K j k ():=_root_.id rfl
theorem QDs(xs)(K:KS)(j)(k:AV→KS→Option β)(l):QrP (some xs) K j k l=Vf (decide (xs.length<4611686018427387904)) (V0 (K.set j (some (.lst 1 ((V3 xs).map cI)))) (fun K=>k (.tup []) K) ()) ():=_root_.id rfl
theorem QrT:∀xs:List Int,Qcw (xs.map fun x=>[.i .i64 x])=some xs
 |[]=>rfl
 |x::xs=>by rw[List.map_cons,Qcw,QrT xs];rfl
noncomputable def Qyt(P:Program)(D:Orc)(a:Ann)(id:Nat)(ops:Array Oper)(o:Option (List Nat))(Q:KT β)(f:Fr)(K:KS)(_:Lk (ops,Q,f)):Option β:=QmE P D a id ops (QqD ops o) Q f K ()
theorem QA3(id ol l):Vl P D a (.region id (List.toArray ol) true) Q f K l=ofz (lk a.fz id) (lk a.fc id) f K (fun f K=>Qii P D a id (lk a.av id) (List.toArray ol) Q f K ()) ():=_root_.id rfl
theorem QL8(id ol l):Qii P D a id none (List.toArray ol) Q f K l=Qpr P D a id (lk a.eb id) (List.toArray ol) Q f K ():=_root_.id rfl
theorem QHU(id vs ol l):Qii P D a id (some vs) (List.toArray ol) Q f K l=QqV vs P D a id (lk a.ot id) (List.toArray ol) Q f K ():=_root_.id rfl
theorem QKi(id vs ol l):QqV vs P D a id none (List.toArray ol) Q f K l=QsO vs P D (List.toArray ol) (lk a.ord id) Q f K ():=_root_.id rfl
theorem QMa(id vs t ops l):QqV vs P D a id (some t) ops Q f K l=Qbh vs P D ops t f K (fun f K=>Q .normal f K) ():=_root_.id rfl
theorem QNE(vs ol l):QsO vs P D (List.toArray ol) none Q f K l=ZN vs P D (List.toArray ol) ol f K (fun f K=>Q .normal f K) ():=_root_.id rfl
theorem QJd(id ops l):Qpr P D a id none ops Q f K l=Qgl P D a id ops (lk a.ot id) Q f K ():=_root_.id rfl
noncomputable def QBQ(P:Program)(D:Orc)(a:Ann)(id:Nat)(ol:List Oper)(Q:KT β)(f:Fr)(K:KS)(_:Lk (Q,f)):Option β:=Qgl P D a id (List.toArray ol) (lk a.ot id) Q f K ()
theorem QLr(id ds ol l):Qpr P D a id (some ds) (List.toArray ol) Q f K l=QBQ P D a id (ol.map (XU ds)) Q f K ():=by
 show Qgl P D a id ((List.toArray ol).map (XU ds)) (lk a.ot id) Q f K ()=Qgl P D a id (List.toArray (ol.map (XU ds))) (lk a.ot id) Q f K ();rw[List.map_toArray]
theorem c_M(id o r l):QBQ P D a id (o::r) Q f K l=Qgl P D a id (List.toArray (o::r)) (lk a.ot id) Q f K ():=_root_.id rfl
theorem QMG(ds d t y p e g):XU ds ⟨d,.buildSlice t 0 (List.toArray []),y,p,e,g⟩=⟨d,.move (.const (.slice none 0 0)),y,p,e,g⟩:=_root_.id rfl
theorem QG2(ds d t m ps y p e g):XU ds ⟨d,.buildSlice t (m+1) ps,y,p,e,g⟩=⟨d,.buildSlice t (m+1) ps,y,p,e,g⟩:=_root_.id rfl
theorem QEg(ds d s x ts y p e g):XU ds ⟨d,.call ⟨.builtin .append,List.toArray [.tmp s,x],ts⟩,y,p,e,g⟩=cond (ds.contains s) ⟨d,.call ⟨.builtin .append,List.toArray [.const (.slice none 0 0),x],ts⟩,y,p,e,g⟩ ⟨d,.call ⟨.builtin .append,List.toArray [.tmp s,x],ts⟩,y,p,e,g⟩:=_root_.id rfl
theorem QDb(ds d xs ts y p e g):XU ds ⟨d,.call ⟨.builtin .len,xs,ts⟩,y,p,e,g⟩=⟨d,.call ⟨.builtin .len,xs,ts⟩,y,p,e,g⟩:=_root_.id rfl
theorem Qzs(ds d v xs ts y p e g):XU ds ⟨d,.call ⟨.value v,xs,ts⟩,y,p,e,g⟩=⟨d,.call ⟨.value v,xs,ts⟩,y,p,e,g⟩:=_root_.id rfl
theorem QA4(ds d x y p e g):XU ds ⟨d,.move x,y,p,e,g⟩=⟨d,.move x,y,p,e,g⟩:=_root_.id rfl
theorem QDw(ds d x y p e g):XU ds ⟨d,.assign x,y,p,e,g⟩=⟨d,.assign x,y,p,e,g⟩:=_root_.id rfl
theorem QyQ(ds d t x y p e g):XU ds ⟨d,.load t x,y,p,e,g⟩=⟨d,.load t x,y,p,e,g⟩:=_root_.id rfl
theorem Qyb(ds d t x z y p e g):XU ds ⟨d,.store t x z,y,p,e,g⟩=⟨d,.store t x z,y,p,e,g⟩:=_root_.id rfl
theorem QIB(ds d t x i y p e g):XU ds ⟨d,.fieldAddr t x i,y,p,e,g⟩=⟨d,.fieldAddr t x i,y,p,e,g⟩:=_root_.id rfl
theorem QIx(ds d t x i y p e g):XU ds ⟨d,.indexAddr t x i,y,p,e,g⟩=⟨d,.indexAddr t x i,y,p,e,g⟩:=_root_.id rfl
theorem QwT(ds d t ps y p e g):XU ds ⟨d,.build t ps,y,p,e,g⟩=⟨d,.build t ps,y,p,e,g⟩:=_root_.id rfl
theorem QDU(ds d o t x z u y p e g):XU ds ⟨d,.binOp o t x z u,y,p,e,g⟩=⟨d,.binOp o t x z u,y,p,e,g⟩:=_root_.id rfl
theorem QEO(ds d x y p e g):XU ds ⟨d,.nilCheck x,y,p,e,g⟩=⟨d,.nilCheck x,y,p,e,g⟩:=_root_.id rfl
theorem QGL(ds d o t x y p e g):XU ds ⟨d,.unOp o t x,y,p,e,g⟩=⟨d,.unOp o t x,y,p,e,g⟩:=_root_.id rfl
theorem QF4(ds d t x i y p e g):XU ds ⟨d,.field t x i,y,p,e,g⟩=⟨d,.field t x i,y,p,e,g⟩:=_root_.id rfl
theorem QGs(ds d x i y p e g):XU ds ⟨d,.extract x i,y,p,e,g⟩=⟨d,.extract x i,y,p,e,g⟩:=_root_.id rfl
theorem QFB(ds d t x y p e g):XU ds ⟨d,.box t x,y,p,e,g⟩=⟨d,.box t x,y,p,e,g⟩:=_root_.id rfl
theorem Qv8(ds d t y p e g):XU ds ⟨d,.alloc t,y,p,e,g⟩=⟨d,.alloc t,y,p,e,g⟩:=_root_.id rfl
theorem QyH(ds d t x lo hi mx y p e g):XU ds ⟨d,.slice t x lo hi mx,y,p,e,g⟩=⟨d,.slice t x lo hi mx,y,p,e,g⟩:=_root_.id rfl
theorem Qyg(id ol l):Qgl P D a id (List.toArray ol) none Q f K l=Qyt P D a id (List.toArray ol) (lk a.ord id) Q f K ():=_root_.id rfl
theorem QxI(id ops t l):Qgl P D a id ops (some t) Q f K l=Qdg P D ops t f K (fun f K=>Q .normal f K) ():=_root_.id rfl
noncomputable def Qr1(P:Program)(D:Orc)(ops:Array Oper)(o:Option Oper)(t:OT)(f:Fr)(K:KS)(k:Fr→KS→Option β)(_:Lk (ops,f,k)):Option β:=match o with
 |some o=>QcH P D ops [o] f K (fun f K=>Qdg P D ops t f K k ()) ()
 |none=>none
theorem QxQ(ops)(k:Fr→KS→Option β)(l):Qdg P D ops .done f K k l=k f K:=_root_.id rfl
theorem QLg(ol i t)(k:Fr→KS→Option β)(l):Qdg P D (List.toArray ol) (.one i t) f K k l=Qr1 P D (List.toArray ol) (ol[i]?) t f K k ():=by
 have:(List.toArray ol)[i]?=ol[i]?:=by simp
 unfold Qdg Qr1;rw[this];cases ol[i]?<;>rfl
theorem QwU(ops o t)(k:Fr→KS→Option β)(l):Qr1 P D ops (some o) t f K k l=QcH P D ops [o] f K (fun f K=>Qdg P D ops t f K k ()) ():=_root_.id rfl
theorem Qwj(vs ops)(k:Fr→KS→Option β)(l):Qbh vs P D ops .done f K k l=k f K:=_root_.id rfl
noncomputable def QnL(vs:List Nat)(P:Program)(D:Orc)(ops:Array Oper)(o:Option Oper)(t:OT)(f:Fr)(K:KS)(k:Fr→KS→Option β)(_:Lk (ops,f,k)):Option β:=match o with
 |some o=>ZN vs P D ops [o] f K (fun f K=>Qbh vs P D ops t f K k ()) ()
 |none=>none
theorem QCA(vs ol i t)(k:Fr→KS→Option β)(l):Qbh vs P D (List.toArray ol) (.one i t) f K k l=QnL vs P D (List.toArray ol) (ol[i]?) t f K k ():=by
 have:(List.toArray ol)[i]?=ol[i]?:=by simp
 unfold Qbh QnL;rw[this];cases ol[i]?<;>rfl
theorem QyK(vs ops o t)(k:Fr→KS→Option β)(l):QnL vs P D ops (some o) t f K k l=ZN vs P D ops [o] f K (fun f K=>Qbh vs P D ops t f K k ()) ():=_root_.id rfl
theorem QB6(vs ops a b)(k:Fr→KS→Option β)(l):Qbh vs P D ops (.alt a b) f K k l=oeq (Qbh vs P D ops a f K k ()) (Qbh vs P D ops b f K k ()):=_root_.id rfl
theorem QL5(ops a b)(k:Fr→KS→Option β)(l):Qdg P D ops (.alt a b) f K k l=oeq (Qdg P D ops a f K k ()) (Qdg P D ops b f K k ()):=_root_.id rfl
theorem VT(x:Option β):oeq x x=x:=by simp[oeq]
theorem VC(p q:Bool)(x:Option β)(l l':Unit):Vf p (Vf q x l) l'=Vf q (Vf p x l) l':=by cases p<;>cases q<;>rfl
theorem QDW(id ol l):Qyt P D a id (List.toArray ol) none Q f K l=QmE P D a id (List.toArray ol) ol Q f K ():=_root_.id rfl
def pk:List Oper→List Nat→List Oper
 |_,[]=>[]
 |ol,i::is=>match ol[i]? with|some o=>o::pk ol is|none=>pk ol is
noncomputable def QB7(P:Program)(D:Orc)(a:Ann)(id:Nat)(ops:Array Oper)(l:List Oper)(Q:KT β)(f:Fr)(K:KS)(_:Lk (ops,Q,f)):Option β:=QmE P D a id ops l Q f K ()
theorem QnF(ol is):QqD (List.toArray ol) (some is)=pk ol is:=by
 show is.filterMap (fun i=>(List.toArray ol)[i]?)=_
 induction is with
 |nil=>rfl
 |cons i is ih =>
  rw[pk,List.filterMap_cons];have:(List.toArray ol)[i]?=ol[i]?:=by simp
  rw[this];cases ol[i]? with
  |none=>simpa using ih
  |some o=>rw[←ih]
theorem QDn(id ol is l):Qyt P D a id (List.toArray ol) (some is) Q f K l=QB7 P D a id (List.toArray ol) (pk ol is) Q f K ():=by
 show QmE P D a id _ (QqD _ _) Q f K ()=_;rw[QnF];rfl
noncomputable def QBL(vs:List Nat)(P:Program)(D:Orc)(ops:Array Oper)(l:List Oper)(Q:KT β)(f:Fr)(K:KS)(_:Lk (ops,Q,f)):Option β:=ZN vs P D ops l f K (fun f K=>Q .normal f K) ()
theorem QP3(vs ol is l):QsO vs P D (List.toArray ol) (some is) Q f K l=QBL vs P D (List.toArray ol) (pk ol is) Q f K ():=by
 show ZN vs P D _ (QqD _ _) f K _ ()=_;rw[QnF];rfl
theorem c_K(vs ops o r l):QBL vs P D ops (o::r) Q f K l=ZN vs P D ops (o::r) f K (fun f K=>Q .normal f K) ():=_root_.id rfl
theorem QJo(ol):pk ol []=[]:=_root_.id rfl
def pkO(o:Option Oper)(l:List Oper):List Oper:=match o with|some o=>o::l|none=>l
theorem QLs(ol i is):pk ol (i::is)=pkO (ol[i]?) (pk ol is):=by rw[pk];cases ol[i]?<;>rfl
theorem QJm(o l):pkO (some o) l=o::l:=_root_.id rfl
theorem QDm(id ops o r l):QB7 P D a id ops (o::r) Q f K l=QmE P D a id ops (o::r) Q f K ():=_root_.id rfl
theorem QKX{α:Type}(x:α)(l:List α):(x::l)[0]?=some x:=_root_.id rfl
theorem QNN{α:Type}(x:α)(l:List α)(i:Nat):(x::l)[i+1]?=l[i]?:=_root_.id rfl
theorem QN3{α:Type}(l:List α)(i:Nat):(List.toArray l)[i]?=l[i]?:=by simp
theorem QtW{α γ:Type}(x:α)(g:α→Option γ):(some x).bind g=g x:=_root_.id rfl
noncomputable def QxK(P:Program)(D:Orc)(j:Option (Nat×Nat×Nat))(ops:Array Oper)(l:List Oper)(Q:KT β)(f:Fr)(K:KS)(_:Lk (l,Q,f)):Option β :=
 match j with
 |none=>QcH P D ops l f K (fun f K=>Q .normal f K) ()
 |some (s,lo,hi)=>Qnb (QcH P D ops l f K (fun f _=>asB (f s)) ()) (fun c=>Q .normal (up (Qva lo hi f) s (.b c)) K) ()
theorem QHf(id ops ol l):QmE P D a id ops ol Q f K l=QxK P D (lk a.jn id) ops ol Q f K ():=_root_.id rfl
theorem Qyo(ops ol l):QxK P D none ops ol Q f K l=QcH P D ops ol f K (fun f K=>Q .normal f K) ():=_root_.id rfl
theorem Qvt(s lo hi ops ol l):QxK P D (some (s,lo,hi)) ops ol Q f K l=Qnb (QcH P D ops ol f K (fun f _=>asB (f s)) ()) (fun c=>Q .normal (up (Qva lo hi f) s (.b c)) K) ():=_root_.id rfl
theorem QAJ(o)(k:Bool→Option β)(l):Qnb o k l=o.bind k:=_root_.id rfl
theorem QJp(b)(k:Bool→Option β)(l):Qnb (Qj8 b) k l=k b:=_root_.id rfl
theorem QBb(b x y):cond b (Qj8 x) (Qj8 y)=Qj8 (cond b x y):=by cases b<;>rfl
theorem QRg(b):Qj8 b=some b:=_root_.id rfl
theorem QI5(a b:Bool):cond a b false=(a&&b):=by cases a<;>rfl
theorem QRw(a b:Bool):cond a true b=(a||b):=by cases a<;>rfl
theorem QEH(a b:Bool):cond a false b=(!a&&b):=by cases a<;>rfl
theorem QHd(b):asB (.b b)=Qj8 b:=_root_.id rfl
def QBW(D:Orc)(t:Nat)(z:List Nat)(la:Option LA)(Q:KT β)(f:Fr)(K:KS)(_:Lk Q):Option β :=
 match la with
 |some la=>Qef z la.sl la.rg f K (fun f K=>Jc (D.l t f K) (fun o=>Q o.1 o.2.1 o.2.2) ()) ()
 |none=>none
theorem QDJ(c l):Vl P D a (.loop c) Q f K l=QBW D (tag c) a.ak (lk a.lp (tag c)) Q f K ():=_root_.id rfl
theorem QsM(t z la l):QBW D t z (some la) Q f K l=Qef z la.sl la.rg f K (fun f K=>Jc (D.l t f K) (fun o=>Q o.1 o.2.1 o.2.2) ()) ():=_root_.id rfl
theorem QiK(id o d):tag (.region id o d)=id:=_root_.id rfl
theorem QuN(x y):tag (.seq x y)=tag x:=_root_.id rfl
theorem QrF(c x y):tag (.cond c x y)=tag x:=_root_.id rfl
theorem Qpg(i x):tag (.block i x)=tag x:=_root_.id rfl
theorem Qrt(x):tag (.loop x)=tag x:=_root_.id rfl
theorem QxN(k:Fr→KS→Option β)(Q f K):Qql k Q .normal f K=k f K:=_root_.id rfl
theorem QwR(k:Fr→KS→Option β)(Q f K):Qql k Q .ret f K=Q .ret f K:=_root_.id rfl
theorem Qyj(k:Fr→KS→Option β)(Q id f K):Qql k Q (.exit id) f K=Q (.exit id) f K:=_root_.id rfl
theorem QzG(i f K):Quf i Q .normal f K=Q .normal f K:=_root_.id rfl
theorem QA9(i f K):Quf i Q .ret f K=Q .ret f K:=_root_.id rfl
theorem QzB(i j f K):Quf i Q (.exit j) f K=sel (j==i) (Q .normal f K) (Q (.exit j) f K) ():=_root_.id rfl
theorem QJP(ops)(k:Fr→KS→Option β)(l):QcH P D ops [] f K k l=k f K:=_root_.id rfl
theorem QEV(ops r)(k:Fr→KS→Option β)(d op t pos after l):QcH P D ops (⟨some d,op,t,pos,after,none⟩::r) f K k l=oop P D op f K (fun v K'=>QjM v (fun v=>QcH P D ops r (up f d v) K' k ()) ()) ():=_root_.id rfl
theorem QyT(ops r)(k:Fr→KS→Option β)(op t pos after l):QcH P D ops (⟨none,op,t,pos,after,none⟩::r) f K k l=oop P D op f K (fun v K'=>QcH P D ops r f K' k ()) ():=_root_.id rfl
theorem c_g(ops r)(k:Fr→KS→Option β)(d op t pos after j want l):QcH P D ops (⟨some d,op,t,pos,after,some (j,want)⟩::r) f K k l =
  ogd ((ops[j]?).bind (·.dst)) want f (fun f=>oop P D op f K (fun v K'=>QjM v (fun v=>QcH P D ops r (up f d v) K' k ()) ()) ()) (fun f=>QjM (.tup []) (fun v=>QcH P D ops r (up f d v) K k ()) ()) ():=_root_.id rfl
theorem QQ2(ops r)(k:Fr→KS→Option β)(op t pos after j want l):QcH P D ops (⟨none,op,t,pos,after,some (j,want)⟩::r) f K k l =
  ogd ((ops[j]?).bind (·.dst)) want f (fun f=>oop P D op f K (fun v K'=>QcH P D ops r f K' k ()) ()) (fun f=>QcH P D ops r f K k ()) ():=_root_.id rfl
def QAf(v:AV)(d:Nat)(want:Bool)(f:Fr)(yes no:Fr→Option β)(_:Lk (f,yes,no)):Option β :=
 match v with
 |.b x=>cond x (cond want (yes (up f d (.b true))) (no (up f d (.b true)))) (cond want (no (up f d (.b false))) (yes (up f d (.b false))))
 |.tup []=>no f
 |_=>none
theorem QRk(d want)(yes no:Fr→Option β)(l):ogd (some d) want f yes no l=QAf (f d) d want f yes no ():=by
 cases want<;>rfl
theorem QCi(b d)(yes no:Fr→Option β)(l):QAf (.b b) d true f yes no l=cond b (yes (up f d (.b true))) (no (up f d (.b false))):=_root_.id rfl
theorem QCg(b d)(yes no:Fr→Option β)(l):QAf (.b b) d false f yes no l=cond b (no (up f d (.b true))) (yes (up f d (.b false))):=_root_.id rfl
theorem QBU(d w)(yes no:Fr→Option β)(l):QAf (.tup []) d w f yes no l=no f:=_root_.id rfl
theorem QC5(x l):oop P D (.move x) f K k l=k (ev f x) K:=_root_.id rfl
theorem QvA(x l):oop P D (.assign x) f K k l=k (ev f x) K:=_root_.id rfl
theorem QEk(c x y l):oop P D (.pick c x y) f K k l=Qlo (ev f c) (ev f x) (ev f y) (fun v=>k v K) ():=_root_.id rfl
theorem Qze(t l):oop P D (.alloc t) f K k l=QlB K (tzc P t) k ():=_root_.id rfl
theorem QMv(t v l):oop P D (.box t v) f K k l=Qru K (ev f v) k ():=_root_.id rfl
theorem Qzf(t ps l):oop P D (.build t (List.toArray ps)) f K k l=Qjz K (tbd P t) (ps.map fun p=>(p.1,ev f p.2)) (fun v=>k v K) ():=_root_.id rfl
theorem QwY(t len ps l):oop P D (.buildSlice t len (List.toArray ps)) f K k l=QgF (zB (Qda P t)) (Qda P t) K (tse P t) len (ps.map fun p=>(p.1,ev f p.2)) k ():=_root_.id rfl
theorem QDp(t x l):oop P D (.load t x) f K k l=QfF (tk P t) (Ja K (ev f x)) (fun v=>k v K) ():=_root_.id rfl
theorem QyS(t p v l):oop P D (.store t p v) f K k l=Qh5 (flT P t) (slz P 9 t) K (tk P t) (ev f p) (ev f v) (fun K=>k .u K) ():=_root_.id rfl
theorem QHj(op t x y s l):oop P D (.binOp op t x (.tmp y) s) f K k l=JJ (Qju P t) op (ev f x) (ev f (.tmp y)) (fun v=>k v K) ():=_root_.id rfl
theorem QFE(op t x c n s l):oop P D (.binOp op t x (.const (.int c n)) s) f K k l=JJ (Qju P t) op (ev f x) (ev f (.const (.int c n))) (fun v=>k v K) ():=_root_.id rfl
theorem QDe(op t x c s l):oop P D (.binOp op t x (.const (.bool c)) s) f K k l=JJ (Qju P t) op (ev f x) (ev f (.const (.bool c))) (fun v=>k v K) ():=_root_.id rfl
theorem QDl(op t x c s l):oop P D (.binOp op t x (.const (.string c)) s) f K k l=JJ (Qju P t) op (ev f x) (ev f (.const (.string c))) (fun v=>k v K) ():=_root_.id rfl
theorem QDf(op t x s l)(h:Qnm P t=true):oop P D (.binOp op t x (.const (.slice none 0 0)) s) f K k l=Qjn op (ev f x) (fun v=>k v K) ():=by simp[oop,Qbg,h]
theorem QLx(g caps l):oop P D (.makeFunc (.func g) (List.toArray []) (List.toArray caps)) f K k l=k (.clo g (caps.map (ev f))) K:=by simp[oop]
theorem QKE(s t x l)(h:bsl P s=true):oop P D (.convert s t x) f K k l=Qqo K (ti P t) (ev f x) (fun v=>k v K) ():=by simp[oop,h]
theorem QHi(s t x l)(h:bsl P s=false)(h2:tok P s=true):oop P D (.convert s t x) f K k l=Qo8 (ti P t) (ev f x) (fun v=>k v K) ():=by simp[oop,h,h2]
theorem QKY(t x lo hi l):oop P D (.slice t x lo hi none) f K k l=Qg8 (ti P t) (ev f x) (lo.map (ev f)) (hi.map (ev f)) (fun v=>k v K) ():=_root_.id rfl
theorem QHZ(t x i l):oop P D (.index t x i) f K k l=Qwc (ti P t) (ev f x) (ev f i) (fun v=>k v K) ():=_root_.id rfl
theorem QJ3(x l):oop P D (.nilCheck x) f K k l=Qxe K (ev f x) (fun v=>k v K) ():=_root_.id rfl
theorem QQP(op t x l):oop P D (.unOp op t x) f K k l=oun op (ev f x) (fun v=>k v K) ():=_root_.id rfl
theorem QOW(t x fl l):oop P D (.fieldAddr t x fl) f K k l=QuO K (ev f x) (tfo P t fl) (fun v=>k v K) ():=_root_.id rfl
theorem QOU(t x i l):oop P D (.indexAddr t x i) f K k l=QqX K (ti P t) (ev f x) (ev f i) (fun v=>k v K) ():=_root_.id rfl
theorem QMz(t x i l):oop P D (.field t x i) f K k l=Qyk (tfo P t i) (ev f x) (fun v=>k v K) ():=_root_.id rfl
theorem QH8(x i l):oop P D (.extract x i) f K k l=QwD (ev f x) i (fun v=>k v K) ():=_root_.id rfl
theorem QIQ(x t ts l):oop P D (.call ⟨.builtin .len,List.toArray [x],List.toArray (t::ts)⟩) f K k l=Qqi K (ti P t) (ev f x) (fun v=>k v K) ():=_root_.id rfl
theorem QGD(x y ts l):oop P D (.call ⟨.builtin .min,List.toArray [x,y],ts⟩) f K k l=QwJ (ev f x) (ev f y) (fun v=>k v K) ():=_root_.id rfl
theorem QMN(x y ts l):oop P D (.call ⟨.builtin .max,List.toArray [x,y],ts⟩) f K k l=QwG (ev f x) (ev f y) (fun v=>k v K) ():=_root_.id rfl
theorem QD4(g args ts l):oop P D (.call ⟨.value g,List.toArray args,ts⟩) f K k l=Qri (ev f g) (fun g caps=>QfD D g K (args.map (ev f)++caps) k ()) ():=_root_.id rfl
theorem QNF(g caps)(k:FuncId→List AV→Option β)(l):Qri (.clo g caps) k l=k g caps:=_root_.id rfl
theorem QBn(g vs l):QfD D g K vs k l=Jc (D.p g (QmH (D.z g) (QcA K vs))) (fun x=>k (VD K.length x).1 (K++(VD K.length x).2)) ():=_root_.id rfl
end
def QEt{β:Type}(o:Option Bool)(k:Bool→Option β)(_:Lk k):Option β:=match o with|some b=>k b|none=>none
section
variable{β:Type}{k:AV→Option β}{c:IntKind}{a b:Int}{te:Option (List CK)}
theorem QDy(K j i o l):Qxe K (.ptr j i o) k l=Qtl (kg K j) (.ptr j i o) k ():=_root_.id rfl
theorem QF2(e x l):Qtl (some e) x k l=k x:=_root_.id rfl
theorem QCY(K n r i o l):Qxe K (.iptr n r i o) k l=k (.iptr n r i o):=_root_.id rfl
theorem QCD(l):JJ te .and (.i c a) (.i c b) k l=k (.i c (QeC .and c a b)):=by simp[JJ,QfJ]
theorem QJb(l):JJ te .or (.i c a) (.i c b) k l=k (.i c (QeC .or c a b)):=by simp[JJ,QfJ]
theorem QMM(l):JJ te .xor (.i c a) (.i c b) k l=k (.i c (QeC .xor c a b)):=by simp[JJ,QfJ]
theorem QKV(d l):JJ te .shl (.i c a) (.i d b) k l=Vf (decide (0≤b)) (k (.i c (shI .shl c a b))) ():=by simp[JJ,QfJ]
theorem QN8(d l):JJ te .shr (.i c a) (.i d b) k l=Vf (decide (0≤b)) (k (.i c (shI .shr c a b))) ():=by simp[JJ,QfJ]
theorem QLZ(l):JJ te .add (.i c a) (.i c b) k l=k (.i c (c.wrap (a+b))):=by simp[JJ,QfJ]
theorem QJR(l):JJ te .sub (.i c a) (.i c b) k l=k (.i c (c.wrap (a-b))):=by simp[JJ,QfJ]
theorem QL4(l):JJ te .mul (.i c a) (.i c b) k l=k (.i c (c.wrap (a*b))):=by simp[JJ,QfJ]
theorem QJ7(l):JJ te .quo (.i c a) (.i c b) k l=Vf (!decide (b=0)) (k (.i c (c.wrap (a.tdiv b)))) ():=by simp[JJ,QfJ]
theorem QLq(l):JJ te .rem (.i c a) (.i c b) k l=Vf (!decide (b=0)) (k (.i c (a.tmod b))) ():=by simp[JJ,QfJ]
theorem QMB(l):JJ te .eql (.i c a) (.i c b) k l=k (.b (decide (a=b))):=by simp[JJ,QfJ]
theorem QLS(l):JJ te .neq (.i c a) (.i c b) k l=k (.b (!decide (a=b))):=by simp[JJ,QfJ]
theorem QMh(l):JJ te .lss (.i c a) (.i c b) k l=k (.b (decide (a<b))):=by simp[JJ,QfJ]
theorem QJw(l):JJ te .leq (.i c a) (.i c b) k l=k (.b (decide (a≤b))):=by simp[JJ,QfJ]
theorem QMd(l):JJ te .gtr (.i c a) (.i c b) k l=k (.b (decide (b<a))):=by simp[JJ,QfJ]
theorem QNJ(l):JJ te .geq (.i c a) (.i c b) k l=k (.b (decide (b≤a))):=by simp[JJ,QfJ]
theorem QGF(ks xs ys l):JJ (some ks) .eql (.agg xs) (.agg ys) k l=QEt (QI ks xs ys) (fun b=>k (.b b)) ():=_root_.id rfl
theorem QJM(ks xs ys l):JJ (some ks) .neq (.agg xs) (.agg ys) k l=QEt (QI ks xs ys) (fun b=>k (.b (!b))) ():=_root_.id rfl
theorem QM2(x y l):JJ (some [.t]) .eql (.b x) (.b y) k l=k (.b (decide (x=y))):=_root_.id rfl
theorem QKa(x y l):JJ (some [.t]) .neq (.b x) (.b y) k l=k (.b (!decide (x=y))):=_root_.id rfl
theorem QNT(b)(k:Bool→Option β)(l):QEt (some b) k l=k b:=_root_.id rfl
theorem QFH(x y l):JJ te .add (.s x) (.s y) k l=Vf (QGH x y) (k (.s (QMn x y))) ():=by simp[JJ,QGH,QMn]
theorem QE4(x y l):JJ te .eql (.s x) (.s y) k l=k (.b (decide (x=y))):=by simp[JJ]
theorem QDK(x y l):JJ te .neq (.s x) (.s y) k l=k (.b (!decide (x=y))):=by simp[JJ]
def QBY(o:Option AV)(k:AV→Option β)(_:Lk k):Option β:=match o with|some c=>k c|none=>none
theorem QG5(cs i l):QwD (.tup cs) i k l=QBY (cs[i]?) k ():=_root_.id rfl
theorem QFR(c l):QBY (some c) k l=k c:=_root_.id rfl
theorem QKh:QI [] [] []=some true:=_root_.id rfl
theorem QJy(ks c x y xs ys):QI (.i::ks) (.i c x::xs) (.i c y::ys)=(QI ks xs ys).map (decide (x=y)&&·):=by simp[QI]
theorem QI6(ks x y xs ys):QI (.b::ks) (.b x::xs) (.b y::ys)=(QI ks xs ys).map (decide (x=y)&&·):=_root_.id rfl
theorem QMC(ks x y xs ys):QI (.s::ks) (.s x::xs) (.s y::ys)=(QI ks xs ys).map (decide (x=y)&&·):=_root_.id rfl
theorem QMe(x l):oun .not (.b x) k l=k (.b (!x)):=_root_.id rfl
theorem QNY(l):oun .neg (.i c a) k l=k (.i c (c.wrap (-a))):=_root_.id rfl
theorem Qz3(x y:AV)(l):Qlo (.b true) x y k l=k x:=_root_.id rfl
theorem QzD(x y:AV)(l):Qlo (.b false) x y k l=k y:=_root_.id rfl
theorem Qz2(x y:Bool)(c:Bool)(l):Qlo (.b c) (.b x) (.b y) k l=k (.b (cond c x y)):=by cases c<;>rfl
theorem QMJ(l):QwJ (.i c a) (.i c b) k l=k (.i c (if b<a then b else a)):=_root_.id rfl
theorem QHr(l):QwG (.i c a) (.i c b) k l=k (.i c (if a<b then b else a)):=_root_.id rfl
theorem QLQ(e:Option Ent)(K:KS):kg (e::K) 0=e:=_root_.id rfl
theorem QJr(e:Option Ent)(K:KS)(j:Nat):kg (e::K) (j+1)=kg K j:=_root_.id rfl
theorem QF7{α:Type}(e e':α)(K:List α):(e::K).set 0 e'=e'::K:=_root_.id rfl
theorem QDA{α:Type}(e e':α)(K:List α)(j:Nat):(e::K).set (j+1) e'=e::K.set j e':=_root_.id rfl
theorem QNK{α:Type}(e:α)(K L:List α):(e::K)++L=e::(K++L):=_root_.id rfl
theorem QEu{α:Type}(L:List α):[]++L=L:=_root_.id rfl
theorem QEK{α:Type}:([]:List α).length=0:=_root_.id rfl
theorem QDX{α:Type}(e:α)(K:List α):(e::K).length=K.length+1:=_root_.id rfl
theorem QBe{α:Type}(K:List α):K.drop 0=K:=_root_.id rfl
theorem QBp{α:Type}(e:α)(K:List α)(n:Nat):(e::K).drop (n+1)=K.drop n:=_root_.id rfl
theorem Qzc{α:Type}(K:List α):K.take 0=[]:=by simp
theorem QyP{α:Type}(e:α)(K:List α)(n:Nat):(e::K).take (n+1)=e::K.take n:=_root_.id rfl
def lnR(r:List (List AV)):Int:=r.length
theorem Qwi(K e m n r l):Qqi K (.sl e m) (.imm n r) k l=k (.i .i64 (lnR r)):=_root_.id rfl
theorem QHL(n r)(k:AV→Option β)(l):Qjn .eql (.imm n r) k l=Qkq r.isEmpty (k (.b true)) (k (.b false)):=_root_.id rfl
theorem QDt(n r)(k:AV→Option β)(l):Qjn .neq (.imm n r) k l=Qkq r.isEmpty (k (.b false)) (k (.b true)):=_root_.id rfl
theorem QEm(x:Option β)(b):Qkq b x x=x:=by cases b<;>simp[Qkq,oeq]
theorem QEh(n:Nat)(R:List (List AV))(b:Nat)(m):Qkq R.isEmpty (some (AV.own n [])) (Vf (decide (R.length*b≤140737488355328)) (some (AV.own n R)) m)=Vf (decide (R.length*b≤140737488355328)) (some (AV.own n R)) ():=by
 cases R with
 |nil=>simp[Qkq,oeq,Vf]
 |cons r R=>rfl
theorem Qv4(K e m l):Qqi K (.sl e m) .nil k l=k (.i .i64 0):=_root_.id rfl
def QBP(e:Option Ent)(k:AV→Option β)(_:Lk k):Option β:=match e with|some e=>k (.i .i64 (lnR e.rows))|none=>none
theorem QDo(c d a l):Qo8 (.int c) (.i d a) k l=k (.i c (c.wrap a)):=_root_.id rfl
def Qsb(o:Option (List UInt8))(k:AV→Option β)(_:Lk k):Option β:=match o with|some s=>k (.s s)|none=>none
def Qxg(e:Option Ent)(k:AV→Option β)(_:Lk k):Option β:=match e with|some (.lst 1 rows)=>Qsb (Qbx rows) k ()|_=>none
theorem QKR(K j l):Qqo K .str (.sl j) k l=Qxg (kg K j) k ():=_root_.id rfl
theorem QC0(r l):Qxg (some (.lst 1 r)) k l=Qsb (Qbx r) k ():=_root_.id rfl
theorem QDd(s l):Qsb (some s) k l=k (.s s):=_root_.id rfl
theorem QCK:Qbx []=some []:=_root_.id rfl
theorem QAV(n r):Qbx ([.i .u8 n]::r)=(Qbx r).map (UInt8.ofNat n.toNat::·):=by
 show(match QoD [.i .u8 n],Qbx r with|some x,some xs=>some (x::xs)|_,_=>none)=_
 simp only[QoD];cases Qbx r<;>rfl
theorem QA6(K e m j l):Qqi K (.sl e m) (.sl j) k l=QBP (kg K j) k ():=_root_.id rfl
theorem Qvv(n r l):QBP (some (.lst n r)) k l=k (.i .i64 (lnR r)):=_root_.id rfl
theorem Qyn(K x l):Qqi K .str (.s x) k l=k (.i .i64 (ln x)):=_root_.id rfl
theorem QEA(K n r i p o t l):QuO K (.iptr n r i p) (some (o,t)) k l=k (.iptr n r i (p+o)):=_root_.id rfl
def QBT(e:Option Ent)(v:AV)(k:AV→Option β)(_:Lk k):Option β:=match e with|some _=>k v|none=>none
theorem QJT(K j i p o t l):QuO K (.ptr j i p) (some (o,t)) k l=QBT (kg K j) (.ptr j i (p+o)) k ():=_root_.id rfl
theorem QGn(e v l):QBT (some e) v k l=k v:=_root_.id rfl
theorem QFe(K e m r kd i l):QqX K (.sl e m) (.imm m r) (.i kd i) k l=Vf (inb r i) (k (.iptr m r i.toNat 0)) ():=by simp[QqX]
def Qwr(e:Option Ent)(m:Nat)(j:Nat)(i:Int)(k:AV→Option β)(_:Lk k):Option β:=match e with|some e=>if m=e.n then Vf (inb e.rows i) (k (.ptr j i.toNat 0)) ()else none|none=>none
theorem QNp(K e m j kd i l):QqX K (.sl e m) (.sl j) (.i kd i) k l=Qwr (kg K j) m j i k ():=_root_.id rfl
theorem QEp(m r j i l):Qwr (some (.lst m r)) m j i k l=Vf (inb r i) (k (.ptr j i.toNat 0)) ():=by simp[Qwr,Ent.n,Ent.rows]
def QB1(e:Option Ent)(n:Nat)(i:Int)(p:AV)(k:AV→Option β)(_:Lk k):Option β:=match e with|some _=>Vf (Qui n i) (k p) ()|none=>none
theorem QEz(K e n m j r o kd i l):QqX K (.arr n e m) (.ptr j r o) (.i kd i) k l=QB1 (kg K j) n i (.ptr j r (o+i.toNat*m)) k ():=_root_.id rfl
theorem QE2(e n i p l):QB1 (some e) n i p k l=Vf (Qui n i) (k p) ():=_root_.id rfl
theorem QGi(e m r h c l):Qg8 (.sl e m) (.imm m r) none (some (.i c h)) k l=Vf (slB 0 h (lnR r)) (k (.imm m (cut r 0 h))) ():=by simp[Qg8,bd,lnR]
theorem QFk(e m r h c l):Qg8 (.sl e m) (.imm m r) (some (.i c h)) none k l=Vf (slB h (lnR r) (lnR r)) (k (.imm m (cut r h (lnR r)))) ():=by simp[Qg8,bd,lnR]
theorem QGb(e m r h h' c c' l):Qg8 (.sl e m) (.imm m r) (some (.i c h)) (some (.i c' h')) k l=Vf (slB h h' (lnR r)) (k (.imm m (cut r h h'))) ():=by simp[Qg8,bd,lnR]
theorem QC7(r h c l):Qg8 .str (.s r) none (some (.i c h)) k l=Vf (slB 0 h (ln r)) (k (.s (cut r 0 h))) ():=by simp[Qg8,bd,ln]
theorem QEo(r h c l):Qg8 .str (.s r) (some (.i c h)) none k l=Vf (slB h (ln r) (ln r)) (k (.s (cut r h (ln r)))) ():=by simp[Qg8,bd,ln]
theorem QDi(r h h' c c' l):Qg8 .str (.s r) (some (.i c h)) (some (.i c' h')) k l=Vf (slB h h' (ln r)) (k (.s (cut r h h'))) ():=by simp[Qg8,bd,ln]
theorem QHM(r i c l):Qwc .str (.s r) (.i c i) k l=Vf (inb r i) (k (.i .u8 ((gt r i).toNat:Int))) ():=_root_.id rfl
class Strs (cs:List AV) (xs:outParam (List (List UInt8))):Prop where
 eq:cs=xs.map AV.s
instance:Strs [] []:=⟨rfl⟩
instance(x cs xs)[h:Strs cs xs]:Strs (.s x::cs) (x::xs):=⟨by rw[h.eq];rfl⟩
theorem QEW{cs:List AV}{xs:List (List UInt8)}[h:Strs cs xs](i:Int)(hi:Qui cs.length i=true)(l):QfF .one (cs.drop (0+i.toNat*1)) k l=k (.s (gt xs i)):=by
 have hcs:=h.eq;subst hcs;simp[Qui]at hi;have h2:i.toNat<xs.length:=by omega
 rw[Nat.zero_add,Nat.mul_one,List.drop_eq_getElem_cons (by simpa using h2)]
 simp[QfF,gt,List.getD_eq_getElem?_getD,h2]
theorem QSi(K n r i o):Ja K (.iptr n r i o)=((QB r i).drop o).map ld:=_root_.id rfl
def QrG(e:Option Ent)(i o:Nat):List AV:=match e with|some (.box cs)=>if i=0 then cs.drop o else[]|some (.lst _ rows)=>((QB rows i).drop o).map ld|none=>[]
theorem m_c(K j i o):Ja K (.ptr j i o)=QrG (kg K j) i o:=_root_.id rfl
theorem QC8(cs o):QrG (some (.box cs)) 0 o=cs.drop o:=_root_.id rfl
theorem QEe(n r i o):QrG (some (.lst n r)) i o=((QB r i).drop o).map ld:=_root_.id rfl
theorem QFJ{α γ:Type}(g:α→γ):[].map g=[]:=_root_.id rfl
theorem QE1{α γ:Type}(g:α→γ)(x l):(x::l).map g=g x::l.map g:=_root_.id rfl
theorem QLk(x):ld (.b x)=.b x:=_root_.id rfl
theorem QLn(c x):ld (.i c x)=.i c x:=_root_.id rfl
theorem QMb(x):ld (.s x)=.s x:=_root_.id rfl
theorem QA5(n x):ld (.imm n x)=.imm n x:=_root_.id rfl
theorem QAz:ld .nil=.nil:=_root_.id rfl
theorem QzY(n x):ld (.own n x)=.u:=_root_.id rfl
theorem QI1(o t cs l):Qyk (some (o,t)) (.agg cs) k l=QfF t (cs.drop o) k ():=_root_.id rfl
theorem QAA(c cs l):QfF .one (c::cs) k l=k c:=_root_.id rfl
def Qv3(b:Bool)(v:AV)(k:AV→Option β)(_:Lk k):Option β:=cond b (k v) none
theorem Qzd(m cs l):QfF (.agg m) cs k l=Qv3 (Nat.blt 0 m&&Nat.ble m cs.length) (.agg (cs.take m)) k () :=
 Qcr (by simp only[Bool.and_eq_true,Qk4,Qil]) _ _
theorem Qzh(v l):Qv3 true v k l=k v:=_root_.id rfl
theorem Qz6(K cs)(k:AV→KS→Option β)(l):QlB K (some cs) k l=V0 (K++[some (.box cs)]) (fun K'=>k (.ptr K.length 0 0) K') ():=_root_.id rfl
def okB(b:Bool)(x:Option β)(_:Lk x):Option β:=cond b x none
theorem QQz(x:Option β)(l):okB true x l=x:=_root_.id rfl
theorem QDc(K cs)(k:AV→KS→Option β)(l):Qru K (.agg cs) k l=okB (cs.all (Zx K)) (V0 (K++[some (.box cs)]) (fun K'=>k (.ptr K.length 0 0) K') ()) ():=by
 simp only[Qru,okB];cases cs.all (Zx K)<;>rfl
theorem QFy(K c x)(k:AV→KS→Option β)(l):Qru K (.i c x) k l=V0 (K++[some (.box [.i c x])]) (fun K'=>k (.ptr K.length 0 0) K') ():=_root_.id rfl
theorem QEY{α:Type}(p:α→Bool):[].all p=true:=_root_.id rfl
theorem QDD{α:Type}(p:α→Bool)(x l):(x::l).all p=(p x&&l.all p):=_root_.id rfl
theorem QK4(K x):Zx K (.b x)=true:=_root_.id rfl
theorem QI4(K c x):Zx K (.i c x)=true:=_root_.id rfl
theorem QLV(K x):Zx K (.s x)=true:=_root_.id rfl
theorem QOd(K):Zx K .nil=true:=_root_.id rfl
theorem QBA(K n r):Zx K (.imm n r)=true:=_root_.id rfl
theorem QAN(K n r):Zx K (.clo n r)=true:=_root_.id rfl
theorem QGc(K j):Zx K (.sl j)=(kg K j).isSome:=_root_.id rfl
theorem Qza(K j i o):Zx K (.ptr j i o)=(kg K j).isSome:=_root_.id rfl
theorem QOD{α:Type}(x:α):(some x).isSome=true:=_root_.id rfl
theorem QMX(x):AV.closed (.b x)=true:=_root_.id rfl
theorem QNM(c x):AV.closed (.i c x)=true:=_root_.id rfl
theorem QKJ(x):AV.closed (.s x)=true:=_root_.id rfl
theorem QJq:AV.closed .nil=true:=_root_.id rfl
theorem QAy(n r):AV.closed (.imm n r)=true:=_root_.id rfl
theorem QD5(x:Bool):(false&&x)=false:=_root_.id rfl
theorem QKH(x:Bool):(true&&x)=x:=_root_.id rfl
def QgM(fl:Bool)(ns:List Nat)(K:KS)(e:Option Ent)(t:TK)(j i o:Nat)(v:AV)(k:KS→Option β)(_:Lk k):Option β :=
 match e with
  |some (.box cs)=>if i=0 then QgY cs o t v (Zx K) (fun cs=>V0 (K.set j (some (.box cs))) k ()) ()else none
  |some (.lst n rows)=>if(ZW v).all clq=true then(if i<rows.length then QgY (QB rows i) o t v AV.closed (fun r=>V0 (K.set j (some (.lst n (rows.set i r)))) k ()) ()else none)else if fl=false then QiX ns K t j i o n rows v k ()else none
  |none=>none
theorem QzZ(fl ns K t j i o v)(k:KS→Option β)(l):Qh5 fl ns K t (.ptr j i o) v k l=QgM fl ns K (kg K j) t j i o v k ():=by
 show(match kg K j with|some (.lst n rows)=>_|_=>_)=_
 cases h:kg K j with
 |none=>simp[QgM,QjH,h]
 |some e=>cases e<;>simp[QgM,QjH,h]
theorem QyC(fl ns K cs t j o v)(k:KS→Option β)(l):QgM fl ns K (some (.box cs)) t j 0 o v k l=QgY cs o t v (Zx K) (fun cs=>V0 (K.set j (some (.box cs))) k ()) ():=_root_.id rfl
def QkY(b fl:Bool)(ns:List Nat)(K:KS)(n:Nat)(r:List (List AV))(t:TK)(j i o:Nat)(v:AV)(k:KS→Option β)(_:Lk k):Option β :=
 cond b (if i<r.length then QgY (QB r i) o t v AV.closed (fun r'=>V0 (K.set j (some (.lst n (r.set i r')))) k ()) ()else none) (if fl=false then QiX ns K t j i o n r v k ()else none)
theorem QwE(fl ns K n r t j i o v)(k:KS→Option β)(l):QgM fl ns K (some (.lst n r)) t j i o v k l=QkY ((ZW v).all clq) fl ns K n r t j i o v k ():=by
 simp only[QgM,QkY];cases (ZW v).all clq<;>rfl
theorem QGV(ds):ZW (.agg ds)=ds:=_root_.id rfl
theorem QH3(c x):ZW (.i c x)=[.i c x]:=_root_.id rfl
theorem QMt(x):ZW (.b x)=[.b x]:=_root_.id rfl
theorem QLO(x):ZW (.s x)=[.s x]:=_root_.id rfl
theorem QGt:ZW .nil=[.nil]:=_root_.id rfl
theorem QMA(n r):ZW (.imm n r)=[.imm n r]:=_root_.id rfl
theorem QIA(j):ZW (.sl j)=[.sl j]:=_root_.id rfl
theorem QGl(j):clq (.sl j)=false:=_root_.id rfl
theorem QIp(x):clq (.b x)=true:=_root_.id rfl
theorem QHX(c x):clq (.i c x)=true:=_root_.id rfl
theorem QLX(x):clq (.s x)=true:=_root_.id rfl
theorem QG3:clq .nil=false:=_root_.id rfl
theorem QJG(n r):clq (.imm n r)=true:=_root_.id rfl
theorem QRi(cs):nz [] cs=cs:=by cases cs<;>rfl
theorem QP6(ns):nz ns []=[]:=by cases ns<;>rfl
theorem QQO(n ns c cs):nz (n::ns) (c::cs)=nzc n c::nz ns cs:=_root_.id rfl
theorem QOv(n x):nzc n (.b x)=.b x:=_root_.id rfl
theorem QPk(n c x):nzc n (.i c x)=.i c x:=_root_.id rfl
theorem QPN(n x):nzc n (.s x)=.s x:=_root_.id rfl
theorem QR6(n):nzc n .nil=.own n []:=_root_.id rfl
theorem QSn(n m r):nzc n (.own m r)=.own m r:=_root_.id rfl
theorem QQH(n m r):nzc n (.imm m r)=.imm m r:=_root_.id rfl
theorem QO5(k v):QnQ (.z k) v=nzc k v:=_root_.id rfl
theorem QP7(v):QnQ .n v=v:=_root_.id rfl
theorem QR2(ns cs):QnQ (.a ns) (.agg cs)=.agg (nz ns cs):=_root_.id rfl
theorem QQJ(v):QmM [] v=v:=_root_.id rfl
theorem QRc(s v):QmM [s] v=QnQ s v:=_root_.id rfl
theorem QQs(s s' ss vs):QmM (s::s'::ss) (.tup vs)=.tup (QpP (s::s'::ss) vs):=_root_.id rfl
theorem QQr(s ss v vs):QpP (s::ss) (v::vs)=QnQ s v::QpP ss vs:=_root_.id rfl
theorem QJJ(vs):QpP [] vs=vs:=_root_.id rfl
theorem QL0(m ds l):Qoe (.agg m) (.agg ds) l=(m==l):=_root_.id rfl
theorem QNG(j l):Qoe .one (.sl j) l=(l==1):=_root_.id rfl
def Qtq(ns:List Nat)(K:KS)(a:Option (KS×List AV))(t:TK)(j o n i:Nat)(r:List (List AV))(v:AV)(k:KS→Option β)(_:Lk k):Option β :=
 match a with
  |some (K1,ds)=>if(kg K1 j).isSome=true∧Qoe t v ds.length=true∧o+ds.length≤(QB r i).length then V0 (K1.set j (some (.lst n (r.set i (putCells (QB r i) o (nz ns ds)))))) k ()else none
  |none=>none
theorem QRZ(ns K K1 ds t j o n i r v)(k:KS→Option β)(l):Qtq ns K (some (K1,ds)) t j o n i r v k l=okB ((kg K1 j).isSome&&(Qoe t v ds.length&&Nat.ble (o+ds.length) (QB r i).length)) (V0 (K1.set j (some (.lst n (r.set i (putCells (QB r i) o (nz ns ds)))))) k ()) () :=
 Qcr (by simp only[Bool.and_eq_true,Qil]) _ _
def QmX(r:List (List AV))(i:Nat):Bool:=Nat.blt i r.length
theorem w_n(D:Orc)(f:Fr)(K:KS)(j i o q r v m rs)(k:AV→KS→Option β)(l):onr D f K j i o q r (v,[some (.lst m rs)]) k l=Vf (v.flat&&QmX r i) (V0 (K.set j (some (.lst q (r.set i (putCells (QB r i) o [.own m rs]))))++[none]) (fun K'=>k v K') ()) ():=_root_.id rfl
theorem QE9(x r):QmX (x::r) 0=true:=by simp[QmX,Nat.blt_eq]
theorem QEy(x r i):QmX (x::r) (i+1)=QmX r i:=by
 unfold QmX;rw[Bool.eq_iff_iff,Nat.blt_eq,Nat.blt_eq];simp
theorem QGg(fl ns K n r t j i o v)(k:KS→Option β)(l):QkY true fl ns K n r t j i o v k l=okB (QmX r i) (QgY (QB r i) o t v AV.closed (fun r'=>V0 (K.set j (some (.lst n (r.set i r')))) k ()) ()) () :=
 Qcr Qk4 _ _
theorem QCM(ns K n r t j i o v)(k:KS→Option β)(l):QkY false false ns K n r t j i o v k l=okB (QmX r i) (Qtq ns K (Vk K (ZW v)) t j o n i r v k ()) () :=
 Qcr Qk4 _ _
theorem QF5(cs o m ds ok)(k:List AV→Option β)(l):QgY cs o (.agg m) (.agg ds) ok k l=okB ((m==ds.length)&&(Nat.ble (o+m) cs.length&&ds.all ok)) (k (putCells cs o ds)) () :=
 Qcr (by simp only[Bool.and_eq_true,beq_iff_eq,Qil]) _ _
theorem Qvd(cs:List AV)(o:Nat)(v:AV)(ok:AV→Bool)(k:List AV→Option β):(if o<cs.length∧ok v=true then k (cs.set o v)else none)=okB (Nat.blt o cs.length&&ok v) (k (cs.set o v)) () :=
 Qcr (by simp only[Bool.and_eq_true,Qk4]) _ _
theorem QC1(cs o x ok)(k:List AV→Option β)(l):QgY cs o .one (.b x) ok k l=okB (Nat.blt o cs.length&&ok (.b x)) (k (cs.set o (.b x))) ():=Qvd ..
theorem QCL(cs o c x ok)(k:List AV→Option β)(l):QgY cs o .one (.i c x) ok k l=okB (Nat.blt o cs.length&&ok (.i c x)) (k (cs.set o (.i c x))) ():=Qvd ..
theorem QGh(cs o x ok)(k:List AV→Option β)(l):QgY cs o .one (.s x) ok k l=okB (Nat.blt o cs.length&&ok (.s x)) (k (cs.set o (.s x))) ():=Qvd ..
theorem QDR(cs o ok)(k:List AV→Option β)(l):QgY cs o .one .nil ok k l=okB (Nat.blt o cs.length&&ok .nil) (k (cs.set o .nil)) ():=Qvd ..
theorem QyN(cs o j ok)(k:List AV→Option β)(l):QgY cs o .one (.sl j) ok k l=okB (Nat.blt o cs.length&&ok (.sl j)) (k (cs.set o (.sl j))) ():=Qvd ..
theorem Qwa(cs o n r ok)(k:List AV→Option β)(l):QgY cs o .one (.imm n r) ok k l=okB (Nat.blt o cs.length&&ok (.imm n r)) (k (cs.set o (.imm n r))) ():=Qvd ..
theorem QOO(cs o ds):putCells cs o ds=cs.take o++ds++cs.drop (o+ds.length):=_root_.id rfl
theorem QE7(P z nr S rs f K):Qdh P z nr S rs .normal f K=Qlc P z S rs nr f K ():=_root_.id rfl
theorem QFt(P z nr S rs f K):Qdh P z nr S rs .ret f K=Qlc P z S rs nr f K ():=_root_.id rfl
theorem QJi(P z S rs f K l):Qlc P z S rs none f K l=Jc (QbV f K P rs) (fun vs=>Vf (rok (tkl z K).length (Qfj vs)&&(QhZ (tkl z K)&&Nat.ble z.length (tkl z K).length)) (some (Qfj vs,tkl z K)) ()) ():=_root_.id rfl
theorem QML(P z S rs r f K l):Qlc P z S rs (some r) f K l=Jc (QbV f K P rs) (fun vs=>Qef z [S] r (up f S (Qfj vs)) K (fun f K=>QjM (f S) (fun v=>Vf (rok K.length v&&(QhZ K&&Nat.ble z.length K.length)) (some (v,K)) ()) ()) ()) ():=_root_.id rfl
theorem QKy{α:Type}:(none:Option α).isSome=false:=_root_.id rfl
theorem QJX{α:Type}(x:α):(some x).isSome=true:=_root_.id rfl
theorem QK1(K):tkl [] K=[]:=by cases K<;>rfl
theorem QLf(x z e K):tkl (x::z) (e::K)=e::tkl z K:=_root_.id rfl
theorem QAm(P sh rs f K):Qht P sh rs .normal f K=Jc (QbV f K P rs) (fun vs=>(Qbs K (Qfj vs)).map fun p=>QmM sh p.2) ():=_root_.id rfl
theorem Qz1(P sh rs f K):Qht P sh rs .ret f K=Jc (QbV f K P rs) (fun vs=>(Qbs K (Qfj vs)).map fun p=>QmM sh p.2) ():=_root_.id rfl
theorem QLm(f K P):QbV f K P []=some []:=_root_.id rfl
theorem QM4(f K P t rs):QbV f K P (.tmp t::rs)=(QbV f K P rs).map (f t::·):=_root_.id rfl
theorem QFb(f K P x t rs):QbV f K P (.cell x t::rs)=Jc (QfF (tk P t) (Ja K (f x)) some ()) (fun v=>(QbV f K P rs).map (v::·)) ():=_root_.id rfl
theorem Qlb{α γ:Type}(g:α→γ)(x:α):(some x).map g=some (g x):=_root_.id rfl
theorem QrE{α γ:Type}(g:α→γ):(none:Option α).map g=none:=_root_.id rfl
theorem QIv(v):Qfj [v]=v:=_root_.id rfl
theorem QNd(v w vs):Qfj (v::w::vs)=.tup (v::w::vs):=_root_.id rfl
theorem QGk:Qfj []=.tup []:=_root_.id rfl
theorem x_b(K x):Qbs K (.b x)=some (K,.b x):=_root_.id rfl
theorem x_i(K c x):Qbs K (.i c x)=some (K,.i c x):=_root_.id rfl
theorem x_s(K x):Qbs K (.s x)=some (K,.s x):=_root_.id rfl
theorem QNC(K):Qbs K .nil=some (K,.nil):=_root_.id rfl
theorem QLW(K n r):Qbs K (.imm n r)=none:=by simp[Qbs]
theorem QIs(K cs):Qbs K (.agg cs)=(Qer K cs).map fun p=>(p.1,.agg p.2):=by simp[Qbs]
theorem QLc(K cs):Qbs K (.tup cs)=(Qer K cs).map fun p=>(p.1,.tup p.2):=by simp[Qbs]
def QCd(K:KS)(e:Option Ent)(j:Nat):Option (KS×AV):=match e with|some (.lst n rows)=>if Qz rows=true then some (K.set j none,.own n rows)else none|_=>none
theorem QQp(K j):Qbs K (.sl j)=QCd K (kg K j) j:=by rw[Qbs];rfl
theorem QOZ:Qz []=true:=_root_.id rfl
theorem QPF(r rs):Qz (r::rs)=cond (Vt r) (Qz rs) false:=by rw[show Qz (r::rs)=(Vt r&&Qz rs)by simp[Qz]];cases Vt r<;>rfl
theorem QPU:Vt []=true:=_root_.id rfl
theorem QO7(c cs):Vt (c::cs)=cond (AV.clean c) (Vt cs) false:=by rw[show Vt (c::cs)=(AV.clean c&&Vt cs)by simp[Vt]];cases AV.clean c<;>rfl
theorem k_i(k n):AV.clean (.i k n)=true:=_root_.id rfl
theorem k_b(x):AV.clean (.b x)=true:=_root_.id rfl
theorem k_s(x):AV.clean (.s x)=true:=_root_.id rfl
theorem QKA(K n r j):QCd K (some (.lst n r)) j=cond (Qz r) (some (K.set j none,.own n r)) none:=Qcr Iff.rfl _ _
theorem QED(K):Qer K []=some (K,[]):=by simp[Qer]
def Qr7(e:Option (KS×AV))(cs:List AV):Option (KS×List AV):=match e with|some (K1,c')=>(Qer K1 cs).map fun p=>(p.1,c'::p.2)|none=>none
theorem QzJ(K c cs):Qer K (c::cs)=Qr7 (Qbs K c) cs:=by rw[Qer];rfl
theorem QQg(K c cs):Qr7 (some (K,c)) cs=(Qer K cs).map fun p=>(p.1,c::p.2):=_root_.id rfl
theorem QPv(cs):Qr7 none cs=none:=_root_.id rfl
theorem QEC(z sl rg f K)(k:Fr→KS→Option β)(l):Qef z sl rg f K k l=Vz rg f K [] (fun f K π=>Vf (ndB π) (onz z π (V0 (QAG K π) (fun K'=>k (QAH f π sl) K') ()) ()) ()) ():=_root_.id rfl
theorem QI0(π)(q:Option β)(l):onz [] π q l=q:=_root_.id rfl
theorem QHs(x z π)(q:Option β)(l):onz (x::z) π q l=Vf (pfx (x::z) π) q ():=_root_.id rfl
theorem QSc(π):pfx [] π=true:=_root_.id rfl
theorem QP4(x z y π):pfx (x::z) (y::π)=((x==y)&&pfx z π):=by rw[←QjJ];rfl
theorem QOP(x:Nat):([]:List Nat).contains x=false:=_root_.id rfl
theorem QO8(x y:Nat)(l:List Nat):(y::l).contains x=((x==y)||l.contains x):=List.contains_cons
theorem QQl(b:Bool):(false||b)=b:=by cases b<;>rfl
theorem QSy(b:Bool):(true||b)=true:=by cases b<;>rfl
theorem QB4(f K π)(k:Fr→KS→List Nat→Option β)(l):Vz [] f K π k l=k f K π:=_root_.id rfl
theorem n_r(i r f K π)(k:Fr→KS→List Nat→Option β)(l):Vz (.r i::r) f K π k l=Vz r f K (π++[i]) k ():=_root_.id rfl
def Qme(v:AV)(t n:Nat)(r:List Pt)(f:Fr)(K:KS)(π:List Nat)(k:Fr→KS→List Nat→Option β)(_:Lk (f,k)):Option β:=match v with
  |.sl j=>Vz r f K (π++[j]) k ()
  |.ptr j _ _=>Vz r f K (π++[j]) k ()
  |.nil=>Vz r (up f t (.sl K.length)) (K++[some (.lst n [])]) (π++[K.length]) k ()
  |_=>none
theorem n_s(t n r f K π)(k:Fr→KS→List Nat→Option β)(l):Vz (.s t n::r) f K π k l=Qme (f t) t n r f K π k ():=by simp only[Vz,Qme];rfl
theorem QGv(j t n r f K π)(k:Fr→KS→List Nat→Option β)(l):Qme (.sl j) t n r f K π k l=Vz r f K (π++[j]) k ():=_root_.id rfl
theorem QF0(j i o t n r f K π)(k:Fr→KS→List Nat→Option β)(l):Qme (.ptr j i o) t n r f K π k l=Vz r f K (π++[j]) k ():=_root_.id rfl
theorem QEX(t n r f K π)(k:Fr→KS→List Nat→Option β)(l):Qme .nil t n r f K π k l=Vz r (up f t (.sl K.length)) (K++[some (.lst n [])]) (π++[K.length]) k ():=_root_.id rfl
def Ql9(c:Option AV)(r:List Pt)(f:Fr)(K:KS)(π:List Nat)(k:Fr→KS→List Nat→Option β)(_:Lk (f,k)):Option β:=match c with
  |some (.sl i)=>Vz r f K (π++[i]) k ()
  |some (.ptr i _ _)=>Vz r f K (π++[i]) k ()
  |_=>none
def Qob(e:Option Ent)(o:Nat)(r:List Pt)(f:Fr)(K:KS)(π:List Nat)(k:Fr→KS→List Nat→Option β)(_:Lk (f,k)):Option β:=match e with
  |some (.box cs)=>Ql9 (cs[o]?) r f K π k ()
  |_=>none
def QrW(q:Option Nat)(o:Nat)(r:List Pt)(f:Fr)(K:KS)(π:List Nat)(k:Fr→KS→List Nat→Option β)(_:Lk (f,k)):Option β:=match q with
  |some j=>Qob (kg K j) o r f K π k ()
  |none=>none
theorem n_c(q o n r f K π)(k:Fr→KS→List Nat→Option β)(l):Vz (.c q o n::r) f K π k l=QrW (π[q]?) o r f K π k ():=by
 simp only[Vz,QrW,Qob,Ql9];cases π[q]? with
 |none=>rfl
 |some j =>
  simp only;cases kg K j with
  |none=>rfl
  |some e =>
   cases e with
   |box cs =>
    simp only;cases cs[o]? with
    |none=>rfl
    |some c=>cases c<;>rfl
   |lst _ _=>rfl
theorem QJW(j o r f K π)(k:Fr→KS→List Nat→Option β)(l):QrW (some j) o r f K π k l=Qob (kg K j) o r f K π k ():=_root_.id rfl
theorem QHR(cs o r f K π)(k:Fr→KS→List Nat→Option β)(l):Qob (some (.box cs)) o r f K π k l=Ql9 (cs[o]?) r f K π k ():=_root_.id rfl
theorem QJ1(i r f K π)(k:Fr→KS→List Nat→Option β)(l):Ql9 (some (.sl i)) r f K π k l=Vz r f K (π++[i]) k ():=_root_.id rfl
theorem QI2(i a b r f K π)(k:Fr→KS→List Nat→Option β)(l):Ql9 (some (.ptr i a b)) r f K π k l=Vz r f K (π++[i]) k ():=_root_.id rfl
def QlJ(c:Option AV)(cs:List AV)(t o n:Nat)(r:List Pt)(f:Fr)(K:KS)(π:List Nat)(k:Fr→KS→List Nat→Option β)(_:Lk (f,k)):Option β:=match c with
  |some (.sl j)=>Vz r f K (π++[j]) k ()
  |some .nil=>Vz r (up f t (.agg (cs.set o (.sl K.length)))) (K++[some (.lst n [])]) (π++[K.length]) k ()
  |_=>none
def Qrr(v:AV)(t o n:Nat)(r:List Pt)(f:Fr)(K:KS)(π:List Nat)(k:Fr→KS→List Nat→Option β)(_:Lk (f,k)):Option β:=match v with
  |.agg cs=>QlJ (cs[o]?) cs t o n r f K π k ()
  |_=>none
theorem n_g(t o n r f K π)(k:Fr→KS→List Nat→Option β)(l):Vz (.g t o n::r) f K π k l=Qrr (f t) t o n r f K π k ():=by
 simp only[Vz,Qrr,QlJ];cases f t with
 |agg cs =>
  simp only;cases cs[o]? with
  |none=>rfl
  |some c=>cases c<;>rfl
 |_=>rfl
theorem QHS(cs t o n r f K π)(k:Fr→KS→List Nat→Option β)(l):Qrr (.agg cs) t o n r f K π k l=QlJ (cs[o]?) cs t o n r f K π k ():=_root_.id rfl
theorem QMs(j cs t o n r f K π)(k:Fr→KS→List Nat→Option β)(l):QlJ (some (.sl j)) cs t o n r f K π k l=Vz r f K (π++[j]) k ():=_root_.id rfl
theorem QKn(cs t o n r f K π)(k:Fr→KS→List Nat→Option β)(l):QlJ (some .nil) cs t o n r f K π k l=Vz r (up f t (.agg (cs.set o (.sl K.length)))) (K++[some (.lst n [])]) (π++[K.length]) k ():=_root_.id rfl
theorem QJU:ndB []=true:=_root_.id rfl
theorem QMq(x l):ndB (x::l)=(!l.contains x&&ndB l):=_root_.id rfl
def krn(K:KS)(π:List Nat)(l:List Nat):KS:=l.map fun j=>(kg K j).map (Qhr π)
theorem QRr(K π):QAG K π=krn K π π:=_root_.id rfl
theorem QEJ(K π):krn K π []=[]:=_root_.id rfl
theorem QDa(K π j l):krn K π (j::l)=(kg K j).map (Qhr π)::krn K π l:=_root_.id rfl
theorem QIf(π cs):Qhr π (.box cs)=.box (QdX π cs):=_root_.id rfl
theorem QJB(π n r):Qhr π (.lst n r)=.lst n r:=_root_.id rfl
theorem QGI(π):QdX π []=[]:=by simp[QdX]
theorem QIT(π c cs):QdX π (c::cs)=ren π c::QdX π cs:=by simp[QdX]
def slO:Option Nat→AV|some i=>.sl i|none=>.u
def QGe(i o:Nat):Option Nat→AV|some j=>.ptr j i o|none=>.u
theorem QLy(i):slO (some i)=.sl i:=_root_.id rfl
theorem QN9:slO none=.u:=_root_.id rfl
theorem QDu(i o j):QGe i o (some j)=.ptr j i o:=_root_.id rfl
theorem QE5(i o):QGe i o none=.u:=_root_.id rfl
theorem QCV(π j):ren π (.sl j)=slO (QkB π j):=by simp only[ren];rfl
theorem QAI(π j i o):ren π (.ptr j i o)=QGe i o (QkB π j):=by simp only[ren];rfl
theorem QBj(π cs):ren π (.agg cs)=.agg (QdX π cs):=by simp[ren]
theorem QAX(π cs):ren π (.tup cs)=.tup (QdX π cs):=by simp[ren]
theorem QyY(π g cs):ren π (.clo g cs)=.clo g (QdX π cs):=by simp[ren]
theorem QDS(π x):ren π (.b x)=.b x:=by simp[ren]
theorem QLu(π c x):ren π (.i c x)=.i c x:=by simp[ren]
theorem QNw(π x):ren π (.s x)=.s x:=by simp[ren]
theorem QL2(π):ren π .nil=.nil:=by simp[ren]
theorem QM5(π):ren π .u=.u:=by simp[ren]
theorem QAe(π n r):ren π (.imm n r)=.imm n r:=by simp[ren]
theorem QyM(π n r i o):ren π (.iptr n r i o)=.iptr n r i o:=by simp[ren]
theorem QGd(j):QkB [] j=none:=_root_.id rfl
theorem QFm(x l j):QkB (x::l) j=sel (x==j) (some 0) ((QkB l j).map (·+1)) ():=by
 rw[QkB];exact Qcr (by simp) _ _
theorem QDB(f π l):QAH f π l=frm (frl f π l):=_root_.id rfl
theorem QFM(f π):frl f π []=[]:=_root_.id rfl
theorem QFa(f π t l):frl f π (t::l)=(t,ren π (f t))::frl f π l:=_root_.id rfl
theorem QQh(z la rt f K):Qgw z la rt .normal f K=Qef z la.sl la.rg f K (fun f K=>some (.inl (f,K))) ():=_root_.id rfl
theorem QSu(z la rt f K):Qgw z la rt .ret f K=Qef z rt.sl rt.rg f K (fun f K=>some (.inr (.ret,f,K))) ():=_root_.id rfl
theorem QRB(z la rt i f K):Qgw z la rt (.exit i) f K=Qef z la.xs la.xr f K (fun f K=>some (.inr (.exit i,f,K))) ():=_root_.id rfl
theorem QKF(t x y):QG t (.seq x y)=(QG t x).or (QG t y):=_root_.id rfl
theorem QD1(t c x y):QG t (.cond c x y)=(QG t x).or (QG t y):=_root_.id rfl
theorem QzU(t i x):QG t (.block i x)=QG t x:=_root_.id rfl
theorem QDY(t x):QG t (.loop x)=sel (tag x==t) (some x) (QG t x) ():=_root_.id rfl
theorem Qx8(t i o d):QG t (.region i o d)=none:=_root_.id rfl
theorem QCW(t):QG t .skip=none:=_root_.id rfl
theorem QHb(t):QG t .ret=none:=_root_.id rfl
theorem QER(t i):QG t (.exit i)=none:=_root_.id rfl
theorem QBS(x:Option Code):(none:Option Code).or x=x:=by cases x<;>rfl
theorem QBD(x:Code)(y:Option Code):(some x).or y=some x:=_root_.id rfl
theorem l_0(K):QcA K []=[]:=by simp[QcA]
theorem l_s(K c cs):QcA K (c::cs)=Qav K c::QcA K cs:=by simp[QcA]
def Qys(e:Option Ent):AV:=match e with|some (.lst n rows)=>.imm n (Qh rows)|_=>.u
theorem QOn(K j):Qav K (.sl j)=Qys (kg K j):=by simp only[Qav];rfl
theorem QGx(n r):Qys (some (.lst n r))=.imm n (Qh r):=_root_.id rfl
theorem QJO(K j):Qna K j=Qys (kg K j):=_root_.id rfl
def QrV(K:KS)(e:Option Ent)(i o:Nat):AV:=match e with
 |some (.lst n rows)=>.iptr n (Qh rows) i o
 |some (.box cs)=>.iptr cs.length [cs.map (Qfy K)] i o
 |none=>.u
theorem QGJ(K j i o):Qav K (.ptr j i o)=QrV K (kg K j) i o:=by simp only[Qav];rfl
theorem QEd(K cs i o):QrV K (some (.box cs)) i o=.iptr cs.length [cs.map (Qfy K)] i o:=_root_.id rfl
theorem QCR(K n r i o):QrV K (some (.lst n r)) i o=.iptr n (Qh r) i o:=_root_.id rfl
theorem QC3(K n r i o):Qav K (.iptr n r i o)=.iptr n r i o:=by simp[Qav]
theorem QLe(K j):Qfy K (.sl j)=Qna K j:=_root_.id rfl
theorem QQ3(K x):Qfy K (.b x)=.b x:=_root_.id rfl
theorem QOx(K c x):Qfy K (.i c x)=.i c x:=_root_.id rfl
theorem QOh(K x):Qfy K (.s x)=.s x:=_root_.id rfl
theorem QSq(K):Qfy K .nil=.nil:=_root_.id rfl
theorem QPM(K n r):Qfy K (.imm n r)=.imm n r:=_root_.id rfl
theorem QDV(r:List AV)(rs):QB (r::rs) 0=r:=_root_.id rfl
theorem QKT(K cs):Qav K (.agg cs)=.agg (QcA K cs):=by simp[Qav]
theorem QMO(K cs):Qav K (.tup cs)=.tup (QcA K cs):=by simp[Qav]
theorem QKk(K g cs):Qav K (.clo g cs)=.clo g (QcA K cs):=by simp[Qav]
theorem l_b(K x):Qav K (.b x)=.b x:=by simp[Qav]
theorem l_i(K c x):Qav K (.i c x)=.i c x:=by simp[Qav]
theorem QPV(K x):Qav K (.s x)=.s x:=by simp[Qav]
theorem l_n(K):Qav K .nil=.nil:=by simp[Qav]
theorem QI7(K n r):Qav K (.imm n r)=.imm n r:=by simp[Qav]
theorem Qy1:Qh []=[]:=by simp[Qh]
theorem QBv(r rs):Qh (r::rs)=Q5 r::Qh rs:=by simp[Qh]
theorem QE6:Q5 []=[]:=by simp[Q5]
theorem QEs(c cs):Q5 (c::cs)=Vp c::Q5 cs:=by simp[Q5]
theorem QRY(x):Vp (.b x)=.b x:=by simp[Vp]
theorem QRA(c x):Vp (.i c x)=.i c x:=by simp[Vp]
theorem QON(x):Vp (.s x)=.s x:=by simp[Vp]
theorem QRQ:Vp .nil=.nil:=by simp[Vp]
theorem QD2(n r):Vp (.imm n r)=.imm n r:=by simp[Vp]
theorem QF3(n r):Vp (.own n r)=.imm n (Qh r):=by simp[Vp]
theorem QGN(m n r):VD m (.own n r)=(.sl m,[some (.lst n r)]):=by simp[VD]
theorem QMZ(m cs):VD m (.agg cs)=(.agg (Qbd m cs).1,(Qbd m cs).2):=by simp[VD]
theorem QOc(m cs):VD m (.tup cs)=(.tup (Qbd m cs).1,(Qbd m cs).2):=by simp[VD]
theorem i_b(m x):VD m (.b x)=(.b x,[]):=by simp[VD]
theorem i_i(m c x):VD m (.i c x)=(.i c x,[]):=by simp[VD]
theorem QQG(m x):VD m (.s x)=(.s x,[]):=by simp[VD]
theorem i_n(m):VD m .nil=(.nil,[]):=by simp[VD]
theorem QQy(m):Qbd m []=([],[]):=by simp[Qbd]
theorem QPm(m c cs):Qbd m (c::cs)=((VD m c).1::(Qbd (m+(VD m c).2.length) cs).1,(VD m c).2++(Qbd (m+(VD m c).2.length) cs).2):=by simp[Qbd]
theorem QCs{α γ:Type}(x:α)(y:γ):(x,y).1=x:=_root_.id rfl
theorem QJA{α γ:Type}(x:α)(y:γ):(x,y).2=y:=_root_.id rfl
def Qn7(e:Option (List AV))(k:AV→Option β)(_:Lk k):Option β:=match e with|some cs=>k (.agg cs)|none=>none
theorem QH7(K z p ps l):Qjz K (.st z p) ps k l=Qn7 (Qau K (p[·]?) z ps) k ():=_root_.id rfl
theorem QDT(K z m ps l):Qjz K (.arr z m) ps k l=Qn7 (Qau K (fun i=>some (i*m,m)) z ps) k ():=_root_.id rfl
theorem QMT(cs l):Qn7 (some cs) k l=k (.agg cs):=_root_.id rfl
def QBI(fl:Bool)(ns:List Nat)(e:Option (List AV))(K:KS)(len m:Nat)(k:AV→KS→Option β)(_:Lk k):Option β:=match e with
  |some cs=>cond (yB fl cs) (match Vk K cs with
   |some (K1,cs)=>V0 (K1++[some (.lst m ((QaM m len cs).map (nz ns)))]) (fun K'=>k (.sl K.length) K') ()
   |none=>none) none
  |none=>none
theorem QR4(fl ns K e m z)(k:AV→KS→Option β)(l):QgF fl ns K (some (e,m,z)) 0 [] k l=V0 (K++[some (.lst m [])]) (fun K'=>k (.sl K.length) K') ():=_root_.id rfl
theorem s_b(fl ns K e m z len ps)(k:AV→KS→Option β)(l):QgF fl ns K (some (e,m,z)) (len+1) ps k l=okB (Nat.ble ((len+1)*m) 16777216) (QBI fl ns (Qau K (fun i=>some (i*m,m)) (QcT (len+1) z) ps) K (len+1) m k ()) () :=
 Qcr Qil _ _
def QCl(ns:List Nat)(e:Option (KS×List AV))(n len m:Nat)(k:AV→KS→Option β)(_:Lk k):Option β:=match e with
   |some (K1,cs)=>V0 (K1++[some (.lst m ((QaM m len cs).map (nz ns)))]) (fun K'=>k (.sl n) K') ()
   |none=>none
theorem QQ9(fl ns K cs len m)(k:AV→KS→Option β)(l):QBI fl ns (some cs) K len m k l=cond (yB fl cs) (QCl ns (Vk K cs) K.length len m k ()) none:=_root_.id rfl
theorem QPQ:zB []=true:=_root_.id rfl
theorem QOK(l:List Nat):zB (0::l)=zB l:=_root_.id rfl
theorem QSD(n:Nat)(l:List Nat):zB ((n+1)::l)=false:=_root_.id rfl
theorem QQx(cs):yB false cs=true:=_root_.id rfl
theorem QRf(cs):yB true cs=noS cs:=_root_.id rfl
theorem QQW:noS []=true:=_root_.id rfl
theorem QQC(c n l):noS (.i c n::l)=noS l:=_root_.id rfl
theorem QSs(x l):noS (.b x::l)=noS l:=_root_.id rfl
theorem QSo(x l):noS (.s x::l)=noS l:=_root_.id rfl
theorem QRO(l):noS (.nil::l)=noS l:=_root_.id rfl
theorem QPr(n r l):noS (.imm n r::l)=noS l:=_root_.id rfl
theorem QOy(j l):noS (.sl j::l)=false:=_root_.id rfl
theorem QSh(ns K1 cs n len m)(k:AV→KS→Option β)(l):QCl ns (some (K1,cs)) n len m k l=V0 (K1++[some (.lst m ((QaM m len cs).map (nz ns)))]) (fun K'=>k (.sl n) K') ():=_root_.id rfl
theorem QOz(K p cs):Qau K p cs []=some cs:=_root_.id rfl
def QyJ(K:KS)(place:Nat→Option (Nat×Nat))(cs:List AV)(p:Option (Nat×Nat))(d:Option (List AV))(rest:List (Nat×AV)):Option (List AV):=match p,d with
  |some (o,m),some ds=>if ds.length=m∧o+m≤cs.length then Qau K place (putCells cs o ds) rest else none
  |_,_=>none
theorem QQw(K p cs i v r):Qau K p cs ((i,v)::r)=QyJ K p cs (p i) (Qb0 K v) r:=by simp only[Qau];rfl
theorem QPj(K p cs o m ds r):QyJ K p cs (some (o,m)) (some ds) r=cond ((ds.length==m)&&Nat.ble (o+m) cs.length) (Qau K p (putCells cs o ds) r) none :=
 Qcr (by simp only[Bool.and_eq_true,beq_iff_eq,Qil]) _ _
theorem QRt(K cs):Qb0 K (.agg cs)=some cs:=_root_.id rfl
theorem QSF(K x):Qb0 K (.b x)=some [.b x]:=_root_.id rfl
theorem QOV(K c x):Qb0 K (.i c x)=some [.i c x]:=_root_.id rfl
theorem QOk(K x):Qb0 K (.s x)=some [.s x]:=_root_.id rfl
theorem QQk(K):Qb0 K .nil=some [.nil]:=_root_.id rfl
theorem QFg(K n r):Qb0 K (.imm n r)=some [.imm n r]:=_root_.id rfl
theorem QK2(K j):Qb0 K (.sl j)=cond (kg K j).isSome (some [.sl j]) none:=by
 show(if Zx K (.sl j)=true then some [AV.sl j]else none)=_;exact Qcr Iff.rfl _ _
theorem QRP(z):QcT 0 z=[]:=by simp[QcT]
theorem QQ4(n z):QcT (n+1) z=z++QcT n z:=by simp[QcT,List.replicate_succ]
theorem QKM(K):Vk K []=some (K,[]):=_root_.id rfl
theorem QK0(K x cs):Vk K (.b x::cs)=(Vk K cs).map fun p=>(p.1,.b x::p.2):=by simp[Vk,AV.closed]
theorem QM6(K c x cs):Vk K (.i c x::cs)=(Vk K cs).map fun p=>(p.1,.i c x::p.2):=by simp[Vk,AV.closed]
theorem QJs(K x cs):Vk K (.s x::cs)=(Vk K cs).map fun p=>(p.1,.s x::p.2):=by simp[Vk,AV.closed]
theorem QNk(K cs):Vk K (.nil::cs)=(Vk K cs).map fun p=>(p.1,.nil::p.2):=by simp[Vk,AV.closed]
theorem Qzn(K n r cs):Vk K (.imm n r::cs)=(Vk K cs).map fun p=>(p.1,.imm n r::p.2):=by simp[Vk,AV.closed]
def QLB(e:Option Ent)(K:KS)(j:Nat)(cs:List AV):Option (KS×List AV):=match e with
  |some (.lst n rows)=>(Vk (K.set j none) cs).map fun p=>(p.1,.own n rows::p.2)
  |_=>none
theorem QFD(K j cs):Vk K (.sl j::cs)=QLB (kg K j) K j cs:=by simp only[Vk];rfl
theorem QL1(K n r j cs):QLB (some (.lst n r)) K j cs=(Vk (K.set j none) cs).map fun p=>(p.1,.own n r::p.2):=_root_.id rfl
theorem QNX(m cs):QaM m 0 cs=[]:=_root_.id rfl
theorem QHB(m l cs):QaM m (l+1) cs=cs.take m::QaM m l (cs.drop m):=_root_.id rfl
def Qtz(e:Option (List (List AV)×KS))(n m b:Nat)(s:AV)(k:AV→KS→Option β)(_:Lk k):Option β:=match e with
  |some (rows',K1)=>match s with
   |.sl j=>match kg K1 j with
    |some (.lst n' rows)=>if n'=m then Vf (decide ((rows.length+rows'.length)*(b+1)≤140737488355328)) (V0 (K1.set j none++[some (.lst m (rows++rows'))]) (fun K'=>k (.sl n) K') ()) ()else none
    |_=>none
   |.nil=>Vf (decide (rows'.length*(b+1)≤140737488355328)) (V0 (K1++[some (.lst m rows')]) (fun K'=>k (.sl n) K') ()) ()
   |_=>none
  |none=>none
def QxZ(e:Option Ent)(r:List (List AV))(K1:KS)(n m b j:Nat)(k:AV→KS→Option β)(_:Lk k):Option β:=match e with
    |some (.lst n' rows)=>if n'=m then Vf (decide ((rows.length+r.length)*(b+1)≤140737488355328)) (V0 (K1.set j none++[some (.lst m (rows++r))]) (fun K'=>k (.sl n) K') ()) ()else none
    |_=>none
def QGj(K:KS)(t:Option (TypeId×Nat×List AV))(bytes:Option Nat)(s x:AV)(k:AV→KS→Option β)(_:Lk k):Option β:=QkT K t bytes s x k ()
def QBg(P:Program)(t:Option (TypeId×Nat×List AV)):Option Nat:=t.bind fun q=>tb P q.1
theorem QH5{P:Program}{D:Orc}{f:Fr}{K:KS}(s x t tx ts)(k:AV→KS→Option β)(l):oop P D (.call ⟨.builtin .append,List.toArray [s,x],List.toArray (t::tx::ts)⟩) f K k l=okB (ZS P tx&&!(Qbg s&&QeW (ev f x))) (QGj K (tse P t) (QBg P (tse P t)) (ev f s) (ev f x) k ()) ():=by
 simp only[oop,okB,QGj,QBg];cases ZS P tx<;>cases (Qbg s&&QeW (ev f x))<;>rfl
theorem QSg(d):Qbg (.tmp d)=false:=_root_.id rfl
theorem QQZ:Qbg (.const (.slice none 0 0))=true:=_root_.id rfl
theorem QQa(n r):QeW (.imm n r)=false:=_root_.id rfl
theorem QSx:QeW .nil=false:=_root_.id rfl
theorem QRz(j):QeW (.sl j)=true:=_root_.id rfl
def Qyu(ns:List Nat)(K:KS)(t:Option (TypeId×Nat×List AV))(bytes:Option Nat)(l c:AV)(k:AV→KS→Option β)(_:Lk k):Option β:=QtT ns K t bytes l c k ()
theorem QOC{P:Program}{D:Orc}{f:Fr}{K:KS}(t x c)(k:AV→KS→Option β)(l):oop P D (.makeSlice t x c) f K k l=Qyu (Qda P t) K (tse P t) (QBg P (tse P t)) (ev f x) (ev f c) k ():=_root_.id rfl
theorem QGK(ns K e m z b i c)(k:AV→KS→Option β)(l):Qyu ns K (some (e,m,z)) (some (b+1)) (.i .i64 i) (.i .i64 c) k l=Vf (decide (i=c)) (Vf (mkB i (b+1)) (V0 (K++[some (.lst m (List.replicate i.toNat (nz ns z)))]) (fun K'=>k (.sl K.length) K') ()) ()) ():=_root_.id rfl
theorem QRF(i:Int):(i=i)=True:=by simp
theorem QKS(P e m z):QBg P (some (e,m,z))=tb P e:=_root_.id rfl
theorem a_1(K e m z b s x)(k:AV→KS→Option β)(l):QGj K (some (e,m,z)) (some (b+1)) s x k l=Qtz (Qcu K m x) K.length m b s k ():=_root_.id rfl
theorem a_2(r K1 n m b j)(k:AV→KS→Option β)(l):Qtz (some (r,K1)) n m b (.sl j) k l=QxZ (kg K1 j) r K1 n m b j k ():=_root_.id rfl
theorem a_3(r K1 n m b)(k:AV→KS→Option β)(l):Qtz (some (r,K1)) n m b .nil k l=Vf (rm r.length (b+1)) (V0 (K1++[some (.lst m r)]) (fun K'=>k (.sl n) K') ()) ():=by
 simp[Qtz,rm]
theorem a_4(r' r K1 n m b j)(k:AV→KS→Option β)(l):QxZ (some (.lst m r')) r K1 n m b j k l=Vf (rm (r'.length+r.length) (b+1)) (V0 (K1.set j none++[some (.lst m (r'++r))]) (fun K'=>k (.sl n) K') ()) ():=by
 simp[QxZ,rm]
theorem QQA(K m):Qcu K m .nil=some ([],K):=_root_.id rfl
theorem QQ0(K m r):Qcu K m (.imm m r)=some (r,K):=by simp[Qcu]
def QCO(e:Option Ent)(K:KS)(m k:Nat):Option (List (List AV)×KS):=match e with
  |some (.lst n rows)=>if n=m then some (rows,K.set k none)else none
  |_=>none
theorem QRG(K m j):Qcu K m (.sl j)=QCO (kg K j) K m j:=_root_.id rfl
theorem QP1(K m j r):QCO (some (.lst m r)) K m j=some (r,K.set j none):=by simp[QCO]
end
section
variable(T:Tld)
theorem QKs(n h):(orc T (n+1) h).w=T.wt:=_root_.id rfl
theorem QH1(n h g):(orc T n h).z g=(lk T.pz g).getD []:=by cases n<;>rfl
theorem QIk(n h):(orc T (n+1) h).v=T.vt:=_root_.id rfl
theorem QLt(n h):(orc T n h).m=CM T n:=by cases n<;>rfl
theorem QKv(n h):(orc T n h).a=CA T n:=by cases n<;>rfl
theorem QIH(n h):(orc T (n+1) h).q=T.qt:=_root_.id rfl
theorem QJz(n h):(orc T (n+1) h).s=T.st:=_root_.id rfl
theorem QHW(n h):(orc T n h).p=CP T n:=by cases n<;>rfl
theorem QHx(n h):(orc T n h).l=LP T n h:=_root_.id rfl
noncomputable def cpF(T:Tld)(n g:Nat)(fn:Option Func)(a:Option Ann)(args:List AV):Option AV:=match a with
 |some a=>match fn with
  |some f=>cond (Nat.ble args.length f.ntmps) (Vl T.P (orc T n g) a (f.body.getD .skip) (Qht T.P a.sh f.results.toList) (VP args) [] ()) none
  |none=>cond (Nat.ble args.length 0) (Vl T.P (orc T n g) a .skip (Qht T.P a.sh []) (VP args) [] ()) none
 |none=>T.xt g args
noncomputable def caF(T:Tld)(n g:Nat)(fn:Option Func)(a:Option Ann)(K:KS)(args:List AV):Option (AV×KS):=match a with
 |some a=>match fn with
  |some f=>cond (a.wr&&(Nat.beq K.length a.ak.length&&Nat.ble args.length f.ntmps)) (Vl T.P (orc T n g) a (f.body.getD .skip) (Qdh T.P a.ak a.nr f.ntmps f.results.toList) (VP args) K ()) none
  |none=>cond (a.wr&&(Nat.beq K.length a.ak.length&&Nat.ble args.length 0)) (Vl T.P (orc T n g) a .skip (Qdh T.P a.ak a.nr 0 []) (VP args) K ()) none
 |none=>none
theorem QaJ(n g K args):CA T (n+1) g K args=caF T n g (T.P.funcs[g]?) (T.at g) K args:=by
 show(match T.at g with|some a=>cond _ _ _|none=>none)=_
 unfold caF body Qkr ntm;cases T.at g with
 |none=>rfl
 |some a=>cases T.P.funcs[g]?<;>rfl
theorem Qwq(n g K args a)(x1 x2 x3 x4 x5 x6 m)(rs:List ResultVar)(c x7 x8 x9 x10 x11 x12 x13):caF T n g (some ⟨x1,x2,x3,x4,x5,x6,m,List.toArray rs,some c,x7,x8,x9,x10,x11,x12,x13⟩) (some a) K args=cond ((a.nr.isSome||!a.ak.isEmpty)&&((K.length==a.ak.length)&&Nat.ble args.length m)) (Vl T.P (orc T n g) a c (Qdh T.P a.ak a.nr m rs) (VP args) K ()) none:=by rw[←QjJ];rfl
theorem QFK{α:Type}(x:α)(l:List α):(x::l).isEmpty=false:=_root_.id rfl
theorem QRR:(!false)=true:=_root_.id rfl
noncomputable def cmF(T:Tld)(n g:Nat)(fn:Option Func)(a:Option Ann)(K:KS)(args:List AV):Option AV:=match a with
 |some a=>cond (Nat.ble args.length (match fn with|some f=>f.ntmps|none=>0)) (Vl T.P (orc T n g) a (match fn with|some f=>f.body.getD .skip|none=>.skip) (Qht T.P a.sh (match fn with|some f=>f.results.toList|none=>[])) (VP args) K ()) none
 |none=>T.mt g K args
theorem QCr(n g K args):CM T (n+1) g K args=cmF T n g (T.P.funcs[g]?) (T.at g) K args:=by
 show(match T.at g with|some a=>_|none=>_)=_
 unfold cmF body Qkr ntm;cases T.at g with
 |none=>rfl
 |some a=>cases T.P.funcs[g]?<;>rfl
theorem Qw7(n g K args a)(x1 x2 x3 x4 x5 x6 m)(rs:List ResultVar)(c x7 x8 x9 x10 x11 x12 x13):cmF T n g (some ⟨x1,x2,x3,x4,x5,x6,m,List.toArray rs,some c,x7,x8,x9,x10,x11,x12,x13⟩) (some a) K args=cond (Nat.ble args.length m) (Vl T.P (orc T n g) a c (Qht T.P a.sh rs) (VP args) K ()) none:=_root_.id rfl
theorem Qm(n g args):CP T (n+1) g args=cpF T n g (T.P.funcs[g]?) (T.at g) args:=by
 show(match T.at g with|some a=>cond _ _ _|none=>T.xt g args)=_
 unfold cpF body Qkr ntm;cases T.at g with
 |none=>rfl
 |some a=>cases T.P.funcs[g]?<;>rfl
theorem QQK(n g args)(h:T.at g=none):CP T (n+1) g args=T.xt g args:=by rw[Qm,h];rfl
theorem Qvw(n g args a)(x1 x2 x3 x4 x5 x6 m)(rs:List ResultVar)(c x7 x8 x9 x10 x11 x12 x13):cpF T n g (some ⟨x1,x2,x3,x4,x5,x6,m,List.toArray rs,some c,x7,x8,x9,x10,x11,x12,x13⟩) (some a) args=cond (Nat.ble args.length m) (Vl T.P (orc T n g) a c (Qht T.P a.sh rs) (VP args) [] ()) none:=_root_.id rfl
noncomputable def lpG(T:Tld)(n h:Nat)(a:Ann)(c:Option Code)(la:Option LA)(f:Fr)(K:KS):Option (XE×Fr×KS):=match c,la with
    |some c,some la=>run (fun s=>Vl T.P (orc T n h) a c (Qgw a.ak la a.rt) s.1 s.2 ()) (f,K)
    |_,_=>none
noncomputable def lpF(T:Tld)(n h t:Nat)(fn:Option Func)(a:Option Ann)(f:Fr)(K:KS):Option (XE×Fr×KS):=match a with
 |some a=>lpG T n h a (QG t (match fn with|some f=>f.body.getD .skip|none=>.skip)) (lk a.lp t) f K
 |none=>none
theorem QK(n h t f K):LP T (n+1) h t f K=lpF T n h t (T.P.funcs[h]?) (T.at h) f K:=by
 show(match T.at h with|some a=>_|none=>none)=_
 unfold lpF;cases T.at h<;>rfl
theorem QwP(n h t a f K)(x1 x2 x3 x4 x5 x6 m rs c x7 x8 x9 x10 x11 x12 x13):lpF T n h t (some ⟨x1,x2,x3,x4,x5,x6,m,rs,some c,x7,x8,x9,x10,x11,x12,x13⟩) (some a) f K=lpG T n h a (QG t c) (lk a.lp t) f K:=_root_.id rfl
theorem Qu(n h a c la f K):lpG T n h a (some c) (some la) f K=run (fun s=>Vl T.P (orc T n h) a c (Qgw a.ak la a.rt) s.1 s.2 ()) (f,K):=_root_.id rfl
theorem getD_some{α:Type}(x d:α):(some x).getD d=x:=_root_.id rfl
theorem QjP{α:Type}(d:α):(none:Option α).getD d=d:=_root_.id rfl
end
end Go.Proofs.YtonidbheohhgdaaGreat.Am
namespace Go.Proofs.YtonidbheohhgdaaGreat.Am
open Go
set_option linter.unusedVariables false
set_option linter.unusedSimpArgs false
section
variable{α β γ:Type}{c:α→List AV}
theorem Qnv(xs:List α)(i):inb (xs.map c) i=inb xs i:=by simp[inb]
theorem QRy(xs:List α):lnR (xs.map c)=ln xs:=by simp[lnR,ln]
theorem Qm2[Inhabited α](xs:List α)(i:Int)(h:inb xs i=true):QB (xs.map c) i.toNat=c (gt xs i):=by
 obtain⟨h0,h1⟩:=Qb4.1 h;have h2:i.toNat<xs.length:=by omega
 simp[QB,gt,List.getD_eq_getElem?_getD,h2]
theorem QMg(xs:List α)(i:Int)(h:inb xs i=true):QmX (xs.map c) i.toNat=true:=by
 unfold QmX;obtain⟨h0,h1⟩:=Qb4.1 h;rw[Nat.blt_eq];simp;omega
theorem QHk(xs:List α)(l h:Int):cut (xs.map c) l h=(cut xs l h).map c:=by simp[cut,List.map_take,List.map_drop]
theorem QM9(xs:List α):(xs.map c).length=xs.length:=by simp
theorem Qxj(xs:List α)(n:Nat)(x:α)(i:Int):inb (xs.set n x) i=inb xs i:=by simp[inb]
theorem QBl[Inhabited α](xs:List α)(x:α)(i:Int)(h:inb xs i=true):gt (xs.set i.toNat x) i=x:=by
 obtain⟨h0,h1⟩:=Qb4.1 h;have h2:i.toNat<xs.length:=by omega
 simp[gt,List.getD_eq_getElem?_getD,h2]
theorem Qwg(xs:List α)(n:Nat)(x y:α):(xs.set n x).set n y=xs.set n y:=by simp
theorem Qu8(o:Option α)(g:β→γ)(f:α→Option β):(o.bind f).map g=o.bind fun x=>(f x).map g:=by cases o<;>rfl
theorem Quc(b:Bool)(o:Option β)(g:β→γ)(l):(Vf b o l).map g=Vf b (o.map g) ():=by cases b<;>rfl
theorem QuB(b:Bool)(x y:Option β)(g:β→γ):(cond b x y).map g=cond b (x.map g) (y.map g):=by cases b<;>rfl
theorem Qxl{ρ δ:Type}(p:ρ→Option β)(q:δ→Option β)(x)(g:β→γ):(evO p q x).map g=evO (fun r=>(p r).map g) (fun r=>(q r).map g) x:=by cases x<;>rfl
theorem Qp7(x:α)(f:α→Option β):(some x).bind f=f x:=_root_.id rfl
theorem Qqn(o:Option α)(f:α→Option β)(g:β→Option γ):(o.bind f).bind g=o.bind fun x=>(f x).bind g:=by cases o<;>rfl
theorem Qzq{α' β':Type}(f:α→α')(g:β→β')(x):Sum.map f g (.inl x)=.inl (f x):=_root_.id rfl
theorem Qzl{α' β':Type}(f:α→α')(g:β→β')(x):Sum.map f g (.inr x)=.inr (g x):=_root_.id rfl
end
class EncR {α:Type} (c:α→List AV) (r:List AV) (x:outParam α):Prop where
 eq:r=c x
class EncL {α:Type} (c:α→List AV) (R:List (List AV)) (xs:outParam (List α)):Prop where
 eq:R=xs.map c
instance{α:Type}(c:α→List AV)(x:α):EncR c (c x) x:=⟨rfl⟩
instance{α:Type}(c:α→List AV)(xs:List α):EncL c (xs.map c) xs:=⟨rfl⟩
instance{α:Type}(c:α→List AV):EncL c [] []:=⟨rfl⟩
instance{α:Type}(c:α→List AV)(r R x xs)[h:EncR c r x][H:EncL c R xs]:EncL c (r::R) (x::xs):=⟨by rw[h.eq,H.eq];rfl⟩
instance{α:Type}(c:α→List AV)(R S xs ys)[h:EncL c R xs][H:EncL c S ys]:EncL c (R++S) (xs++ys):=⟨by rw[h.eq,H.eq];simp⟩
instance{α:Type}(c:α→List AV)(R xs)(i:Nat)(r x)[h:EncL c R xs][H:EncR c r x]:EncL c (R.set i r) (xs.set i x):=⟨by rw[h.eq,H.eq,List.map_set]⟩
instance{α:Type}(c:α→List AV)(n:Nat)(r x)[H:EncR c r x]:EncL c (List.replicate n r) (List.replicate n x):=⟨by rw[H.eq,List.map_replicate]⟩
theorem QES{α:Type}{c:α→List AV}(xs:List α)(R){ys}[h:EncL c R ys]:xs.map c++R=(xs++ys).map c:=by rw[h.eq];simp
theorem QDh{α:Type}{c:α→List AV}(xs:List α)(n:Nat)(R){x}[h:EncR c R x]:(xs.map c).set n R=(xs.set n x).map c:=by rw[h.eq,List.map_set]
theorem X9{α:Type}{c:α→List AV}(h:∀x,Vt (c x)=true)(xs:List α):Qz (xs.map c)=true:=by
 induction xs with
 |nil=>simp[Qz]
 |cons x xs ih=>simp[Qz,h,ih]
theorem ZC{α:Type}{c c':α→List AV}(h:∀x,Q5 (c x)=c' x)(xs:List α):Qh (xs.map c)=xs.map c':=by
 induction xs with
 |nil=>simp[Qh]
 |cons x xs ih=>simp[Qh,h,ih]
theorem QC9{α:Type}{c:α→List AV}(xs:List α)(n b:Nat)(m):Qkq (xs.map c).isEmpty (some (AV.own n [])) (Vf (rm (0+xs.length) b) (some (AV.own n (xs.map c))) m)=Vf (rm (0+xs.length) b) (some (AV.own n (xs.map c))) ():=by
 cases xs with
 |nil=>simp[Qkq,oeq,Vf,rm]
 |cons r R=>rfl
set_option linter.defProp false
set_option maxRecDepth 100000
def evA:=aI @QKi<|aI @QMa<|aI @Qwj<|aI @QCA<|aI @QyK<|aI @QB6<|aI @QGX<|aI @QG0<|aI @QFN<|aI @QBf<|aI @Qv9<|aI @QRT<|aI @QKU<|aI @QOm<|aI @QMi<|aI @QAU<|aI @QKO<|aI @Qz8<|aI @QCT<|aI @QAv<|aI @QvW<|aI @QIh<|aI @QNu<|aI @QFA<|aI @QC4<|aI @QF1<|aI @QEB<|aI @QNR<|aI @QzN<|aI @QvE<|aI @QNm<|aI @Qwk<|aI @QFP<|aI @QFU<|aI @QFZ<|aI @QGY<|aI @QL8<|aI @QHU<|aI @QNE<|aI @Qvy<|aI @Qnh<|aI @QFV<|aI @QIg<|aI @QyW<|aI @Qwv<|aI @QEx<|aI @QDQ<|aI @QNL<|aI @QMW<|aI @s_v<|aI @v_j<|aI @v_s<|aI @QNn<|aI @QHg<|aI @Qw7<|aI @QtW<|aI @n_c<|aI @QJW<|aI @QHR<|aI @QJ1<|aI @QI2<|aI @n_g<|aI @QHS<|aI @QMs<|aI @QKn<|aI @QDv<|aI @QMI<|aI @QFu<|aI @QGW<|aI @QGm<|aI @Qzt<|aI @Qxt<|aI @QtR<|aI @Qss<|aI @QtM<|aI @Qtm<|aI @QRV<|aI @QRJ<|aI @QCx<|aI @QI0<|aI @QHs<|aI @QE7<|aI @QFt<|aI @QD3<|aI @QAM<|aI @QwA<|aI @QA0<|aI @Qvf<|aI @QAK<|aI @QyL<|aI @QIY<|aI @QJD<|aI @QDr<|aI @QFG<|aI @QE8<|aI @QDk <|  aI @QAr<|aI @Qnh<|aI @QGu<|aI @QKD<|aI @QA3<|aI @QJd<|aI @QLr<|aI @Qyg<|aI @QxI<|aI @QxQ<|aI @QLg<|aI @QwU<|aI @QL5<|aI @QHf <|
 aI @Qyo<|aI @Qvt<|aI @QDJ<|aI @QsM<|aI @QxN<|aI @QwR<|aI @Qyj<|aI @QzG<|aI @QA9<|aI @QzB <|
 aI @QJP<|aI @QEV<|aI @QyT<|aI @c_g<|aI @QQ2<|aI @QCi<|aI @QCg<|aI @QBU <|
 aI @QiK<|aI @QuN<|aI @QrF<|aI @Qpg<|aI @Qrt <|
 aI @QC5<|aI @QvA<|aI @QEk<|aI @Qze<|aI @QMv<|aI @Qzf<|aI @QwY<|aI @QDp<|aI @QyS<|aI @QHj<|aI @QFE<|aI @QDe<|aI @QDl<|aI @QDf<|aI @QLx<|aI @QKE<|aI @QHi<|aI @QKY<|aI @QHZ<|aI @QJ3<|aI @QDy<|aI @QF2<|aI @QCY<|aI @QQP <|
 aI @QOW<|aI @QOU<|aI @QH8<|aI @QMz<|aI @QIQ<|aI @QGD<|aI @QMN<|aI @QD4<|aI @QBn<|aI @QH5<|aI @QOC <|
 aI @QJg<|aI @QDM<|aI @Qur<|aI @Qq9<|aI @Qrm<|aI @Qq1<|aI @QqM<|aI @QvL<|aI @Qq6<|aI @Qu9 <|
 aI @QqW<|aI @Qqg<|aI @VA<|aI @QiC<|aI @Qmi<|aI @Qni <|
 aI @QAm<|aI @Qz1<|aI @QEC<|aI @QB4<|aI @n_r<|aI @n_s<|aI @QQh<|aI @QSu<|aI @QRB <|
 aI @QKF<|aI @QD1<|aI @QzU<|aI @QDY<|aI @Qx8<|aI @QCW<|aI @QHb<|aI @QER<|aI @QBS<|aI @QBD <|
 aI @getD_some<|aI @QjP<|aI @Qvw<|aI @Qwq<|aI @QwP @QCs
def evB:=aI @Qow<|aI @QoB<|aI @QR1<|aI @QOZ<|aI @QPF<|aI @QPU<|aI @QO7<|aI @k_i<|aI @k_b<|aI @k_s<|aI @QAD<|aI @QEU<|aI @QO3<|aI @QSt<|aI @QP2<|aI @QR8<|aI @QOF<|aI @QSv<|aI @QOA<|aI @QRU<|aI @QO0<|aI @QRv<|aI @QQc<|aI @QQX<|aI @QPQ<|aI @QOK<|aI @QSD<|aI @QQx<|aI @QRf<|aI @QQW<|aI @QQC<|aI @QSs<|aI @QSo<|aI @QRO<|aI @QPr<|aI @QOy<|aI @QKi<|aI @QMa<|aI @Qwj<|aI @QCA<|aI @QyK<|aI @QB6<|aI @QGX<|aI @QG0<|aI @QL8<|aI @QHU<|aI @QNE<|aI @QP3<|aI @c_K<|aI @QMi<|aI @QLW<|aI @QPv<|aI @s_v<|aI @v_j<|aI @v_s<|aI @QNn<|aI @QHg<|aI @Qw7<|aI @p_0<|aI @p_e<|aI @p_s<|aI @p_n<|aI @p_z<|aI @p_a<|aI @QPc<|aI @QOI<|aI @QPz<|aI @QPK<|aI @QRI<|aI @QRa<|aI @QPi<|aI @QPt<|aI @QH1<|aI @Qmi<|aI @Qni<|aI @QjP<|aI @getD_some<|aI @n_c<|aI @QJW<|aI @QHR<|aI @QJ1<|aI @QI2<|aI @n_g<|aI @QHS<|aI @QMs<|aI @QKn<|aI @QB4<|aI @n_r<|aI @n_s<|aI @QAJ<|aI @QAl<|aI @QzM<|aI @QqW<|aI @Qqg<|aI @VA<|aI @QiC<|aI @Qyo<|aI @Qvt<|aI @QsM<|aI @QCi<|aI @QCg<|aI @QBS<|aI @QBD<|aI @getD_some<|aI @QjP<|aI @Qyg<|aI @QxI<|aI @QwU<|aI @QxQ<|aI @VT<|aI @QJd<|aI @QLr<|aI @c_M<|aI @QSg<|aI @QQZ<|aI @QQa<|aI @QSx<|aI @QRz<|aI @QMG<|aI @QG2<|aI @QEg<|aI @QDb<|aI @Qzs<|aI @QA4<|aI @QDw<|aI @QyQ<|aI @Qyb<|aI @QIB<|aI @QIx<|aI @QwT<|aI @QDU<|aI @QEO<|aI @QGL<|aI @QGs<|aI @QF4<|aI @QFB<|aI @Qv8<|aI @QyH<|aI @QtR<|aI @Qss<|aI @QI0<|aI @QHs<|aI @QSc<|aI @QP4<|aI @QOP<|aI @QO8<|aI @QQl<|aI @QSy<|aI @s_w<|aI @w_j<|aI @w_s<|aI @QPp<|aI @QSC<|aI @QHa<|aI @QDL<|aI @QQM<|aI @QRj<|aI @QJ0<|aI @QPA<|aI @QSG<|aI @QPq<|aI @QRl<|aI @QLM<|aI @QEI<|aI @QOg<|aI @QSa<|aI @QNh<|aI @QPE<|aI @QPX<|aI @QRn<|aI @QQd<|aI @QQ5<|aI @QPW<|aI @QOj<|aI @QPo<|aI @QQB<|aI @QOR<|aI @QQE<|aI @QHE<|aI @QNr<|aI @QQo<|aI @QPH<|aI @QRb<|aI @QOM<|aI @QPY<|aI @QPd<|aI @QQv<|aI @QQ8<|aI @QOr<|aI @QQm<|aI @QRh<|aI @QP0<|aI @QRs<|aI @QSj<|aI @QOL<|aI @QOu<|aI @QPL<|aI @QQq<|aI @QPT<|aI @QSd<|aI @QRe<|aI @QRL<|aI @QR3<|aI @QOE<|aI @QSb<|aI @QP5<|aI @QMp<|aI @QID<|aI @QKc<|aI @QHh<|aI @QQn<|aI @QRq<|aI @QSl<|aI @QSf<|aI @QQL<|aI @QQN<|aI @QQb<|aI @QNH<|aI @QMV<|aI @QHe<|aI @QIy<|aI @QSE<|aI @QSJ<|aI @QO4<|aI @QRx<|aI @QKj<|aI @QPe<|aI @QQR<|aI @QNV<|aI @QHO<|aI @QRu<|aI @QOG<|aI @QM0<|aI @QJi<|aI @QML<|aI @QKy<|aI @QJX<|aI @Bool.true_or<|aI @Bool.false_or<|aI @QRX<|aI @QPn<|aI @QRH<|aI @QOo<|aI @QSe<|aI @QPw<|aI @QSH<|aI @QOX<|aI @w_p<|aI @QRm<|aI @w_x<|aI @w_n<|aI @QCx<|aI @QK1<|aI @QLf<|aI @Qwq<|aI @QFK<|aI @QRR<|aI @QtM<|aI @Qtm<|aI @s_t<|aI @s_q<|aI @s_f<|aI @QPG<|aI @QLG<|aI @QGq<|aI @QPa<|aI @QNZ<|aI @QDs<|aI @QrT<|aI @QDW<|aI @QDn<|aI @QJo<|aI @QLs<|aI @QJm<|aI @QDm<|aI @QKX<|aI @QNN<|aI @QN3<|aI @QtW<|aI @Qvw<|aI @QwP<|aI @Qmi<|aI @QiK <|
 aI @QMw<|aI @QMR<|aI @QQD<|aI @QRN<|aI @QE9<|aI @QEy<|aI @QEf<|aI @QyX<|aI @Quw<|aI @QvZ<|aI @Qw2<|aI @Qx1<|aI @QpY<|aI @QJV<|aI @QHd<|aI @QRk<|aI @QNF <|
 aI @QCD<|aI @QJb<|aI @QMM<|aI @QKV<|aI @QN8<|aI @QLZ<|aI @QJR<|aI @QL4<|aI @QJ7<|aI @QLq<|aI @QMB<|aI @QLS<|aI @QMh<|aI @QJw<|aI @QMd<|aI @QNJ<|aI @QMe<|aI @QNY <|
 aI @QGF<|aI @QJM<|aI @QNT<|aI @QM2<|aI @QKa<|aI @QD5<|aI @QFH<|aI @QE4<|aI @QDK<|aI @QG5<|aI @QFR<|aI @QKh<|aI @QJy<|aI @QI6<|aI @QMC<|aI @QEz<|aI @QE2<|aI @QGi<|aI @QFk<|aI @QGb<|aI @QC7<|aI @QEo<|aI @QDi<|aI @QHM<|aI @QEW <|
 aI @Qz2<|aI @Qz3<|aI @QzD<|aI @QJp<|aI @QBb<|aI @QI5<|aI @QRw<|aI @QEH<|aI @Qn3<|aI @QMJ<|aI @QHr <|
 aI @QLQ<|aI @QJr<|aI @QF7<|aI @QDA<|aI @QNK<|aI @QEu<|aI @QEK<|aI @QDX<|aI @QBe<|aI @QBp<|aI @Qzc<|aI @QyP <|
 aI @QDo<|aI @QKR<|aI @QC0<|aI @QDd<|aI @QCK<|aI @QAV<|aI @QHL<|aI @QDt<|aI @QEm<|aI @QEh<|aI @Qwi<|aI @Qv4<|aI @QA6<|aI @Qvv<|aI @Qyn<|aI @QEA<|aI @QJT<|aI @QGn<|aI @QFe<|aI @QNp<|aI @QEp <|
 aI @QSi<|aI @m_c<|aI @QC8<|aI @QEe<|aI @QFJ<|aI @QE1<|aI @QLk<|aI @QLn<|aI @QMb<|aI @QA5<|aI @QAz<|aI @QzY <|
 aI @QAA<|aI @QI1<|aI @Qzd<|aI @Qzh<|aI @Qz6<|aI @QQz<|aI @QDc<|aI @QFy<|aI @QEY<|aI @QDD <|
 aI @QK4<|aI @QI4<|aI @QLV<|aI @QOd<|aI @QBA<|aI @QAN<|aI @QGc<|aI @Qza<|aI @QOD<|aI @QMX<|aI @QNM<|aI @QKJ<|aI @QJq<|aI @QAy<|aI @QKH <|
 aI @QzZ<|aI @QyC<|aI @QwE<|aI @QGg<|aI @QCM<|aI @QRZ<|aI @QGV<|aI @QH3<|aI @QMt<|aI @QLO<|aI @QGt<|aI @QMA<|aI @QIA<|aI @QGl<|aI @QIp<|aI @QHX<|aI @QLX<|aI @QG3<|aI @QJG<|aI @QRi<|aI @QP6<|aI @QQO<|aI @QOv<|aI @QPk<|aI @QPN<|aI @QR6<|aI @QSn<|aI @QQH<|aI @QO5<|aI @QP7<|aI @QR2<|aI @QQJ<|aI @QRc<|aI @QQs<|aI @QQr<|aI @QJJ<|aI @QL0<|aI @QNG<|aI @QF5<|aI @QC1<|aI @QCL<|aI @QGh<|aI @QDR<|aI @QyN<|aI @Qwa<|aI @QOO <|
 aI @QLm<|aI @QM4<|aI @QFb<|aI @Qlb<|aI @QrE<|aI @QIv<|aI @QNd<|aI @QGk<|aI @x_b<|aI @x_i<|aI @x_s<|aI @QNC<|aI @QIs<|aI @QLc<|aI @QQp<|aI @QKA<|aI @QED<|aI @QzJ<|aI @QQg <|
 aI @QGv<|aI @QF0<|aI @QEX<|aI @QJU<|aI @QMq<|aI @QRr<|aI @QEJ<|aI @QDa<|aI @QIf<|aI @QJB<|aI @QGI<|aI @QIT<|aI @QLy<|aI @QN9<|aI @QDu<|aI @QE5 <|
 aI @QCV<|aI @QAI<|aI @QBj<|aI @QAX<|aI @QyY<|aI @QDS<|aI @QLu<|aI @QNw<|aI @QL2<|aI @QM5<|aI @QAe<|aI @QyM<|aI @QGd<|aI @QFm<|aI @QDB<|aI @QFM<|aI @QFa <|
 aI @l_0<|aI @l_s<|aI @QOn<|aI @QGx<|aI @QJO<|aI @QGJ<|aI @QEd<|aI @QCR<|aI @QC3<|aI @QLe<|aI @QQ3<|aI @QOx<|aI @QOh<|aI @QSq<|aI @QPM<|aI @QDV<|aI @QKT<|aI @QMO<|aI @QKk<|aI @l_b<|aI @l_i<|aI @QPV<|aI @l_n<|aI @QI7<|aI @Qy1<|aI @QBv<|aI @QE6<|aI @QEs<|aI @QRY<|aI @QRA<|aI @QON<|aI @QRQ<|aI @QD2<|aI @QF3 <|
 aI @QGN<|aI @QMZ<|aI @QOc<|aI @i_b<|aI @i_i<|aI @QQG<|aI @i_n<|aI @QQy<|aI @QPm<|aI @QCs<|aI @QJA <|
 aI @QH7<|aI @QDT<|aI @QMT<|aI @QR4<|aI @s_b<|aI @QQ9<|aI @QSh<|aI @QOz<|aI @QQw<|aI @QPj<|aI @QRt<|aI @QSF<|aI @QOV<|aI @QOk<|aI @QQk<|aI @QFg<|aI @QK2<|aI @QRP<|aI @QQ4 <|
 aI @QKM<|aI @QK0<|aI @QM6<|aI @QJs<|aI @QNk<|aI @Qzn<|aI @QFD<|aI @QL1<|aI @QNX<|aI @QHB <|
 aI @QKS<|aI @QGK<|aI @QRF<|aI @QBU<|aI @a_1<|aI @a_2<|aI @a_3<|aI @a_4<|aI @QQA<|aI @QQ0<|aI @QRG @QP1
def evT:=aI @Qnv<|aI @QC9<|aI @QHk<|aI @QRy<|aI @Qm2<|aI @QMg<|aI @QDh<|aI @QES<|aI @Qw4<|aI @QM9<|aI @Qxj<|aI @QBl<|aI @Qwg<|aI @Qv2<|aI @QGw<|aI @Qu8<|aI @Quc<|aI @QuB<|aI @Qp7<|aI @Qxl<|aI @Qqn<|aI @Qzq @Qzl
def evN:=aI @VA<|aI @List.contains_nil<|aI @Bool.not_false<|aI @Bool.and_true<|aI @List.length_append<|aI @List.length_cons<|aI @List.length_nil<|aI @Nat.zero_add<|aI @VC<|@VT
end Go.Proofs.YtonidbheohhgdaaGreat.Am
