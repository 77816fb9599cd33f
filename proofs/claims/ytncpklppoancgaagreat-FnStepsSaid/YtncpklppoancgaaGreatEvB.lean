import Derived.Test.YtncpklppoancgaaGreatEvA
namespace Go.Proofs.YtncpklppoancgaaGreat.Am
open Go
set_option linter.unusedVariables false
set_option linter.unusedSimpArgs false
section
variable {β : Type}
theorem Qdo {α : Type} {p : Prop} [Decidable p] {b : Bool} (h : b = true ↔ p) (x y : α) : (if p then x else y) = cond b x y:=by
 cases b with
 | true=>rw [if_pos (h.1 rfl)]; rfl
 | false=>rw [if_neg (fun hp=>by have:=h.2 hp; cases this)]; rfl
theorem Ql1 {m n : Nat} : Nat.blt m n = true ↔ m < n:=by rw [Nat.blt_eq]
theorem QjA {m n : Nat} : Nat.ble m n = true ↔ m ≤ n:=by rw [Nat.ble_eq]
def sel {α : Type} (b : Bool) (x y : α) (_ : Lk (x,y)) : α:=cond b x y
theorem QBy {α : Type} (x y : α) (l) : sel true x y l = x:=_root_.id rfl
theorem QB2 {α : Type} (x y : α) (l) : sel false x y l = y:=_root_.id rfl
theorem QFy (v) (k : AV → Option β) (l) : Qkw v k l = k v:=_root_.id rfl
theorem QBr (K) (k : KS → Option β) (l) : XA K k l = k K:=_root_.id rfl
theorem QPo (f : Fr) (d : Nat) (v : AV) (t : Nat) : up f d v t = sel (d == t) v (f t) ():=by
 unfold up sel
 by_cases h : t = d
 ·simp [h]
 ·have : (d == t) = false:=by simp; exact fun h'=>h h'.symm
  simp [h,this]
theorem QMH (m n : Nat) : Nat.ble m n = decide (m ≤ n):=by rw [Bool.eq_iff_iff,Nat.ble_eq]; simp
theorem QP3 (m n : Nat) : Nat.blt m n = decide (m < n):=by rw [Bool.eq_iff_iff,Nat.blt_eq]; simp
theorem QSo (h : Decidable True) : @decide True h = true:=by simp
theorem QTy (h : Decidable False) : @decide False h = false:=by simp
theorem QIN (m n : Nat) (f : Fr) (t : Nat) : Qqr m n f t = sel (Nat.ble m t && Nat.blt t n) .u (f t) ():=_root_.id rfl
theorem Qwq (t : Nat) : frm [] t = .u:=_root_.id rfl
theorem Qtm (d : Nat) (v : AV) (l : List (Nat × AV)) (t : Nat) : frm ((d,v) :: l) t = sel (d == t) v (frm l t) ():=by
 show up (frm l) d v t = _; exact QPo _ _ _ _
theorem Qs3 (t : Nat) : Xf [] t = .u:=by simp [Xf]
theorem QrJ (v : AV) (l : List AV) : Xf (v :: l) 0 = v:=_root_.id rfl
theorem Qr8 (v : AV) (l : List AV) (t : Nat) : Xf (v :: l) (t + 1) = Xf l t:=_root_.id rfl
theorem Qy4 (f : Fr) (t : Tmp) : ev f (.tmp t) = f t:=_root_.id rfl
theorem QsT (f : Fr) (v : Value) : ev f (.const v) = cv v:=_root_.id rfl
theorem Qw1 (f : Fr) (g : FuncId) : ev f (.func g) = .clo g []:=_root_.id rfl
theorem Qws (b : Bool) : cv (.bool b) = .b b:=_root_.id rfl
theorem Qyd (k : IntKind) (i : Int) : cv (.int k i) = .i k i:=_root_.id rfl
theorem Qzf (x : ByteArray) : cv (.string x) = .s x.data.toList:=_root_.id rfl
theorem Qyy : cv (.slice none 0 0) = .nil:=_root_.id rfl
theorem QrP {α : Type} (x y : α) : cond true x y = x:=_root_.id rfl
theorem Qrb {α : Type} (x y : α) : cond false x y = y:=_root_.id rfl
theorem VC (q : Option β) (l) : Vx true q l = q:=_root_.id rfl
def Jt {ρ δ γ : Type} (o : Option (Fl ρ δ)) (p : ρ → γ) (q : δ → γ) : Option γ:=o.map (evO p q)
theorem QpW {ρ δ γ : Type} (o : Option (Fl ρ δ)) (p : ρ → γ) (q : δ → γ) (k : γ → Option β) (l) : JF (Jt o p q) k l = o.bind (evO (fun r=>k (p r)) (fun r=>k (q r))):=by
 cases o with
 | none=>rfl
 | some o=>cases o <;> rfl
theorem QjT {α : Type} (x : α) (k : α → Option β) (l) : JF (some x) k l = k x:=_root_.id rfl
theorem QpO {α : Type} (k : α → Option β) (l) : JF (none : Option α) k l = none:=_root_.id rfl
theorem Qpn {α : Type} (b : Bool) (q : Option α) (k : α → Option β) (l) (l') : JF (Vx b q l') k l = Vx b (JF q k l) ():=by cases b <;> rfl
theorem QqM {α γ : Type} (o : Option γ) (e : γ → α) (k : α → Option β) (l) : JF (o.map e) k l = o.bind (fun r=>k (e r)):=by cases o <;> rfl
theorem Qmu {α : Type} (i) : lk ([] : List (Nat × α)) i = none:=_root_.id rfl
theorem Qow {α : Type} (i) (x : α) (l j) : lk ((i,x) :: l) j = sel (i == j) (some x) (lk l j) ():=_root_.id rfl
end
section
variable {β : Type} {P : Program} {D : Orc} {a : Ann} {f : Fr} {K : KS} {Q : KT β} {k : AV → KS → Option β}
theorem QGF (l) : V9 P D a .skip Q f K l = Q .normal f K:=_root_.id rfl
theorem QMc (l) : V9 P D a .ret Q f K l = Q .ret f K:=_root_.id rfl
theorem QHx (id l) : V9 P D a (.exit id) Q f K l = Q (.exit id) f K:=_root_.id rfl
theorem QKU (x y l) : V9 P D a (.seq x y) Q f K l = V9 P D a x (QrI (fun f K=>V9 P D a y Q f K ()) Q) f K ():=_root_.id rfl
def QKh (v : AV) (x y : Option β) (_ : Lk (x,y)) : Option β:=match v with | .b b=>cond b x y | _=>none
theorem QFk (c x y l) : V9 P D a (.cond c x y) Q f K l = QKh (ev f c) (V9 P D a x Q f K ()) (V9 P D a y Q f K ()) ():=_root_.id rfl
theorem QJR (b) (x y : Option β) (l) : QKh (.b b) x y l = cond b x y:=_root_.id rfl
theorem QCV (id c l) : V9 P D a (.block id c) Q f K l = V9 P D a c (Qwc id Q) f K ():=_root_.id rfl
theorem Qy7 (id ol l) : V9 P D a (.region id (List.toArray ol) false) Q f K l = ofz (lk a.fz id) (lk a.fc id) f K (fun f K=>QjU P D a id (lk a.av id) (List.toArray ol) Q f K ()) ():=_root_.id rfl
theorem QDp {α : Type} (x : α) (xs ys : List α) : List.append (x :: xs) ys = x :: List.append xs ys:=_root_.id rfl
theorem QGt {α : Type} (ys : List α) : List.append [] ys = ys:=_root_.id rfl
theorem QTd (f : Fr) (K : KS) (k : Fr → KS → Option β) (l) : ofz none none f K k l = k f K:=_root_.id rfl
theorem QT7 (f : Fr) (K : KS) (ss) (k : Fr → KS → Option β) (l) : ofz (some ss) none f K k l = Qo5 ss f K k ():=_root_.id rfl
theorem QTC (f : Fr) (K : KS) (cs) (k : Fr → KS → Option β) (l) : ofz none (some cs) f K k l = Qp0 cs f K k ():=_root_.id rfl
theorem QR6 (f : Fr) (K : KS) (k : Fr → KS → Option β) (l) : Qp0 [] f K k l = k f K:=_root_.id rfl
theorem QWS (f : Fr) (K : KS) (s o ss) (k : Fr → KS → Option β) (l) : Qp0 ((s,o) :: ss) f K k l = QBA o (f s) K (fun K=>Qp0 ss f K k ()) ():=_root_.id rfl
theorem QVZ (o jb i q) (K : KS) (k : KS → Option β) (l) : QBA o (.ptr jb i q) K k l = QDl o jb (kg K jb) K k ():=_root_.id rfl
theorem QTn (o jb cs) (K : KS) (k : KS → Option β) (l) : QDl o jb (some (.box cs)) K k l = QBa o jb cs (cs.drop o) K k ():=_root_.id rfl
theorem QV0 (o jb j cs ds) (K : KS) (k : KS → Option β) (l) : QBa o jb cs (.sl j :: ds) K k l = QAW o jb j cs (kg K j) K k ():=_root_.id rfl
theorem QUU (o jb j cs m rows) (K : KS) (k : KS → Option β) (l) : QAW o jb j cs (some (.lst m rows)) K k l = k ((K.set j none).set jb (some (.box (cs.set o (.imm m (Qv rows)))))):=_root_.id rfl
theorem QSJ (f : Fr) (K : KS) (k : Fr → KS → Option β) (l) : Qo5 [] f K k l = k f K:=_root_.id rfl
theorem QTG (f : Fr) (K : KS) (s ss) (k : Fr → KS → Option β) (l) : Qo5 (s :: ss) f K k l = QAO s (f s) f K (fun f K=>Qo5 ss f K k ()) ():=_root_.id rfl
theorem QSz (f : Fr) (K : KS) (s j) (k : Fr → KS → Option β) (l) : QAO s (.sl j) f K k l = QBQ s j (kg K j) f K k ():=_root_.id rfl
theorem QUf (f : Fr) (K : KS) (s j m rows) (k : Fr → KS → Option β) (l) : QBQ s j (some (.lst m rows)) f K k l = k (up f s (.imm m (Qv rows))) (K.set j none):=_root_.id rfl
theorem QPF (id ol l) : QjU P D a id none (List.toArray ol) Q f K l = QqA P D a id (lk a.an id) (List.toArray ol) ol Q f K ():=_root_.id rfl
theorem QLB (id vs ol l) : QjU P D a id (some vs) (List.toArray ol) Q f K l = Qaw vs P D (List.toArray ol) ol f K (fun f K=>Q .normal f K) ():=_root_.id rfl
theorem QIa (vs ops) (k : Fr → KS → Option β) (l) : Qaw vs P D ops [] f K k l = k f K:=_root_.id rfl
theorem QAC (vs ops d o t p af r) (k : Fr → KS → Option β) (l) : Qaw vs P D ops (⟨some d,o,t,p,af,none⟩ :: r) f K k l = QlE vs P D o f K (fun v K'=>Qkw v (fun v=>Qaw vs P D ops r (up f d v) K' k ()) ()) ():=_root_.id rfl
theorem QxV (vs ops o t p af r) (k : Fr → KS → Option β) (l) : Qaw vs P D ops (⟨none,o,t,p,af,none⟩ :: r) f K k l = QlE vs P D o f K (fun v K'=>Qaw vs P D ops r f K' k ()) ():=_root_.id rfl
theorem QRJ (vs ops r) (k : Fr → KS → Option β) (d op t pos after j want l) : Qaw vs P D ops (⟨some d,op,t,pos,after,some (j,want)⟩ :: r) f K k l =
  ogd ((ops[j]?).bind (·.dst)) want f (fun f=>QlE vs P D op f K (fun v K'=>Qkw v (fun v=>Qaw vs P D ops r (up f d v) K' k ()) ()) ()) (fun f=>Qkw (.tup []) (fun v=>Qaw vs P D ops r (up f d v) K k ()) ()) ():=_root_.id rfl
theorem QPU (vs ops r) (k : Fr → KS → Option β) (op t pos after j want l) : Qaw vs P D ops (⟨none,op,t,pos,after,some (j,want)⟩ :: r) f K k l =
  ogd ((ops[j]?).bind (·.dst)) want f (fun f=>QlE vs P D op f K (fun v K'=>Qaw vs P D ops r f K' k ()) ()) (fun f=>Qaw vs P D ops r f K k ()) ():=_root_.id rfl
def QeP : Op → Bool
 | .call ⟨.value (.func _),_,_⟩=>true
 | _=>false
theorem QRv (vs o l) (k : AV → KS → Option β) (h : QeP o = false) : QlE vs P D o f K k l = oop P D o f K k ():=by
 unfold QeP at h
 unfold QlE
 split
 ·cases h
 ·rfl
theorem QOp (vs g args ts l) (k : AV → KS → Option β) : QlE vs P D (.call ⟨.value (.func g),args,ts⟩) f K k l = cond (vs.contains g) (Qdu P D (.call ⟨.value (.func g),args,ts⟩) f K k ()) (oop P D (.call ⟨.value (.func g),args,ts⟩) f K k ()):=_root_.id rfl
theorem QCf (x args ts) : QeP (.call ⟨.value (.tmp x),args,ts⟩) = false:=_root_.id rfl
theorem QLz (b args ts) : QeP (.call ⟨.builtin b,args,ts⟩) = false:=_root_.id rfl
theorem QCB (x) : QeP (.move x) = false:=_root_.id rfl
theorem QGm (x) : QeP (.assign x) = false:=_root_.id rfl
theorem QAM (t x) : QeP (.load t x) = false:=_root_.id rfl
theorem Qxq (t x y) : QeP (.store t x y) = false:=_root_.id rfl
theorem QP4 (t x i) : QeP (.fieldAddr t x i) = false:=_root_.id rfl
theorem QMC (t x i) : QeP (.indexAddr t x i) = false:=_root_.id rfl
theorem QHz (x i) : QeP (.extract x i) = false:=_root_.id rfl
theorem QGD (t x i) : QeP (.field t x i) = false:=_root_.id rfl
theorem QGA (o t x y u) : QeP (.binOp o t x y u) = false:=_root_.id rfl
theorem QMJ (o t x) : QeP (.unOp o t x) = false:=_root_.id rfl
theorem QHb (x) : QeP (.nilCheck x) = false:=_root_.id rfl
theorem QCX (c x y) : QeP (.pick c x y) = false:=_root_.id rfl
theorem Qyi (t ps) : QeP (.build t ps) = false:=_root_.id rfl
theorem QJZ (t n ps) : QeP (.buildSlice t n ps) = false:=_root_.id rfl
theorem Qy1 (t) : QeP (.alloc t) = false:=_root_.id rfl
theorem QF3 (t x) : QeP (.box t x) = false:=_root_.id rfl
theorem QFY (t x lo hi m) : QeP (.slice t x lo hi m) = false:=_root_.id rfl
theorem QGf (t x i) : QeP (.index t x i) = false:=_root_.id rfl
theorem QLb (s t x) : QeP (.convert s t x) = false:=_root_.id rfl
theorem Qt7 (id ops ol l) : QqA P D a id none ops ol Q f K l = Qsc P D a id (lk a.ac id) ops ol Q f K ():=_root_.id rfl
theorem QtP (id us ops ol l) : QqA P D a id (some us) ops ol Q f K l = Qh9 P D ops us ol f K (fun f K=>Q .normal f K) ():=_root_.id rfl
theorem Qur (id ops ol l) : Qsc P D a id none ops ol Q f K l = Qm6 P D a id ops ol Q f K ():=_root_.id rfl
theorem QuE (id x ops ol l) : Qsc P D a id (some x) ops ol Q f K l = Qgp P D ops ol f K (fun f K=>Q .normal f K) ():=_root_.id rfl
theorem QIw (ops) (k : Fr → KS → Option β) (l) : Qgp P D ops [] f K k l = k f K:=_root_.id rfl
theorem QAN (ops d o t p af r) (k : Fr → KS → Option β) (l) : Qgp P D ops (⟨some d,o,t,p,af,none⟩ :: r) f K k l = Qdu P D o f K (fun v K'=>Qkw v (fun v=>Qgp P D ops r (up f d v) K' k ()) ()) ():=_root_.id rfl
theorem Qyj (ops o t p af r) (k : Fr → KS → Option β) (l) : Qgp P D ops (⟨none,o,t,p,af,none⟩ :: r) f K k l = Qdu P D o f K (fun v K'=>Qgp P D ops r f K' k ()) ():=_root_.id rfl
theorem QDx (x l) : Qdu P D (.move x) f K k l = oop P D (.move x) f K k ():=_root_.id rfl
theorem Qw3 (x l) : Qdu P D (.assign x) f K k l = oop P D (.assign x) f K k ():=_root_.id rfl
theorem QCR (t x l) : Qdu P D (.load t x) f K k l = oop P D (.load t x) f K k ():=_root_.id rfl
theorem QyG (t x y l) : Qdu P D (.store t x y) f K k l = oop P D (.store t x y) f K k ():=_root_.id rfl
theorem QJL (t x i l) : Qdu P D (.fieldAddr t x i) f K k l = oop P D (.fieldAddr t x i) f K k ():=_root_.id rfl
theorem QMl (t x i l) : Qdu P D (.indexAddr t x i) f K k l = oop P D (.indexAddr t x i) f K k ():=_root_.id rfl
theorem QHn (t x i l) : Qdu P D (.field t x i) f K k l = oop P D (.field t x i) f K k ():=_root_.id rfl
theorem QIq (x i l) : Qdu P D (.extract x i) f K k l = oop P D (.extract x i) f K k ():=_root_.id rfl
theorem QFh (o t x y u l) : Qdu P D (.binOp o t x y u) f K k l = oop P D (.binOp o t x y u) f K k ():=_root_.id rfl
theorem QxT (t ps l) : Qdu P D (.build t ps) f K k l = oop P D (.build t ps) f K k ():=_root_.id rfl
theorem QQj (o t x l) : Qdu P D (.unOp o t x) f K k l = oop P D (.unOp o t x) f K k ():=_root_.id rfl
theorem QFB (x l) : Qdu P D (.nilCheck x) f K k l = oop P D (.nilCheck x) f K k ():=_root_.id rfl
theorem QCQ (c x y l) : Qdu P D (.pick c x y) f K k l = oop P D (.pick c x y) f K k ():=_root_.id rfl
theorem QzR (t l) : Qdu P D (.alloc t) f K k l = oop P D (.alloc t) f K k ():=_root_.id rfl
theorem QGR (t x lo hi m l) : Qdu P D (.slice t x lo hi m) f K k l = oop P D (.slice t x lo hi m) f K k ():=_root_.id rfl
theorem QFe (t x i l) : Qdu P D (.index t x i) f K k l = oop P D (.index t x i) f K k ():=_root_.id rfl
theorem QPv (b xs ts l) : Qdu P D (.call ⟨.builtin b,xs,ts⟩) f K k l = oop P D (.call ⟨.builtin b,xs,ts⟩) f K k ():=_root_.id rfl
theorem QRs (s t x l) : Qdu P D (.convert s t x) f K k l = oop P D (.convert s t x) f K k ():=_root_.id rfl
theorem QFF (t x l) : Qdu P D (.box t x) f K k l = oop P D (.box t x) f K k ():=_root_.id rfl
def QwX (b c d e : Bool) (D : Orc) (g : FuncId) (K : KS) (vs : List AV) (k : AV → KS → Option β) (_ : Lk (vs,k)) : Option β:=cond b (QoF K vs k ()) (cond c (Qmb K vs k ()) (cond d (QkH D g K vs k ()) (cond e (Qit D g K vs k ()) (Qgh D g K vs k ()))))
theorem QCz (x xs ts l) : Qdu P D (.call ⟨.value x,List.toArray xs,ts⟩) f K k l = Qti (ev f x) (fun g caps=>QwX (D.s g) (D.q g) (D.w g) (D.v g) D g K (xs.map (ev f) ++ caps) k ()) ():=_root_.id rfl
theorem s_t (g c d e) (K : KS) (vs) (k : AV → KS → Option β) (l) : QwX true c d e D g K vs k l = QoF K vs k ():=_root_.id rfl
theorem s_q (g d e) (K : KS) (vs) (k : AV → KS → Option β) (l) : QwX false true d e D g K vs k l = Qmb K vs k ():=_root_.id rfl
theorem s_f (g) (K : KS) (vs) (k : AV → KS → Option β) (l) : QwX false false false false D g K vs k l = Qgh D g K vs k ():=_root_.id rfl
theorem s_w (g e) (K : KS) (vs) (k : AV → KS → Option β) (l) : QwX false false true e D g K vs k l = Ql3 D g K (Qfb vs) vs k ():=_root_.id rfl
theorem w_j (g) (K : KS) (js vs) (k : AV → KS → Option β) (l) : Ql3 D g K js vs k l = Vx (ndB js) (QlI D g K js (Qc8 js vs) k ()) ():=_root_.id rfl
theorem w_s (g) (K : KS) (js cs) (k : AV → KS → Option β) (l) : QlI D g K js (some cs) k l = Vx (QiB (Jx K js)) (JF (D.a g (Jx K js) cs) (fun r=>k (Qck js K.length r.1) (Qef K js r.2)) ()) ():=_root_.id rfl
theorem s_v (g) (K : KS) (vs) (k : AV → KS → Option β) (l) : QwX false false false true D g K vs k l = QlZ D g K (Qfb vs) vs k ():=_root_.id rfl
theorem v_j (g) (K : KS) (js vs) (k : AV → KS → Option β) (l) : QlZ D g K js vs k l = Vx (ndB js) (QlV D g K js (Qc8 js vs) k ()) ():=_root_.id rfl
theorem v_s (g) (K : KS) (js cs) (k : AV → KS → Option β) (l) : QlV D g K js (some cs) k l = Vx (Qs1 (Jx K js)) (JF (D.m g (Jx K js) cs) (fun x=>k (V8 K.length x).1 (Zt K js (QbA js) ++ (V8 K.length x).2)) ()) ():=_root_.id rfl
theorem QNL : QbA [] = []:=_root_.id rfl
theorem QIQ (j js) : QbA (j :: js) = none :: QbA js:=_root_.id rfl
theorem p_0 (vs) : QnM [] vs = vs:=by cases vs <;> rfl
theorem p_e (ss) : QnM ss [] = []:=by cases ss <;> rfl
theorem p_s (s ss v vs) : QnM (s :: ss) (v :: vs) = Qta s v :: QnM ss vs:=_root_.id rfl
theorem p_n (v) : Qta .n v = v:=by cases v <;> rfl
theorem p_z (k v) : Qta (.z k) v = nic k v:=by cases v <;> rfl
theorem p_a (ns cs) : Qta (.a ns) (.agg cs) = .agg (ni ns cs):=_root_.id rfl
theorem QTU (cs) : ni [] cs = cs:=by cases cs <;> rfl
theorem QSQ (n ns c cs) : ni (n :: ns) (c :: cs) = nic n c :: ni ns cs:=_root_.id rfl
theorem QWM (n) : nic (n + 1) .nil = .imm (n + 1) []:=_root_.id rfl
theorem QVv : nic 0 .nil = .nil:=_root_.id rfl
theorem QSc (n c x) : nic n (.i c x) = .i c x:=_root_.id rfl
theorem QV6 (n x) : nic n (.b x) = .b x:=_root_.id rfl
theorem QSL (n x) : nic n (.s x) = .s x:=_root_.id rfl
theorem QWN (n m r) : nic n (.imm m r) = .imm m r:=_root_.id rfl
theorem QW7 : Qfb [] = []:=_root_.id rfl
theorem QRF (c cs) : Qfb (c :: cs) = Qmz c ++ Qfb cs:=_root_.id rfl
theorem QJh (j) : Qmz (.sl j) = [j]:=_root_.id rfl
theorem QQA (j a b) : Qmz (.ptr j a b) = [j]:=_root_.id rfl
theorem QO0 (js j a b) : Qdv js (.ptr j a b) = (Qco js j).map fun i=>.ptr i a b:=_root_.id rfl
theorem QWu (K js es) : Qef K js es = Zt K js es ++ Qic js es:=_root_.id rfl
theorem QTH (es) : Qic [] es = es:=_root_.id rfl
theorem QSX (j js e es) : Qic (j :: js) (e :: es) = Qic js es:=_root_.id rfl
theorem QUL (k i) : rix [] k i = k + i:=_root_.id rfl
theorem QST (j js k) : rix (j :: js) k 0 = j:=_root_.id rfl
theorem QSf (j js k) : rix (j :: js) k 1 = rix js k 0:=_root_.id rfl
theorem QVs (j js k) : rix (j :: js) k 2 = rix js k 1:=_root_.id rfl
theorem QTV (j js k) : rix (j :: js) k 3 = rix js k 2:=_root_.id rfl
theorem QS6 (j js k) : rix (j :: js) k 4 = rix js k 3:=_root_.id rfl
theorem QUW (j js k) : rix (j :: js) k 5 = rix js k 4:=_root_.id rfl
theorem QVl (j js k) : rix (j :: js) k 6 = rix js k 5:=_root_.id rfl
theorem QSE (j js k) : rix (j :: js) k 7 = rix js k 6:=_root_.id rfl
theorem QW9 (j js k) : rix (j :: js) k 8 = rix js k 7:=_root_.id rfl
theorem QS0 (j js k) : rix (j :: js) k 9 = rix js k 8:=_root_.id rfl
theorem QWs (j js k) : rix (j :: js) k 10 = rix js k 9:=_root_.id rfl
theorem QWx (j js k) : rix (j :: js) k 11 = rix js k 10:=_root_.id rfl
theorem QWG (j js k) : rix (j :: js) k 12 = rix js k 11:=_root_.id rfl
theorem QV4 (j js k) : rix (j :: js) k 13 = rix js k 12:=_root_.id rfl
theorem QT3 (j js k) : rix (j :: js) k 14 = rix js k 13:=_root_.id rfl
theorem QSx (j js k) : rix (j :: js) k 15 = rix js k 14:=_root_.id rfl
theorem QVR (j js k) : rix (j :: js) k 16 = rix js k 15:=_root_.id rfl
theorem QTO (js k c n) : Qck js k (.i c n) = .i c n:=by simp [Qck]
theorem QTm (js k x) : Qck js k (.b x) = .b x:=by simp [Qck]
theorem QUt (js k x) : Qck js k (.s x) = .s x:=by simp [Qck]
theorem QU8 (js k) : Qck js k .nil = .nil:=by simp [Qck]
theorem QUQ (js k n r) : Qck js k (.imm n r) = .imm n r:=by simp [Qck]
theorem QNg (js k i) : Qck js k (.sl i) = .sl (rix js k i):=by simp [Qck]
theorem QLh (js k i a b) : Qck js k (.ptr i a b) = .ptr (rix js k i) a b:=by simp [Qck]
theorem QOk (js k cs) : Qck js k (.agg cs) = .agg (QfJ js k cs):=by simp [Qck]
theorem QOL (js k cs) : Qck js k (.tup cs) = .tup (QfJ js k cs):=by simp [Qck]
theorem QR5 (js k) : QfJ js k [] = []:=by simp [QfJ]
theorem QUg (js k c cs) : QfJ js k (c :: cs) = Qck js k c :: QfJ js k cs:=by simp [QfJ]
theorem QWy (m c n) : rok m (.i c n) = true:=_root_.id rfl
theorem QS4 (m x) : rok m (.b x) = true:=_root_.id rfl
theorem QRY (m x) : rok m (.s x) = true:=_root_.id rfl
theorem QS1 (m) : rok m .nil = true:=_root_.id rfl
theorem QS8 (m n r) : rok m (.imm n r) = true:=_root_.id rfl
theorem QK9 (m i) : rok m (.sl i) = Nat.ble (i + 1) m:=_root_.id rfl
theorem QQ4 (m i a b) : rok m (.ptr i a b) = Nat.ble (i + 1) m:=_root_.id rfl
theorem QI5 (m cs) : rok m (.agg cs) = QnK m cs:=_root_.id rfl
theorem QLa (m cs) : rok m (.tup cs) = QnK m cs:=_root_.id rfl
theorem QR7 (m) : QnK m [] = true:=_root_.id rfl
theorem QTZ (m c cs) : QnK m (c :: cs) = (rok m c && QnK m cs):=_root_.id rfl
theorem QT2 (c n) : clc (.i c n) = true:=_root_.id rfl
theorem QTJ (x) : clc (.b x) = true:=_root_.id rfl
theorem QMK (x) : clc (.s x) = true:=_root_.id rfl
theorem QSF : clc .nil = true:=_root_.id rfl
theorem QUd (n r) : clc (.imm n r) = true:=_root_.id rfl
theorem QPp : QpC [] = true:=_root_.id rfl
theorem QPX (c cs) : QpC (c :: cs) = (clc c && QpC cs):=_root_.id rfl
theorem QUy : QiB [] = true:=_root_.id rfl
theorem QWB (n r K) : QiB (some (.lst n r) :: K) = QiB K:=_root_.id rfl
theorem QME (cs K) : QiB (some (.box cs) :: K) = (QpC cs && QiB K):=_root_.id rfl
theorem QHy (cs) : Qmz (.agg cs) = Qfb cs:=_root_.id rfl
theorem QV3 (c n) : Qmz (.i c n) = []:=_root_.id rfl
theorem QTq (x) : Qmz (.b x) = []:=_root_.id rfl
theorem QOz (x) : Qmz (.s x) = []:=_root_.id rfl
theorem QSn : Qmz .nil = []:=_root_.id rfl
theorem QTx (n r) : Qmz (.imm n r) = []:=_root_.id rfl
theorem QUl (g l) : Qmz (.clo g l) = []:=_root_.id rfl
theorem QS2 (js) : Qc8 js [] = some []:=_root_.id rfl
theorem QVa (js c cs) : Qc8 js (c :: cs) = (Qdv js c).bind fun c'=>(Qc8 js cs).map (c' :: ·):=_root_.id rfl
theorem QLV (js j) : Qdv js (.sl j) = (Qco js j).map .sl:=_root_.id rfl
theorem QH6 (js cs) : Qdv js (.agg cs) = (Qc8 js cs).map .agg:=_root_.id rfl
theorem QWA (js c n) : Qdv js (.i c n) = some (.i c n):=_root_.id rfl
theorem QR8 (js x) : Qdv js (.b x) = some (.b x):=_root_.id rfl
theorem QPM (js x) : Qdv js (.s x) = some (.s x):=_root_.id rfl
theorem QTF (js) : Qdv js .nil = some .nil:=_root_.id rfl
theorem QVD (js n r) : Qdv js (.imm n r) = some (.imm n r):=_root_.id rfl
theorem QWR (js g) : Qdv js (.clo g []) = some (.clo g []):=_root_.id rfl
theorem QkI (x y : Nat) : Nat.beq x y = (x == y):=by rw [Bool.eq_iff_iff]; simp
theorem QVr (x l j) : Qco (x :: l) j = sel (x == j) (some 0) ((Qco l j).map (· + 1)) ():=by rw [← QkI]; rfl
theorem QUA (K) : Jx K [] = []:=_root_.id rfl
theorem QSa (K j js) : Jx K (j :: js) = kg K j :: Jx K js:=_root_.id rfl
theorem QU3 (K es) : Zt K [] es = K:=by cases es <;> rfl
theorem QVU (K j js e es) : Zt K (j :: js) (e :: es) = Zt (K.set j e) js es:=_root_.id rfl
theorem QTs : Qs1 [] = true:=_root_.id rfl
theorem QSD (n r K) : Qs1 (some (.lst n r) :: K) = Qs1 K:=_root_.id rfl
theorem QWQ (c n) : AV.scal (.i c n) = true:=_root_.id rfl
theorem QWI (x) : AV.scal (.b x) = true:=_root_.id rfl
theorem QR3 (x) : AV.scal (.s x) = true:=_root_.id rfl
theorem QTL (c n) : AV.flat (.i c n) = true:=_root_.id rfl
theorem QRH (x) : AV.flat (.b x) = true:=_root_.id rfl
theorem QTE (x) : AV.flat (.s x) = true:=_root_.id rfl
theorem QT0 : AV.flat (.tup []) = true:=_root_.id rfl
theorem QTa : Qzm .one = true:=_root_.id rfl
theorem w_p (x g j i o) (k : AV → KS → Option β) (l) : onp D f K (.ptr j i o) x g k l = onj D f K x g j i o (kg K j) k ():=_root_.id rfl
theorem QUJ (x g j i o q r) (k : AV → KS → Option β) (l) : onj D f K x g j i o (some (.lst q r)) k l = onx D f K x g j i o q r ((Q4 r i).drop o) k ():=_root_.id rfl
theorem w_x (x g j i o q r m rs cs) (k : AV → KS → Option β) (l) : onx D f K x g j i o q r (.own m rs :: cs) k l = Vx x.scal (JF (D.a g [some (.lst m rs)] [.sl 0,x]) (fun s=>onr D f K j i o q r s k ()) ()) ():=_root_.id rfl
theorem QRI (u us ops d o t p af r) (k : Fr → KS → Option β) (l) : Qh9 P D ops (u :: us) (⟨some d,o,t,p,af,none⟩ :: r) f K k l = oop P D o f K (fun v K'=>Qkw v (fun v=>Qh9 P D ops us r (up f d v) K' k ()) ()) ():=_root_.id rfl
def QEr (d : Option Tmp) (v : AV) (f : Fr) (k : Fr → Option β) (_ : Lk (f,k)) : Option β:=match d with
 | some d=>Qkw v (fun v=>k (up f d v)) ()
 | none=>k f
theorem QES (d v f) (k : Fr → Option β) (l) : QEr (some d) v f k l = Qkw v (fun v=>k (up f d v)) ():=_root_.id rfl
theorem QV1 (ops d t p y1 p1 a1 e x y2 p2 a2 dst g d' e' ts y3 p3 a3 r) (k : Fr → KS → Option β) (l) : Qh9 P D ops [] (⟨some d,.load t p,y1,p1,a1,none⟩ :: ⟨some e,.move x,y2,p2,a2,none⟩ :: ⟨dst,.call ⟨.value (.func g),List.toArray [.tmp d',.tmp e'],ts⟩,y3,p3,a3,none⟩ :: r) f K k l =
  Vx (Qzm (tk P t) && ((d == d') && ((e == e') && !(d == e)))) (onp D f K (ev f p) (ev (up f d (.sl K.length)) x) g (fun v K'=>QEr dst v (up (up f d (.sl K.length)) e (ev (up f d (.sl K.length)) x)) (fun f=>Qgp P D ops r f K' k ()) ()) ()) ():=by rw [← QkI,← QkI,← QkI]; cases dst <;> rfl
theorem QPj (a b l) : oop P D (.makeInterface a b) f K k l = none:=_root_.id rfl
theorem QQM (a l) : oop P D (.panic a) f K k l = none:=_root_.id rfl
theorem Qoz (t len ps l) : Qdu P D (.buildSlice t len ps) f K k l = oop P D (.buildSlice t len ps) f K k ():=_root_.id rfl
def Qs6 (o : Option (List Int)) (K : KS) (j : Nat) (k : AV → KS → Option β) (_ : Lk k) : Option β:=match o with
 | some xs=>Vx (decide (xs.length < 4611686018427387904)) (XA (K.set j none ++ [some (.lst 1 ((Zl xs).map cI))]) (fun K'=>k (.sl K.length) K') ()) ()
 | none=>none
def Qyk (e : Option Ent) (K : KS) (j : Nat) (k : AV → KS → Option β) (_ : Lk k) : Option β:=match e with
 | some (.lst 1 rows)=>Qs6 (Qdy rows) K j k ()
 | _=>none
theorem QVF (K : KS) (j) (k : AV → KS → Option β) (l) : Qmb K [.sl j] k l = Qyk (kg K j) K j k ():=_root_.id rfl
theorem QLo (r) (K : KS) (j) (k : AV → KS → Option β) (l) : Qyk (some (.lst 1 r)) K j k l = Qs6 (Qdy r) K j k ():=_root_.id rfl
theorem QF5 (xs) (K : KS) (j) (k : AV → KS → Option β) (l) : Qs6 (some xs) K j k l = Vx (decide (xs.length < 4611686018427387904)) (XA (K.set j none ++ [some (.lst 1 ((Zl xs).map cI))]) (fun K'=>k (.sl K.length) K') ()) ():=_root_.id rfl
def Qsq (o : Option (List Int)) (K : KS) (j : Nat) (k : AV → KS → Option β) (_ : Lk k) : Option β:=match o with
 | some xs=>Vx (decide (xs.length < 4611686018427387904)) (XA (K.set j (some (.lst 1 ((Qcx xs).map cI)))) (fun K=>k (.tup []) K) ()) ()
 | none=>none
def QyZ (e : Option Ent) (K : KS) (j : Nat) (k : AV → KS → Option β) (_ : Lk k) : Option β:=match e with
 | some (.lst 1 rows)=>Qsq (Qdy rows) K j k ()
 | _=>none
theorem QUB (K : KS) (j) (k : AV → KS → Option β) (l) : QoF K [.sl j] k l = QyZ (kg K j) K j k ():=_root_.id rfl
theorem QMB (r) (K : KS) (j) (k : AV → KS → Option β) (l) : QyZ (some (.lst 1 r)) K j k l = Qsq (Qdy r) K j k ():=_root_.id rfl
theorem QG7 (xs) (K : KS) (j) (k : AV → KS → Option β) (l) : Qsq (some xs) K j k l = Vx (decide (xs.length < 4611686018427387904)) (XA (K.set j (some (.lst 1 ((Qcx xs).map cI)))) (fun K=>k (.tup []) K) ()) ():=_root_.id rfl
theorem Qtx : ∀ xs : List Int,Qdy (xs.map fun x=>[.i .i64 x]) = some xs
 | []=>rfl
 | x :: xs=>by rw [List.map_cons,Qdy,Qtx xs]; rfl
noncomputable def QyF (P : Program) (D : Orc) (a : Ann) (id : Nat) (ops : Array Oper) (o : Option (List Nat)) (Q : KT β) (f : Fr) (K : KS) (_ : Lk (ops,Q,f)) : Option β:=Qm6 P D a id ops (QnG ops o) Q f K ()
theorem QAA (id ol l) : V9 P D a (.region id (List.toArray ol) true) Q f K l = ofz (lk a.fz id) (lk a.fc id) f K (fun f K=>QjK P D a id (lk a.av id) (List.toArray ol) Q f K ()) ():=_root_.id rfl
theorem QQp (id ol l) : QjK P D a id none (List.toArray ol) Q f K l = QqX P D a id (lk a.eb id) (List.toArray ol) Q f K ():=_root_.id rfl
theorem QQE (id vs ol l) : QjK P D a id (some vs) (List.toArray ol) Q f K l = Qq1 vs P D a id (lk a.ot id) (List.toArray ol) Q f K ():=_root_.id rfl
theorem QQq (id vs ol l) : Qq1 vs P D a id none (List.toArray ol) Q f K l = Qu2 vs P D (List.toArray ol) (lk a.ord id) Q f K ():=_root_.id rfl
theorem QQF (id vs t ops l) : Qq1 vs P D a id (some t) ops Q f K l = QcC vs P D ops t f K (fun f K=>Q .normal f K) ():=_root_.id rfl
theorem QNo (vs ol l) : Qu2 vs P D (List.toArray ol) none Q f K l = Qaw vs P D (List.toArray ol) ol f K (fun f K=>Q .normal f K) ():=_root_.id rfl
theorem QPK (id ops l) : QqX P D a id none ops Q f K l = Qhe P D a id ops (lk a.ot id) Q f K ():=_root_.id rfl
noncomputable def QEs (P : Program) (D : Orc) (a : Ann) (id : Nat) (ol : List Oper) (Q : KT β) (f : Fr) (K : KS) (_ : Lk (Q,f)) : Option β:=Qhe P D a id (List.toArray ol) (lk a.ot id) Q f K ()
theorem QOY (id ds ol l) : QqX P D a id (some ds) (List.toArray ol) Q f K l = QEs P D a id (ol.map (Jn ds)) Q f K ():=by
 show Qhe P D a id ((List.toArray ol).map (Jn ds)) (lk a.ot id) Q f K () = Qhe P D a id (List.toArray (ol.map (Jn ds))) (lk a.ot id) Q f K ()
 rw [List.map_toArray]
theorem c_M (id o r l) : QEs P D a id (o :: r) Q f K l = Qhe P D a id (List.toArray (o :: r)) (lk a.ot id) Q f K ():=_root_.id rfl
theorem QPB (ds d t y p e g) : Jn ds ⟨d,.buildSlice t 0 (List.toArray []),y,p,e,g⟩ = ⟨d,.move (.const (.slice none 0 0)),y,p,e,g⟩:=_root_.id rfl
theorem QMw (ds d t m ps y p e g) : Jn ds ⟨d,.buildSlice t (m + 1) ps,y,p,e,g⟩ = ⟨d,.buildSlice t (m + 1) ps,y,p,e,g⟩:=_root_.id rfl
theorem QHM (ds d s x ts y p e g) : Jn ds ⟨d,.call ⟨.builtin .append,List.toArray [.tmp s,x],ts⟩,y,p,e,g⟩ = cond (ds.contains s) ⟨d,.call ⟨.builtin .append,List.toArray [.const (.slice none 0 0),x],ts⟩,y,p,e,g⟩ ⟨d,.call ⟨.builtin .append,List.toArray [.tmp s,x],ts⟩,y,p,e,g⟩:=_root_.id rfl
theorem QG3 (ds d xs ts y p e g) : Jn ds ⟨d,.call ⟨.builtin .len,xs,ts⟩,y,p,e,g⟩ = ⟨d,.call ⟨.builtin .len,xs,ts⟩,y,p,e,g⟩:=_root_.id rfl
theorem QBd (ds d v xs ts y p e g) : Jn ds ⟨d,.call ⟨.value v,xs,ts⟩,y,p,e,g⟩ = ⟨d,.call ⟨.value v,xs,ts⟩,y,p,e,g⟩:=_root_.id rfl
theorem QDh (ds d x y p e g) : Jn ds ⟨d,.move x,y,p,e,g⟩ = ⟨d,.move x,y,p,e,g⟩:=_root_.id rfl
theorem QFS (ds d x y p e g) : Jn ds ⟨d,.assign x,y,p,e,g⟩ = ⟨d,.assign x,y,p,e,g⟩:=_root_.id rfl
theorem QCZ (ds d t x y p e g) : Jn ds ⟨d,.load t x,y,p,e,g⟩ = ⟨d,.load t x,y,p,e,g⟩:=_root_.id rfl
theorem Qxn (ds d t x z y p e g) : Jn ds ⟨d,.store t x z,y,p,e,g⟩ = ⟨d,.store t x z,y,p,e,g⟩:=_root_.id rfl
theorem QKs (ds d t x i y p e g) : Jn ds ⟨d,.fieldAddr t x i,y,p,e,g⟩ = ⟨d,.fieldAddr t x i,y,p,e,g⟩:=_root_.id rfl
theorem QKf (ds d t x i y p e g) : Jn ds ⟨d,.indexAddr t x i,y,p,e,g⟩ = ⟨d,.indexAddr t x i,y,p,e,g⟩:=_root_.id rfl
theorem QyT (ds d t ps y p e g) : Jn ds ⟨d,.build t ps,y,p,e,g⟩ = ⟨d,.build t ps,y,p,e,g⟩:=_root_.id rfl
theorem QFD (ds d o t x z u y p e g) : Jn ds ⟨d,.binOp o t x z u,y,p,e,g⟩ = ⟨d,.binOp o t x z u,y,p,e,g⟩:=_root_.id rfl
theorem QIt (ds d x y p e g) : Jn ds ⟨d,.nilCheck x,y,p,e,g⟩ = ⟨d,.nilCheck x,y,p,e,g⟩:=_root_.id rfl
theorem QL8 (ds d o t x y p e g) : Jn ds ⟨d,.unOp o t x,y,p,e,g⟩ = ⟨d,.unOp o t x,y,p,e,g⟩:=_root_.id rfl
theorem QId (ds d t x i y p e g) : Jn ds ⟨d,.field t x i,y,p,e,g⟩ = ⟨d,.field t x i,y,p,e,g⟩:=_root_.id rfl
theorem QH7 (ds d x i y p e g) : Jn ds ⟨d,.extract x i,y,p,e,g⟩ = ⟨d,.extract x i,y,p,e,g⟩:=_root_.id rfl
theorem QFK (ds d t x y p e g) : Jn ds ⟨d,.box t x,y,p,e,g⟩ = ⟨d,.box t x,y,p,e,g⟩:=_root_.id rfl
theorem Qy0 (ds d t y p e g) : Jn ds ⟨d,.alloc t,y,p,e,g⟩ = ⟨d,.alloc t,y,p,e,g⟩:=_root_.id rfl
theorem Qy5 (ds d t x lo hi mx y p e g) : Jn ds ⟨d,.slice t x lo hi mx,y,p,e,g⟩ = ⟨d,.slice t x lo hi mx,y,p,e,g⟩:=_root_.id rfl
theorem QzM (id ol l) : Qhe P D a id (List.toArray ol) none Q f K l = QyF P D a id (List.toArray ol) (lk a.ord id) Q f K ():=_root_.id rfl
theorem QAp (id ops t l) : Qhe P D a id ops (some t) Q f K l = Qem P D ops t f K (fun f K=>Q .normal f K) ():=_root_.id rfl
noncomputable def QsQ (P : Program) (D : Orc) (ops : Array Oper) (o : Option Oper) (t : OT) (f : Fr) (K : KS) (k : Fr → KS → Option β) (_ : Lk (ops,f,k)) : Option β:=match o with
 | some o=>Qb9 P D ops [o] f K (fun f K=>Qem P D ops t f K k ()) ()
 | none=>none
theorem QzW (ops) (k : Fr → KS → Option β) (l) : Qem P D ops .done f K k l = k f K:=_root_.id rfl
theorem QP9 (ol i t) (k : Fr → KS → Option β) (l) : Qem P D (List.toArray ol) (.one i t) f K k l = QsQ P D (List.toArray ol) (ol[i]?) t f K k ():=by
 have : (List.toArray ol)[i]? = ol[i]?:=by simp
 unfold Qem QsQ
 rw [this]
 cases ol[i]? <;> rfl
theorem QxC (ops o t) (k : Fr → KS → Option β) (l) : QsQ P D ops (some o) t f K k l = Qb9 P D ops [o] f K (fun f K=>Qem P D ops t f K k ()) ():=_root_.id rfl
theorem QzC (vs ops) (k : Fr → KS → Option β) (l) : QcC vs P D ops .done f K k l = k f K:=_root_.id rfl
noncomputable def Qph (vs : List Nat) (P : Program) (D : Orc) (ops : Array Oper) (o : Option Oper) (t : OT) (f : Fr) (K : KS) (k : Fr → KS → Option β) (_ : Lk (ops,f,k)) : Option β:=match o with
 | some o=>Qaw vs P D ops [o] f K (fun f K=>QcC vs P D ops t f K k ()) ()
 | none=>none
theorem QD1 (vs ol i t) (k : Fr → KS → Option β) (l) : QcC vs P D (List.toArray ol) (.one i t) f K k l = Qph vs P D (List.toArray ol) (ol[i]?) t f K k ():=by
 have : (List.toArray ol)[i]? = ol[i]?:=by simp
 unfold QcC Qph
 rw [this]
 cases ol[i]? <;> rfl
theorem Qyf (vs ops o t) (k : Fr → KS → Option β) (l) : Qph vs P D ops (some o) t f K k l = Qaw vs P D ops [o] f K (fun f K=>QcC vs P D ops t f K k ()) ():=_root_.id rfl
theorem QEI (vs ops a b) (k : Fr → KS → Option β) (l) : QcC vs P D ops (.alt a b) f K k l = oeq (QcC vs P D ops a f K k ()) (QcC vs P D ops b f K k ()):=_root_.id rfl
theorem QNd (ops a b) (k : Fr → KS → Option β) (l) : Qem P D ops (.alt a b) f K k l = oeq (Qem P D ops a f K k ()) (Qem P D ops b f K k ()):=_root_.id rfl
theorem VP (x : Option β) : oeq x x = x:=by simp [oeq]
theorem Vy (p q : Bool) (x : Option β) (l l' : Unit) : Vx p (Vx q x l) l' = Vx q (Vx p x l) l':=by cases p <;> cases q <;> rfl
theorem QHY (id ol l) : QyF P D a id (List.toArray ol) none Q f K l = Qm6 P D a id (List.toArray ol) ol Q f K ():=_root_.id rfl
def pk : List Oper → List Nat → List Oper
 | _,[]=>[]
 | ol,i :: is=>match ol[i]? with | some o=>o :: pk ol is | none=>pk ol is
noncomputable def QEF (P : Program) (D : Orc) (a : Ann) (id : Nat) (ops : Array Oper) (l : List Oper) (Q : KT β) (f : Fr) (K : KS) (_ : Lk (ops,Q,f)) : Option β:=Qm6 P D a id ops l Q f K ()
theorem Qon (ol is) : QnG (List.toArray ol) (some is) = pk ol is:=by
 show is.filterMap (fun i=>(List.toArray ol)[i]?) = _
 induction is with
 | nil=>rfl
 | cons i is ih =>
  rw [pk,List.filterMap_cons]
  have : (List.toArray ol)[i]? = ol[i]?:=by simp
  rw [this]
  cases ol[i]? with
  | none=>simpa using ih
  | some o=>rw [← ih]
theorem QGg (id ol is l) : QyF P D a id (List.toArray ol) (some is) Q f K l = QEF P D a id (List.toArray ol) (pk ol is) Q f K ():=by
 show Qm6 P D a id _ (QnG _ _) Q f K () = _
 rw [Qon]; rfl
noncomputable def QEb (vs : List Nat) (P : Program) (D : Orc) (ops : Array Oper) (l : List Oper) (Q : KT β) (f : Fr) (K : KS) (_ : Lk (ops,Q,f)) : Option β:=Qaw vs P D ops l f K (fun f K=>Q .normal f K) ()
theorem QT4 (vs ol is l) : Qu2 vs P D (List.toArray ol) (some is) Q f K l = QEb vs P D (List.toArray ol) (pk ol is) Q f K ():=by
 show Qaw vs P D _ (QnG _ _) f K _ () = _
 rw [Qon]; rfl
theorem c_K (vs ops o r l) : QEb vs P D ops (o :: r) Q f K l = Qaw vs P D ops (o :: r) f K (fun f K=>Q .normal f K) ():=_root_.id rfl
theorem QQZ (ol) : pk ol [] = []:=_root_.id rfl
def pkO (o : Option Oper) (l : List Oper) : List Oper:=match o with | some o=>o :: l | none=>l
theorem QLy (ol i is) : pk ol (i :: is) = pkO (ol[i]?) (pk ol is):=by rw [pk]; cases ol[i]? <;> rfl
theorem QNT (o l) : pkO (some o) l = o :: l:=_root_.id rfl
theorem QGx (id ops o r l) : QEF P D a id ops (o :: r) Q f K l = Qm6 P D a id ops (o :: r) Q f K ():=_root_.id rfl
theorem QMF {α : Type} (x : α) (l : List α) : (x :: l)[0]? = some x:=_root_.id rfl
theorem QQ1 {α : Type} (x : α) (l : List α) (i : Nat) : (x :: l)[i + 1]? = l[i]?:=_root_.id rfl
theorem QLp {α : Type} (l : List α) (i : Nat) : (List.toArray l)[i]? = l[i]?:=by simp
theorem Qvy {α γ : Type} (x : α) (g : α → Option γ) : (some x).bind g = g x:=_root_.id rfl
noncomputable def QzN (P : Program) (D : Orc) (j : Option (Nat × Nat × Nat)) (ops : Array Oper) (l : List Oper) (Q : KT β) (f : Fr) (K : KS) (_ : Lk (l,Q,f)) : Option β :=
 match j with
 | none=>Qb9 P D ops l f K (fun f K=>Q .normal f K) ()
 | some (s,lo,hi)=>QoW (Qb9 P D ops l f K (fun f _=>asB (f s)) ()) (fun c=>Q .normal (up (Qqr lo hi f) s (.b c)) K) ()
theorem QMd (id ops ol l) : Qm6 P D a id ops ol Q f K l = QzN P D (lk a.jn id) ops ol Q f K ():=_root_.id rfl
theorem QxK (ops ol l) : QzN P D none ops ol Q f K l = Qb9 P D ops ol f K (fun f K=>Q .normal f K) ():=_root_.id rfl
theorem Qxb (s lo hi ops ol l) : QzN P D (some (s,lo,hi)) ops ol Q f K l = QoW (Qb9 P D ops ol f K (fun f _=>asB (f s)) ()) (fun c=>Q .normal (up (Qqr lo hi f) s (.b c)) K) ():=_root_.id rfl
theorem QBS (o) (k : Bool → Option β) (l) : QoW o k l = o.bind k:=_root_.id rfl
theorem QJ1 (b) (k : Bool → Option β) (l) : QoW (Qk0 b) k l = k b:=_root_.id rfl
theorem QBn (b x y) : cond b (Qk0 x) (Qk0 y) = Qk0 (cond b x y):=by cases b <;> rfl
theorem QUV (b) : Qk0 b = some b:=_root_.id rfl
theorem QKm (a b : Bool) : cond a b false = (a && b):=by cases a <;> rfl
theorem QV8 (a b : Bool) : cond a true b = (a || b):=by cases a <;> rfl
theorem QHW (a b : Bool) : cond a false b = (!a && b):=by cases a <;> rfl
theorem QQ2 (b) : asB (.b b) = Qk0 b:=_root_.id rfl
def QEh (D : Orc) (t : Nat) (z : List Nat) (la : Option LA) (Q : KT β) (f : Fr) (K : KS) (_ : Lk Q) : Option β :=
 match la with
 | some la=>QeW z la.sl la.rg f K (fun f K=>JF (D.l t f K) (fun o=>Q o.1 o.2.1 o.2.2) ()) ()
 | none=>none
theorem QGO (c l) : V9 P D a (.loop c) Q f K l = QEh D (tag c) a.ak (lk a.lp (tag c)) Q f K ():=_root_.id rfl
theorem Qt3 (t z la l) : QEh D t z (some la) Q f K l = QeW z la.sl la.rg f K (fun f K=>JF (D.l t f K) (fun o=>Q o.1 o.2.1 o.2.2) ()) ():=_root_.id rfl
theorem Qjm (id o d) : tag (.region id o d) = id:=_root_.id rfl
theorem Qwb (x y) : tag (.seq x y) = tag x:=_root_.id rfl
theorem QsU (c x y) : tag (.cond c x y) = tag x:=_root_.id rfl
theorem QqW (i x) : tag (.block i x) = tag x:=_root_.id rfl
theorem Qs8 (x) : tag (.loop x) = tag x:=_root_.id rfl
theorem Qye (k : Fr → KS → Option β) (Q f K) : QrI k Q .normal f K = k f K:=_root_.id rfl
theorem Qzq (k : Fr → KS → Option β) (Q f K) : QrI k Q .ret f K = Q .ret f K:=_root_.id rfl
theorem QyS (k : Fr → KS → Option β) (Q id f K) : QrI k Q (.exit id) f K = Q (.exit id) f K:=_root_.id rfl
theorem QA5 (i f K) : Qwc i Q .normal f K = Q .normal f K:=_root_.id rfl
theorem QAw (i f K) : Qwc i Q .ret f K = Q .ret f K:=_root_.id rfl
theorem QAB (i j f K) : Qwc i Q (.exit j) f K = sel (j == i) (Q .normal f K) (Q (.exit j) f K) ():=_root_.id rfl
theorem QOA (ops) (k : Fr → KS → Option β) (l) : Qb9 P D ops [] f K k l = k f K:=_root_.id rfl
theorem QGp (ops r) (k : Fr → KS → Option β) (d op t pos after l) : Qb9 P D ops (⟨some d,op,t,pos,after,none⟩ :: r) f K k l = oop P D op f K (fun v K'=>Qkw v (fun v=>Qb9 P D ops r (up f d v) K' k ()) ()) ():=_root_.id rfl
theorem QCt (ops r) (k : Fr → KS → Option β) (op t pos after l) : Qb9 P D ops (⟨none,op,t,pos,after,none⟩ :: r) f K k l = oop P D op f K (fun v K'=>Qb9 P D ops r f K' k ()) ():=_root_.id rfl
theorem c_g (ops r) (k : Fr → KS → Option β) (d op t pos after j want l) : Qb9 P D ops (⟨some d,op,t,pos,after,some (j,want)⟩ :: r) f K k l =
  ogd ((ops[j]?).bind (·.dst)) want f (fun f=>oop P D op f K (fun v K'=>Qkw v (fun v=>Qb9 P D ops r (up f d v) K' k ()) ()) ()) (fun f=>Qkw (.tup []) (fun v=>Qb9 P D ops r (up f d v) K k ()) ()) ():=_root_.id rfl
theorem QV7 (ops r) (k : Fr → KS → Option β) (op t pos after j want l) : Qb9 P D ops (⟨none,op,t,pos,after,some (j,want)⟩ :: r) f K k l =
  ogd ((ops[j]?).bind (·.dst)) want f (fun f=>oop P D op f K (fun v K'=>Qb9 P D ops r f K' k ()) ()) (fun f=>Qb9 P D ops r f K k ()) ():=_root_.id rfl
def QDd (v : AV) (d : Nat) (want : Bool) (f : Fr) (yes no : Fr → Option β) (_ : Lk (f,yes,no)) : Option β :=
 match v with
 | .b x=>cond x (cond want (yes (up f d (.b true))) (no (up f d (.b true)))) (cond want (no (up f d (.b false))) (yes (up f d (.b false))))
 | .tup []=>no f
 | _=>none
theorem QWw (d want) (yes no : Fr → Option β) (l) : ogd (some d) want f yes no l = QDd (f d) d want f yes no ():=by
 cases want <;> rfl
theorem QEA (b d) (yes no : Fr → Option β) (l) : QDd (.b b) d true f yes no l = cond b (yes (up f d (.b true))) (no (up f d (.b false))):=_root_.id rfl
theorem QEj (b d) (yes no : Fr → Option β) (l) : QDd (.b b) d false f yes no l = cond b (no (up f d (.b true))) (yes (up f d (.b false))):=_root_.id rfl
theorem QDU (d w) (yes no : Fr → Option β) (l) : QDd (.tup []) d w f yes no l = no f:=_root_.id rfl
theorem QIy (x l) : oop P D (.move x) f K k l = k (ev f x) K:=_root_.id rfl
theorem QyD (x l) : oop P D (.assign x) f K k l = k (ev f x) K:=_root_.id rfl
theorem QGP (c x y l) : oop P D (.pick c x y) f K k l = Qny (ev f c) (ev f x) (ev f y) (fun v=>k v K) ():=_root_.id rfl
theorem QA8 (t l) : oop P D (.alloc t) f K k l = Qma K (tzc P t) k ():=_root_.id rfl
theorem QJi (t v l) : oop P D (.box t v) f K k l = QsW K (ev f v) k ():=_root_.id rfl
theorem QBU (t ps l) : oop P D (.build t (List.toArray ps)) f K k l = QkV K (tbd P t) (ps.map fun p=>(p.1,ev f p.2)) (fun v=>k v K) ():=_root_.id rfl
theorem QzT (t len ps l) : oop P D (.buildSlice t len (List.toArray ps)) f K k l = Qhy (zB (QeS P t)) (QeS P t) K (tse P t) len (ps.map fun p=>(p.1,ev f p.2)) k ():=_root_.id rfl
theorem QGz (t x l) : oop P D (.load t x) f K k l = Qgo (tk P t) (Jz K (ev f x)) (fun v=>k v K) ():=_root_.id rfl
theorem QCO (t p v l) : oop P D (.store t p v) f K k l = QjI (flT P t) (slz P 9 t) K (tk P t) (ev f p) (ev f v) (fun K=>k .u K) ():=_root_.id rfl
theorem QOB (op t x y s l) : oop P D (.binOp op t x (.tmp y) s) f K k l = Zg (Qf6 P t) op (ev f x) (ev f (.tmp y)) (fun v=>k v K) ():=_root_.id rfl
theorem QHp (op t x c n s l) : oop P D (.binOp op t x (.const (.int c n)) s) f K k l = Zg (Qf6 P t) op (ev f x) (ev f (.const (.int c n))) (fun v=>k v K) ():=_root_.id rfl
theorem QIl (op t x c s l) : oop P D (.binOp op t x (.const (.bool c)) s) f K k l = Zg (Qf6 P t) op (ev f x) (ev f (.const (.bool c))) (fun v=>k v K) ():=_root_.id rfl
theorem QF6 (op t x c s l) : oop P D (.binOp op t x (.const (.string c)) s) f K k l = Zg (Qf6 P t) op (ev f x) (ev f (.const (.string c))) (fun v=>k v K) ():=_root_.id rfl
theorem QIj (op t x s l) (h : QeX P t = true) : oop P D (.binOp op t x (.const (.slice none 0 0)) s) f K k l = QkP op (ev f x) (fun v=>k v K) ():=by simp [oop,QcA,h]
theorem QJa (g caps l) : oop P D (.makeFunc (.func g) (List.toArray []) (List.toArray caps)) f K k l = k (.clo g (caps.map (ev f))) K:=by simp [oop]
theorem QRi (s t x l) (h : bsl P s = true) : oop P D (.convert s t x) f K k l = Qqc K (ti P t) (ev f x) (fun v=>k v K) ():=by simp [oop,h]
theorem QQf (s t x l) (h : bsl P s = false) (h2 : tok P s = true) : oop P D (.convert s t x) f K k l = QqC (ti P t) (ev f x) (fun v=>k v K) ():=by simp [oop,h,h2]
theorem QJp (t x lo hi l) : oop P D (.slice t x lo hi none) f K k l = QhJ (ti P t) (ev f x) (lo.map (ev f)) (hi.map (ev f)) (fun v=>k v K) ():=_root_.id rfl
theorem QJ4 (t x i l) : oop P D (.index t x i) f K k l = QxJ (ti P t) (ev f x) (ev f i) (fun v=>k v K) ():=_root_.id rfl
theorem QJo (x l) : oop P D (.nilCheck x) f K k l = QxM K (ev f x) (fun v=>k v K) ():=_root_.id rfl
theorem QRw (op t x l) : oop P D (.unOp op t x) f K k l = oun op (ev f x) (fun v=>k v K) ():=_root_.id rfl
theorem QSH (t x fl l) : oop P D (.fieldAddr t x fl) f K k l = Qv4 K (ev f x) (tfo P t fl) (fun v=>k v K) ():=_root_.id rfl
theorem QUu (t x i l) : oop P D (.indexAddr t x i) f K k l = QrZ K (ti P t) (ev f x) (ev f i) (fun v=>k v K) ():=_root_.id rfl
theorem QJM (t x i l) : oop P D (.field t x i) f K k l = QxG (tfo P t i) (ev f x) (fun v=>k v K) ():=_root_.id rfl
theorem QKa (x i l) : oop P D (.extract x i) f K k l = Qyc (ev f x) i (fun v=>k v K) ():=_root_.id rfl
theorem QNt (x t ts l) : oop P D (.call ⟨.builtin .len,List.toArray [x],List.toArray (t :: ts)⟩) f K k l = Qq4 K (ti P t) (ev f x) (fun v=>k v K) ():=_root_.id rfl
theorem QNG (x y ts l) : oop P D (.call ⟨.builtin .min,List.toArray [x,y],ts⟩) f K k l = Qy9 (ev f x) (ev f y) (fun v=>k v K) ():=_root_.id rfl
theorem QQK (x y ts l) : oop P D (.call ⟨.builtin .max,List.toArray [x,y],ts⟩) f K k l = QyL (ev f x) (ev f y) (fun v=>k v K) ():=_root_.id rfl
theorem QHs (g args ts l) : oop P D (.call ⟨.value g,List.toArray args,ts⟩) f K k l = Qti (ev f g) (fun g caps=>Qgh D g K (args.map (ev f) ++ caps) k ()) ():=_root_.id rfl
theorem QKG (g caps) (k : FuncId → List AV → Option β) (l) : Qti (.clo g caps) k l = k g caps:=_root_.id rfl
theorem QBb (g vs l) : Qgh D g K vs k l = JF (D.p g (QnM (D.z g) (QdI K vs))) (fun x=>k (V8 K.length x).1 (K ++ (V8 K.length x).2)) ():=_root_.id rfl
end
def QG6 {β : Type} (o : Option Bool) (k : Bool → Option β) (_ : Lk k) : Option β:=match o with | some b=>k b | none=>none
section
variable {β : Type} {k : AV → Option β} {c : IntKind} {a b : Int} {te : Option (List CK)}
theorem QFc (K j i o l) : QxM K (.ptr j i o) k l = QuI (kg K j) (.ptr j i o) k ():=_root_.id rfl
theorem QFX (e x l) : QuI (some e) x k l = k x:=_root_.id rfl
theorem QIo (K n r i o l) : QxM K (.iptr n r i o) k l = k (.iptr n r i o):=_root_.id rfl
theorem QEO (l) : Zg te .and (.i c a) (.i c b) k l = k (.i c (Qfi .and c a b)):=by simp [Zg,Qgz]
theorem QKy (l) : Zg te .or (.i c a) (.i c b) k l = k (.i c (Qfi .or c a b)):=by simp [Zg,Qgz]
theorem QO7 (l) : Zg te .xor (.i c a) (.i c b) k l = k (.i c (Qfi .xor c a b)):=by simp [Zg,Qgz]
theorem QOl (d l) : Zg te .shl (.i c a) (.i d b) k l = Vx (decide (0 ≤ b)) (k (.i c (shI .shl c a b))) ():=by simp [Zg,Qgz]
theorem QPy (d l) : Zg te .shr (.i c a) (.i d b) k l = Vx (decide (0 ≤ b)) (k (.i c (shI .shr c a b))) ():=by simp [Zg,Qgz]
theorem QQX (l) : Zg te .add (.i c a) (.i c b) k l = k (.i c (c.wrap (a + b))):=by simp [Zg,Qgz]
theorem QKI (l) : Zg te .sub (.i c a) (.i c b) k l = k (.i c (c.wrap (a - b))):=by simp [Zg,Qgz]
theorem QP8 (l) : Zg te .mul (.i c a) (.i c b) k l = k (.i c (c.wrap (a * b))):=by simp [Zg,Qgz]
theorem QLw (l) : Zg te .quo (.i c a) (.i c b) k l = Vx (!decide (b = 0)) (k (.i c (c.wrap (a.tdiv b)))) ():=by simp [Zg,Qgz]
theorem QLl (l) : Zg te .rem (.i c a) (.i c b) k l = Vx (!decide (b = 0)) (k (.i c (a.tmod b))) ():=by simp [Zg,Qgz]
theorem QRg (l) : Zg te .eql (.i c a) (.i c b) k l = k (.b (decide (a = b))):=by simp [Zg,Qgz]
theorem QP5 (l) : Zg te .neq (.i c a) (.i c b) k l = k (.b (!decide (a = b))):=by simp [Zg,Qgz]
theorem QL7 (l) : Zg te .lss (.i c a) (.i c b) k l = k (.b (decide (a < b))):=by simp [Zg,Qgz]
theorem QKj (l) : Zg te .leq (.i c a) (.i c b) k l = k (.b (decide (a ≤ b))):=by simp [Zg,Qgz]
theorem QOQ (l) : Zg te .gtr (.i c a) (.i c b) k l = k (.b (decide (b < a))):=by simp [Zg,Qgz]
theorem QKX (l) : Zg te .geq (.i c a) (.i c b) k l = k (.b (decide (b ≤ a))):=by simp [Zg,Qgz]
theorem QOq (ks xs ys l) : Zg (some ks) .eql (.agg xs) (.agg ys) k l = QG6 (Vf ks xs ys) (fun b=>k (.b b)) ():=_root_.id rfl
theorem QJG (ks xs ys l) : Zg (some ks) .neq (.agg xs) (.agg ys) k l = QG6 (Vf ks xs ys) (fun b=>k (.b (!b))) ():=_root_.id rfl
theorem QJ2 (x y l) : Zg (some [.t]) .eql (.b x) (.b y) k l = k (.b (decide (x = y))):=_root_.id rfl
theorem QOj (x y l) : Zg (some [.t]) .neq (.b x) (.b y) k l = k (.b (!decide (x = y))):=_root_.id rfl
theorem QPO (b) (k : Bool → Option β) (l) : QG6 (some b) k l = k b:=_root_.id rfl
theorem QHd (x y l) : Zg te .add (.s x) (.s y) k l = Vx (QLE x y) (k (.s (QO8 x y))) ():=by simp [Zg,QLE,QO8]
theorem QFf (x y l) : Zg te .eql (.s x) (.s y) k l = k (.b (decide (x = y))):=by simp [Zg]
theorem QHB (x y l) : Zg te .neq (.s x) (.s y) k l = k (.b (!decide (x = y))):=by simp [Zg]
def QEv (o : Option AV) (k : AV → Option β) (_ : Lk k) : Option β:=match o with | some c=>k c | none=>none
theorem QLX (cs i l) : Qyc (.tup cs) i k l = QEv (cs[i]?) k ():=_root_.id rfl
theorem QHA (c l) : QEv (some c) k l = k c:=_root_.id rfl
theorem QI7 : Vf [] [] [] = some true:=_root_.id rfl
theorem QKx (ks c x y xs ys) : Vf (.i :: ks) (.i c x :: xs) (.i c y :: ys) = (Vf ks xs ys).map (decide (x = y) && ·):=by simp [Vf]
theorem QOZ (ks x y xs ys) : Vf (.b :: ks) (.b x :: xs) (.b y :: ys) = (Vf ks xs ys).map (decide (x = y) && ·):=_root_.id rfl
theorem QMr (ks x y xs ys) : Vf (.s :: ks) (.s x :: xs) (.s y :: ys) = (Vf ks xs ys).map (decide (x = y) && ·):=_root_.id rfl
theorem QKF (x l) : oun .not (.b x) k l = k (.b (!x)):=_root_.id rfl
theorem QQW (l) : oun .neg (.i c a) k l = k (.i c (c.wrap (-a))):=_root_.id rfl
theorem QCe (x y : AV) (l) : Qny (.b true) x y k l = k x:=_root_.id rfl
theorem QCy (x y : AV) (l) : Qny (.b false) x y k l = k y:=_root_.id rfl
theorem QC8 (x y : Bool) (c : Bool) (l) : Qny (.b c) (.b x) (.b y) k l = k (.b (cond c x y)):=by cases c <;> rfl
theorem QKb (l) : Qy9 (.i c a) (.i c b) k l = k (.i c (if b < a then b else a)):=_root_.id rfl
theorem QKC (l) : QyL (.i c a) (.i c b) k l = k (.i c (if a < b then b else a)):=_root_.id rfl
theorem QKS (e : Option Ent) (K : KS) : kg (e :: K) 0 = e:=_root_.id rfl
theorem QJ0 (e : Option Ent) (K : KS) (j : Nat) : kg (e :: K) (j + 1) = kg K j:=_root_.id rfl
theorem QFZ {α : Type} (e e' : α) (K : List α) : (e :: K).set 0 e' = e' :: K:=_root_.id rfl
theorem QHv {α : Type} (e e' : α) (K : List α) (j : Nat) : (e :: K).set (j + 1) e' = e :: K.set j e':=_root_.id rfl
theorem QJT {α : Type} (e : α) (K L : List α) : (e :: K) ++ L = e :: (K ++ L):=_root_.id rfl
theorem QG0 {α : Type} (L : List α) : [] ++ L = L:=_root_.id rfl
theorem QGd {α : Type} : ([] : List α).length = 0:=_root_.id rfl
theorem QGU {α : Type} (e : α) (K : List α) : (e :: K).length = K.length + 1:=_root_.id rfl
theorem QA0 {α : Type} (K : List α) : K.drop 0 = K:=_root_.id rfl
theorem QDC {α : Type} (e : α) (K : List α) (n : Nat) : (e :: K).drop (n + 1) = K.drop n:=_root_.id rfl
theorem QAy {α : Type} (K : List α) : K.take 0 = []:=by simp
theorem QAK {α : Type} (e : α) (K : List α) (n : Nat) : (e :: K).take (n + 1) = e :: K.take n:=_root_.id rfl
def lnR (r : List (List AV)) : Int:=r.length
theorem QyQ (K e m n r l) : Qq4 K (.sl e m) (.imm n r) k l = k (.i .i64 (lnR r)):=_root_.id rfl
theorem QM4 (n r) (k : AV → Option β) (l) : QkP .eql (.imm n r) k l = QlC r.isEmpty (k (.b true)) (k (.b false)):=_root_.id rfl
theorem QID (n r) (k : AV → Option β) (l) : QkP .neq (.imm n r) k l = QlC r.isEmpty (k (.b false)) (k (.b true)):=_root_.id rfl
theorem QHR (x : Option β) (b) : QlC b x x = x:=by cases b <;> simp [QlC,oeq]
theorem QHl (n : Nat) (R : List (List AV)) (b : Nat) (m) : QlC R.isEmpty (some (AV.own n [])) (Vx (decide (R.length * b ≤ 140737488355328)) (some (AV.own n R)) m) = Vx (decide (R.length * b ≤ 140737488355328)) (some (AV.own n R)) ():=by
 cases R with
 | nil=>simp [QlC,oeq,Vx]
 | cons r R=>rfl
theorem QzO (K e m l) : Qq4 K (.sl e m) .nil k l = k (.i .i64 0):=_root_.id rfl
def QD4 (e : Option Ent) (k : AV → Option β) (_ : Lk k) : Option β:=match e with | some e=>k (.i .i64 (lnR e.rows)) | none=>none
theorem QFG (c d a l) : QqC (.int c) (.i d a) k l = k (.i c (c.wrap a)):=_root_.id rfl
def Qst (o : Option (List UInt8)) (k : AV → Option β) (_ : Lk k) : Option β:=match o with | some s=>k (.s s) | none=>none
def Qxd (e : Option Ent) (k : AV → Option β) (_ : Lk k) : Option β:=match e with | some (.lst 1 rows)=>Qst (QcS rows) k () | _=>none
theorem QPt (K j l) : Qqc K .str (.sl j) k l = Qxd (kg K j) k ():=_root_.id rfl
theorem QGi (r l) : Qxd (some (.lst 1 r)) k l = Qst (QcS r) k ():=_root_.id rfl
theorem QHT (s l) : Qst (some s) k l = k (.s s):=_root_.id rfl
theorem QFj : QcS [] = some []:=_root_.id rfl
theorem QA7 (n r) : QcS ([.i .u8 n] :: r) = (QcS r).map (UInt8.ofNat n.toNat :: ·):=by
 show (match Qp1 [.i .u8 n],QcS r with | some x,some xs=>some (x :: xs) | _,_=>none) = _
 simp only [Qp1]
 cases QcS r <;> rfl
theorem QCp (K e m j l) : Qq4 K (.sl e m) (.sl j) k l = QD4 (kg K j) k ():=_root_.id rfl
theorem Qzd (n r l) : QD4 (some (.lst n r)) k l = k (.i .i64 (lnR r)):=_root_.id rfl
theorem Qzn (K x l) : Qq4 K .str (.s x) k l = k (.i .i64 (ln x)):=_root_.id rfl
theorem QIn (K n r i p o t l) : Qv4 K (.iptr n r i p) (some (o,t)) k l = k (.iptr n r i (p + o)):=_root_.id rfl
def QEB (e : Option Ent) (v : AV) (k : AV → Option β) (_ : Lk k) : Option β:=match e with | some _=>k v | none=>none
theorem QQu (K j i p o t l) : Qv4 K (.ptr j i p) (some (o,t)) k l = QEB (kg K j) (.ptr j i (p + o)) k ():=_root_.id rfl
theorem QFW (e v l) : QEB (some e) v k l = k v:=_root_.id rfl
theorem QFI (K e m r kd i l) : QrZ K (.sl e m) (.imm m r) (.i kd i) k l = Vx (inb r i) (k (.iptr m r i.toNat 0)) ():=by simp [QrZ]
def Qxi (e : Option Ent) (m : Nat) (j : Nat) (i : Int) (k : AV → Option β) (_ : Lk k) : Option β:=match e with | some e=>if m = e.n then Vx (inb e.rows i) (k (.ptr j i.toNat 0)) () else none | none=>none
theorem QOx (K e m j kd i l) : QrZ K (.sl e m) (.sl j) (.i kd i) k l = Qxi (kg K j) m j i k ():=_root_.id rfl
theorem QHh (m r j i l) : Qxi (some (.lst m r)) m j i k l = Vx (inb r i) (k (.ptr j i.toNat 0)) ():=by simp [Qxi,Ent.n,Ent.rows]
def QDP (e : Option Ent) (n : Nat) (i : Int) (p : AV) (k : AV → Option β) (_ : Lk k) : Option β:=match e with | some _=>Vx (QsM n i) (k p) () | none=>none
theorem QHC (K e n m j r o kd i l) : QrZ K (.arr n e m) (.ptr j r o) (.i kd i) k l = QDP (kg K j) n i (.ptr j r (o + i.toNat * m)) k ():=_root_.id rfl
theorem QFm (e n i p l) : QDP (some e) n i p k l = Vx (QsM n i) (k p) ():=_root_.id rfl
theorem QIb (e m r h c l) : QhJ (.sl e m) (.imm m r) none (some (.i c h)) k l = Vx (slB 0 h (lnR r)) (k (.imm m (cut r 0 h))) ():=by simp [QhJ,bd,lnR]
theorem QFu (e m r h c l) : QhJ (.sl e m) (.imm m r) (some (.i c h)) none k l = Vx (slB h (lnR r) (lnR r)) (k (.imm m (cut r h (lnR r)))) ():=by simp [QhJ,bd,lnR]
theorem QFn (e m r h h' c c' l) : QhJ (.sl e m) (.imm m r) (some (.i c h)) (some (.i c' h')) k l = Vx (slB h h' (lnR r)) (k (.imm m (cut r h h'))) ():=by simp [QhJ,bd,lnR]
theorem QH3 (r h c l) : QhJ .str (.s r) none (some (.i c h)) k l = Vx (slB 0 h (ln r)) (k (.s (cut r 0 h))) ():=by simp [QhJ,bd,ln]
theorem QIc (r h c l) : QhJ .str (.s r) (some (.i c h)) none k l = Vx (slB h (ln r) (ln r)) (k (.s (cut r h (ln r)))) ():=by simp [QhJ,bd,ln]
theorem QGk (r h h' c c' l) : QhJ .str (.s r) (some (.i c h)) (some (.i c' h')) k l = Vx (slB h h' (ln r)) (k (.s (cut r h h'))) ():=by simp [QhJ,bd,ln]
theorem QJV (r i c l) : QxJ .str (.s r) (.i c i) k l = Vx (inb r i) (k (.i .u8 ((gt r i).toNat : Int))) ():=_root_.id rfl
class Strs (cs : List AV) (xs : outParam (List (List UInt8))) : Prop where
 eq : cs = xs.map AV.s
instance : Strs [] []:=⟨rfl⟩
instance (x cs xs) [h : Strs cs xs] : Strs (.s x :: cs) (x :: xs):=⟨by rw [h.eq]; rfl⟩
theorem QFb {cs : List AV} {xs : List (List UInt8)} [h : Strs cs xs] (i : Int) (hi : QsM cs.length i = true) (l) : Qgo .one (cs.drop (0 + i.toNat * 1)) k l = k (.s (gt xs i)):=by
 have hcs:=h.eq
 subst hcs
 simp [QsM] at hi
 have h2 : i.toNat < xs.length:=by omega
 rw [Nat.zero_add,Nat.mul_one,List.drop_eq_getElem_cons (by simpa using h2)]
 simp [Qgo,gt,List.getD_eq_getElem?_getD,h2]
theorem QWq (K n r i o) : Jz K (.iptr n r i o) = ((Q4 r i).drop o).map ld:=_root_.id rfl
def QsJ (e : Option Ent) (i o : Nat) : List AV:=match e with | some (.box cs)=>if i = 0 then cs.drop o else [] | some (.lst _ rows)=>((Q4 rows i).drop o).map ld | none=>[]
theorem m_c (K j i o) : Jz K (.ptr j i o) = QsJ (kg K j) i o:=_root_.id rfl
theorem QFd (cs o) : QsJ (some (.box cs)) 0 o = cs.drop o:=_root_.id rfl
theorem QFP (n r i o) : QsJ (some (.lst n r)) i o = ((Q4 r i).drop o).map ld:=_root_.id rfl
theorem QGX {α γ : Type} (g : α → γ) : [].map g = []:=_root_.id rfl
theorem QFU {α γ : Type} (g : α → γ) (x l) : (x :: l).map g = g x :: l.map g:=_root_.id rfl
theorem QQ6 (x) : ld (.b x) = .b x:=_root_.id rfl
theorem QJw (c x) : ld (.i c x) = .i c x:=_root_.id rfl
theorem QOn (x) : ld (.s x) = .s x:=_root_.id rfl
theorem QDi (n x) : ld (.imm n x) = .imm n x:=_root_.id rfl
theorem QDj : ld .nil = .nil:=_root_.id rfl
theorem QCd (n x) : ld (.own n x) = .u:=_root_.id rfl
theorem QNx (o t cs l) : QxG (some (o,t)) (.agg cs) k l = Qgo t (cs.drop o) k ():=_root_.id rfl
theorem QBG (c cs l) : Qgo .one (c :: cs) k l = k c:=_root_.id rfl
def QzE (b : Bool) (v : AV) (k : AV → Option β) (_ : Lk k) : Option β:=cond b (k v) none
theorem QAV (m cs l) : Qgo (.agg m) cs k l = QzE (Nat.blt 0 m && Nat.ble m cs.length) (.agg (cs.take m)) k () :=
 Qdo (by simp only [Bool.and_eq_true,Ql1,QjA]) _ _
theorem QCw (v l) : QzE true v k l = k v:=_root_.id rfl
theorem QC5 (K cs) (k : AV → KS → Option β) (l) : Qma K (some cs) k l = XA (K ++ [some (.box cs)]) (fun K'=>k (.ptr K.length 0 0) K') ():=_root_.id rfl
def okB (b : Bool) (x : Option β) (_ : Lk x) : Option β:=cond b x none
theorem QTM (x : Option β) (l) : okB true x l = x:=_root_.id rfl
theorem QIP (K cs) (k : AV → KS → Option β) (l) : QsW K (.agg cs) k l = okB (cs.all (Qaj K)) (XA (K ++ [some (.box cs)]) (fun K'=>k (.ptr K.length 0 0) K') ()) ():=by
 simp only [QsW,okB]; cases cs.all (Qaj K) <;> rfl
theorem QFT (K c x) (k : AV → KS → Option β) (l) : QsW K (.i c x) k l = XA (K ++ [some (.box [.i c x])]) (fun K'=>k (.ptr K.length 0 0) K') ():=_root_.id rfl
theorem QHS {α : Type} (p : α → Bool) : [].all p = true:=_root_.id rfl
theorem QHL {α : Type} (p : α → Bool) (x l) : (x :: l).all p = (p x && l.all p):=_root_.id rfl
theorem QL5 (K x) : Qaj K (.b x) = true:=_root_.id rfl
theorem QPP (K c x) : Qaj K (.i c x) = true:=_root_.id rfl
theorem QQG (K x) : Qaj K (.s x) = true:=_root_.id rfl
theorem QNz (K) : Qaj K .nil = true:=_root_.id rfl
theorem QBv (K n r) : Qaj K (.imm n r) = true:=_root_.id rfl
theorem QAt (K n r) : Qaj K (.clo n r) = true:=_root_.id rfl
theorem QHO (K j) : Qaj K (.sl j) = (kg K j).isSome:=_root_.id rfl
theorem QBj (K j i o) : Qaj K (.ptr j i o) = (kg K j).isSome:=_root_.id rfl
theorem QUH {α : Type} (x : α) : (some x).isSome = true:=_root_.id rfl
theorem QRm (x) : AV.closed (.b x) = true:=_root_.id rfl
theorem QNh (c x) : AV.closed (.i c x) = true:=_root_.id rfl
theorem QKc (x) : AV.closed (.s x) = true:=_root_.id rfl
theorem QMW : AV.closed .nil = true:=_root_.id rfl
theorem QDb (n r) : AV.closed (.imm n r) = true:=_root_.id rfl
theorem QHH (x : Bool) : (false && x) = false:=_root_.id rfl
theorem QQx (x : Bool) : (true && x) = x:=_root_.id rfl
def Qhk (fl : Bool) (ns : List Nat) (K : KS) (e : Option Ent) (t : TK) (j i o : Nat) (v : AV) (k : KS → Option β) (_ : Lk k) : Option β :=
 match e with
  | some (.box cs)=>if i = 0 then Qh0 cs o t v (Qaj K) (fun cs=>XA (K.set j (some (.box cs))) k ()) () else none
  | some (.lst n rows)=>if (QaP v).all clq = true then (if i < rows.length then Qh0 (Q4 rows i) o t v AV.closed (fun r=>XA (K.set j (some (.lst n (rows.set i r)))) k ()) () else none) else if fl = false then Qjv ns K t j i o n rows v k () else none
  | none=>none
theorem QBl (fl ns K t j i o v) (k : KS → Option β) (l) : QjI fl ns K t (.ptr j i o) v k l = Qhk fl ns K (kg K j) t j i o v k ():=by
 show (match kg K j with | some (.lst n rows)=>_ | _=>_) = _
 cases h : kg K j with
 | none=>simp [Qhk,QkK,h]
 | some e=>cases e <;> simp [Qhk,QkK,h]
theorem Qy6 (fl ns K cs t j o v) (k : KS → Option β) (l) : Qhk fl ns K (some (.box cs)) t j 0 o v k l = Qh0 cs o t v (Qaj K) (fun cs=>XA (K.set j (some (.box cs))) k ()) ():=_root_.id rfl
def QlK (b fl : Bool) (ns : List Nat) (K : KS) (n : Nat) (r : List (List AV)) (t : TK) (j i o : Nat) (v : AV) (k : KS → Option β) (_ : Lk k) : Option β :=
 cond b (if i < r.length then Qh0 (Q4 r i) o t v AV.closed (fun r'=>XA (K.set j (some (.lst n (r.set i r')))) k ()) () else none) (if fl = false then Qjv ns K t j i o n r v k () else none)
theorem Qyb (fl ns K n r t j i o v) (k : KS → Option β) (l) : Qhk fl ns K (some (.lst n r)) t j i o v k l = QlK ((QaP v).all clq) fl ns K n r t j i o v k ():=by
 simp only [Qhk,QlK]
 cases (QaP v).all clq <;> rfl
theorem QLv (ds) : QaP (.agg ds) = ds:=_root_.id rfl
theorem QK1 (c x) : QaP (.i c x) = [.i c x]:=_root_.id rfl
theorem QL3 (x) : QaP (.b x) = [.b x]:=_root_.id rfl
theorem QKu (x) : QaP (.s x) = [.s x]:=_root_.id rfl
theorem QPk : QaP .nil = [.nil]:=_root_.id rfl
theorem QLF (n r) : QaP (.imm n r) = [.imm n r]:=_root_.id rfl
theorem QRt (j) : QaP (.sl j) = [.sl j]:=_root_.id rfl
theorem QGc (j) : clq (.sl j) = false:=_root_.id rfl
theorem QLP (x) : clq (.b x) = true:=_root_.id rfl
theorem QMi (c x) : clq (.i c x) = true:=_root_.id rfl
theorem QQO (x) : clq (.s x) = true:=_root_.id rfl
theorem QMI : clq .nil = false:=_root_.id rfl
theorem QJ3 (n r) : clq (.imm n r) = true:=_root_.id rfl
theorem QUG (cs) : nz [] cs = cs:=by cases cs <;> rfl
theorem QWo (ns) : nz ns [] = []:=by cases ns <;> rfl
theorem QT5 (n ns c cs) : nz (n :: ns) (c :: cs) = nzc n c :: nz ns cs:=_root_.id rfl
theorem QR0 (n x) : nzc n (.b x) = .b x:=_root_.id rfl
theorem QVK (n c x) : nzc n (.i c x) = .i c x:=_root_.id rfl
theorem QUz (n x) : nzc n (.s x) = .s x:=_root_.id rfl
theorem QSI (n) : nzc n .nil = .own n []:=_root_.id rfl
theorem QU1 (n m r) : nzc n (.own m r) = .own m r:=_root_.id rfl
theorem QTu (n m r) : nzc n (.imm m r) = .imm m r:=_root_.id rfl
theorem QSk (k v) : Qo7 (.z k) v = nzc k v:=_root_.id rfl
theorem QTY (v) : Qo7 .n v = v:=_root_.id rfl
theorem QTj (ns cs) : Qo7 (.a ns) (.agg cs) = .agg (nz ns cs):=_root_.id rfl
theorem QW0 (v) : QnR [] v = v:=_root_.id rfl
theorem QU0 (s v) : QnR [s] v = Qo7 s v:=_root_.id rfl
theorem QTA (s s' ss vs) : QnR (s :: s' :: ss) (.tup vs) = .tup (QrB (s :: s' :: ss) vs):=_root_.id rfl
theorem QT1 (s ss v vs) : QrB (s :: ss) (v :: vs) = Qo7 s v :: QrB ss vs:=_root_.id rfl
theorem QMT (vs) : QrB [] vs = vs:=_root_.id rfl
theorem QNq (m ds l) : QpK (.agg m) (.agg ds) l = (m == l):=_root_.id rfl
theorem QQc (j l) : QpK .one (.sl j) l = (l == 1):=_root_.id rfl
def Qug (ns : List Nat) (K : KS) (a : Option (KS × List AV)) (t : TK) (j o n i : Nat) (r : List (List AV)) (v : AV) (k : KS → Option β) (_ : Lk k) : Option β :=
 match a with
  | some (K1,ds)=>if (kg K1 j).isSome = true ∧ QpK t v ds.length = true ∧ o + ds.length ≤ (Q4 r i).length then XA (K1.set j (some (.lst n (r.set i (putCells (Q4 r i) o (nz ns ds)))))) k () else none
  | none=>none
theorem QSW (ns K K1 ds t j o n i r v) (k : KS → Option β) (l) : Qug ns K (some (K1,ds)) t j o n i r v k l = okB ((kg K1 j).isSome && (QpK t v ds.length && Nat.ble (o + ds.length) (Q4 r i).length)) (XA (K1.set j (some (.lst n (r.set i (putCells (Q4 r i) o (nz ns ds)))))) k ()) () :=
 Qdo (by simp only [Bool.and_eq_true,QjA]) _ _
def QnS (r : List (List AV)) (i : Nat) : Bool:=Nat.blt i r.length
theorem w_n (D : Orc) (f : Fr) (K : KS) (j i o q r v m rs) (k : AV → KS → Option β) (l) : onr D f K j i o q r (v,[some (.lst m rs)]) k l = Vx (v.flat && QnS r i) (XA (K.set j (some (.lst q (r.set i (putCells (Q4 r i) o [.own m rs])))) ++ [none]) (fun K'=>k v K') ()) ():=_root_.id rfl
theorem QHe (x r) : QnS (x :: r) 0 = true:=by simp [QnS,Nat.blt_eq]
theorem QIK (x r i) : QnS (x :: r) (i + 1) = QnS r i:=by
 unfold QnS; rw [Bool.eq_iff_iff,Nat.blt_eq,Nat.blt_eq]; simp
theorem QGT (fl ns K n r t j i o v) (k : KS → Option β) (l) : QlK true fl ns K n r t j i o v k l = okB (QnS r i) (Qh0 (Q4 r i) o t v AV.closed (fun r'=>XA (K.set j (some (.lst n (r.set i r')))) k ()) ()) () :=
 Qdo Ql1 _ _
theorem QIF (ns K n r t j i o v) (k : KS → Option β) (l) : QlK false false ns K n r t j i o v k l = okB (QnS r i) (Qug ns K (VR K (QaP v)) t j o n i r v k ()) () :=
 Qdo Ql1 _ _
theorem QFL (cs o m ds ok) (k : List AV → Option β) (l) : Qh0 cs o (.agg m) (.agg ds) ok k l = okB ((m == ds.length) && (Nat.ble (o + m) cs.length && ds.all ok)) (k (putCells cs o ds)) () :=
 Qdo (by simp only [Bool.and_eq_true,beq_iff_eq,QjA]) _ _
theorem QwP (cs : List AV) (o : Nat) (v : AV) (ok : AV → Bool) (k : List AV → Option β) : (if o < cs.length ∧ ok v = true then k (cs.set o v) else none) = okB (Nat.blt o cs.length && ok v) (k (cs.set o v)) () :=
 Qdo (by simp only [Bool.and_eq_true,Ql1]) _ _
theorem QG4 (cs o x ok) (k : List AV → Option β) (l) : Qh0 cs o .one (.b x) ok k l = okB (Nat.blt o cs.length && ok (.b x)) (k (cs.set o (.b x))) ():=QwP ..
theorem QHF (cs o c x ok) (k : List AV → Option β) (l) : Qh0 cs o .one (.i c x) ok k l = okB (Nat.blt o cs.length && ok (.i c x)) (k (cs.set o (.i c x))) ():=QwP ..
theorem QFg (cs o x ok) (k : List AV → Option β) (l) : Qh0 cs o .one (.s x) ok k l = okB (Nat.blt o cs.length && ok (.s x)) (k (cs.set o (.s x))) ():=QwP ..
theorem QGM (cs o ok) (k : List AV → Option β) (l) : Qh0 cs o .one .nil ok k l = okB (Nat.blt o cs.length && ok .nil) (k (cs.set o .nil)) ():=QwP ..
theorem QDq (cs o j ok) (k : List AV → Option β) (l) : Qh0 cs o .one (.sl j) ok k l = okB (Nat.blt o cs.length && ok (.sl j)) (k (cs.set o (.sl j))) ():=QwP ..
theorem Qyg (cs o n r ok) (k : List AV → Option β) (l) : Qh0 cs o .one (.imm n r) ok k l = okB (Nat.blt o cs.length && ok (.imm n r)) (k (cs.set o (.imm n r))) ():=QwP ..
theorem QVO (cs o ds) : putCells cs o ds = cs.take o ++ ds ++ cs.drop (o + ds.length):=_root_.id rfl
theorem QGr (P z nr S rs f K) : Qla P z nr S rs .normal f K = Qnc P z S rs nr f K ():=_root_.id rfl
theorem QGj (P z nr S rs f K) : Qla P z nr S rs .ret f K = Qnc P z S rs nr f K ():=_root_.id rfl
theorem QKK (P z S rs f K l) : Qnc P z S rs none f K l = JF (Qdb f K P rs) (fun vs=>Vx (rok (tkl z K).length (Qf7 vs) && (QiB (tkl z K) && Nat.ble z.length (tkl z K).length)) (some (Qf7 vs,tkl z K)) ()) ():=_root_.id rfl
theorem QMp (P z S rs r f K l) : Qnc P z S rs (some r) f K l = JF (Qdb f K P rs) (fun vs=>QeW z [S] r (up f S (Qf7 vs)) K (fun f K=>Qkw (f S) (fun v=>Vx (rok K.length v && (QiB K && Nat.ble z.length K.length)) (some (v,K)) ()) ()) ()) ():=_root_.id rfl
theorem QQ0 {α : Type} : (none : Option α).isSome = false:=_root_.id rfl
theorem QPn {α : Type} (x : α) : (some x).isSome = true:=_root_.id rfl
theorem QN6 (K) : tkl [] K = []:=by cases K <;> rfl
theorem QJy (x z e K) : tkl (x :: z) (e :: K) = e :: tkl z K:=_root_.id rfl
theorem QCj (P sh rs f K) : Qik P sh rs .normal f K = JF (Qdb f K P rs) (fun vs=>(QcP K (Qf7 vs)).map fun p=>QnR sh p.2) ():=_root_.id rfl
theorem QCm (P sh rs f K) : Qik P sh rs .ret f K = JF (Qdb f K P rs) (fun vs=>(QcP K (Qf7 vs)).map fun p=>QnR sh p.2) ():=_root_.id rfl
theorem QQI (f K P) : Qdb f K P [] = some []:=_root_.id rfl
theorem QOE (f K P t rs) : Qdb f K P (.tmp t :: rs) = (Qdb f K P rs).map (f t :: ·):=_root_.id rfl
theorem QHV (f K P x t rs) : Qdb f K P (.cell x t :: rs) = JF (Qgo (tk P t) (Jz K (f x)) some ()) (fun v=>(Qdb f K P rs).map (v :: ·)) ():=_root_.id rfl
theorem QnC {α γ : Type} (g : α → γ) (x : α) : (some x).map g = some (g x):=_root_.id rfl
theorem Qso {α γ : Type} (g : α → γ) : (none : Option α).map g = none:=_root_.id rfl
theorem QPR (v) : Qf7 [v] = v:=_root_.id rfl
theorem QRc (v w vs) : Qf7 (v :: w :: vs) = .tup (v :: w :: vs):=_root_.id rfl
theorem QIM : Qf7 [] = .tup []:=_root_.id rfl
theorem x_b (K x) : QcP K (.b x) = some (K,.b x):=_root_.id rfl
theorem x_i (K c x) : QcP K (.i c x) = some (K,.i c x):=_root_.id rfl
theorem x_s (K x) : QcP K (.s x) = some (K,.s x):=_root_.id rfl
theorem QJn (K) : QcP K .nil = some (K,.nil):=_root_.id rfl
theorem QN2 (K n r) : QcP K (.imm n r) = none:=by simp [QcP]
theorem QQv (K cs) : QcP K (.agg cs) = (Qe7 K cs).map fun p=>(p.1,.agg p.2):=by simp [QcP]
theorem QOy (K cs) : QcP K (.tup cs) = (Qe7 K cs).map fun p=>(p.1,.tup p.2):=by simp [QcP]
def QEE (K : KS) (e : Option Ent) (j : Nat) : Option (KS × AV):=match e with | some (.lst n rows)=>if Qu rows = true then some (K.set j none,.own n rows) else none | _=>none
theorem QWK (K j) : QcP K (.sl j) = QEE K (kg K j) j:=by rw [QcP]; rfl
theorem QUP : Qu [] = true:=_root_.id rfl
theorem QWE (r rs) : Qu (r :: rs) = cond (Xn r) (Qu rs) false:=by rw [show Qu (r :: rs) = (Xn r && Qu rs) by simp [Qu]]; cases Xn r <;> rfl
theorem QWa : Xn [] = true:=_root_.id rfl
theorem QUZ (c cs) : Xn (c :: cs) = cond (AV.clean c) (Xn cs) false:=by rw [show Xn (c :: cs) = (AV.clean c && Xn cs) by simp [Xn]]; cases AV.clean c <;> rfl
theorem k_i (k n) : AV.clean (.i k n) = true:=_root_.id rfl
theorem k_b (x) : AV.clean (.b x) = true:=_root_.id rfl
theorem k_s (x) : AV.clean (.s x) = true:=_root_.id rfl
theorem QLt (K n r j) : QEE K (some (.lst n r)) j = cond (Qu r) (some (K.set j none,.own n r)) none:=Qdo Iff.rfl _ _
theorem QH2 (K) : Qe7 K [] = some (K,[]):=by simp [Qe7]
def Qth (e : Option (KS × AV)) (cs : List AV) : Option (KS × List AV):=match e with | some (K1,c')=>(Qe7 K1 cs).map fun p=>(p.1,c' :: p.2) | none=>none
theorem QB9 (K c cs) : Qe7 K (c :: cs) = Qth (QcP K c) cs:=by rw [Qe7]; rfl
theorem QUs (K c cs) : Qth (some (K,c)) cs = (Qe7 K cs).map fun p=>(p.1,c :: p.2):=_root_.id rfl
theorem QWn (cs) : Qth none cs = none:=_root_.id rfl
theorem QHZ (z sl rg f K) (k : Fr → KS → Option β) (l) : QeW z sl rg f K k l = V4 rg f K [] (fun f K π=>Vx (ndB π) (onz z π (XA (QCs K π) (fun K'=>k (QDy f π sl) K') ()) ()) ()) ():=_root_.id rfl
theorem QL4 (π) (q : Option β) (l) : onz [] π q l = q:=_root_.id rfl
theorem QRo (x z π) (q : Option β) (l) : onz (x :: z) π q l = Vx (pfx (x :: z) π) q ():=_root_.id rfl
theorem QSv (π) : pfx [] π = true:=_root_.id rfl
theorem QVW (x z y π) : pfx (x :: z) (y :: π) = ((x == y) && pfx z π):=by rw [← QkI]; rfl
theorem QR1 (x : Nat) : ([] : List Nat).contains x = false:=_root_.id rfl
theorem QTg (x y : Nat) (l : List Nat) : (y :: l).contains x = ((x == y) || l.contains x):=List.contains_cons
theorem QSG (b : Bool) : (false || b) = b:=by cases b <;> rfl
theorem QRD (b : Bool) : (true || b) = true:=by cases b <;> rfl
theorem QDG (f K π) (k : Fr → KS → List Nat → Option β) (l) : V4 [] f K π k l = k f K π:=_root_.id rfl
theorem n_r (i r f K π) (k : Fr → KS → List Nat → Option β) (l) : V4 (.r i :: r) f K π k l = V4 r f K (π ++ [i]) k ():=_root_.id rfl
def Ql9 (v : AV) (t n : Nat) (r : List Pt) (f : Fr) (K : KS) (π : List Nat) (k : Fr → KS → List Nat → Option β) (_ : Lk (f,k)) : Option β:=match v with
  | .sl j=>V4 r f K (π ++ [j]) k ()
  | .ptr j _ _=>V4 r f K (π ++ [j]) k ()
  | .nil=>V4 r (up f t (.sl K.length)) (K ++ [some (.lst n [])]) (π ++ [K.length]) k ()
  | _=>none
theorem n_s (t n r f K π) (k : Fr → KS → List Nat → Option β) (l) : V4 (.s t n :: r) f K π k l = Ql9 (f t) t n r f K π k ():=by simp only [V4,Ql9]; rfl
theorem QNn (j t n r f K π) (k : Fr → KS → List Nat → Option β) (l) : Ql9 (.sl j) t n r f K π k l = V4 r f K (π ++ [j]) k ():=_root_.id rfl
theorem QGJ (j i o t n r f K π) (k : Fr → KS → List Nat → Option β) (l) : Ql9 (.ptr j i o) t n r f K π k l = V4 r f K (π ++ [j]) k ():=_root_.id rfl
theorem QGW (t n r f K π) (k : Fr → KS → List Nat → Option β) (l) : Ql9 .nil t n r f K π k l = V4 r (up f t (.sl K.length)) (K ++ [some (.lst n [])]) (π ++ [K.length]) k ():=_root_.id rfl
def Qms (c : Option AV) (r : List Pt) (f : Fr) (K : KS) (π : List Nat) (k : Fr → KS → List Nat → Option β) (_ : Lk (f,k)) : Option β:=match c with
  | some (.sl i)=>V4 r f K (π ++ [i]) k ()
  | some (.ptr i _ _)=>V4 r f K (π ++ [i]) k ()
  | _=>none
def QpT (e : Option Ent) (o : Nat) (r : List Pt) (f : Fr) (K : KS) (π : List Nat) (k : Fr → KS → List Nat → Option β) (_ : Lk (f,k)) : Option β:=match e with
  | some (.box cs)=>Qms (cs[o]?) r f K π k ()
  | _=>none
def Qty (q : Option Nat) (o : Nat) (r : List Pt) (f : Fr) (K : KS) (π : List Nat) (k : Fr → KS → List Nat → Option β) (_ : Lk (f,k)) : Option β:=match q with
  | some j=>QpT (kg K j) o r f K π k ()
  | none=>none
theorem n_c (q o n r f K π) (k : Fr → KS → List Nat → Option β) (l) : V4 (.c q o n :: r) f K π k l = Qty (π[q]?) o r f K π k ():=by
 simp only [V4,Qty,QpT,Qms]
 cases π[q]? with
 | none=>rfl
 | some j =>
  simp only
  cases kg K j with
  | none=>rfl
  | some e =>
   cases e with
   | box cs =>
    simp only
    cases cs[o]? with
    | none=>rfl
    | some c=>cases c <;> rfl
   | lst _ _=>rfl
theorem QM8 (j o r f K π) (k : Fr → KS → List Nat → Option β) (l) : Qty (some j) o r f K π k l = QpT (kg K j) o r f K π k ():=_root_.id rfl
theorem QQS (cs o r f K π) (k : Fr → KS → List Nat → Option β) (l) : QpT (some (.box cs)) o r f K π k l = Qms (cs[o]?) r f K π k ():=_root_.id rfl
theorem QMN (i r f K π) (k : Fr → KS → List Nat → Option β) (l) : Qms (some (.sl i)) r f K π k l = V4 r f K (π ++ [i]) k ():=_root_.id rfl
theorem QQn (i a b r f K π) (k : Fr → KS → List Nat → Option β) (l) : Qms (some (.ptr i a b)) r f K π k l = V4 r f K (π ++ [i]) k ():=_root_.id rfl
def Qml (c : Option AV) (cs : List AV) (t o n : Nat) (r : List Pt) (f : Fr) (K : KS) (π : List Nat) (k : Fr → KS → List Nat → Option β) (_ : Lk (f,k)) : Option β:=match c with
  | some (.sl j)=>V4 r f K (π ++ [j]) k ()
  | some .nil=>V4 r (up f t (.agg (cs.set o (.sl K.length)))) (K ++ [some (.lst n [])]) (π ++ [K.length]) k ()
  | _=>none
def QsX (v : AV) (t o n : Nat) (r : List Pt) (f : Fr) (K : KS) (π : List Nat) (k : Fr → KS → List Nat → Option β) (_ : Lk (f,k)) : Option β:=match v with
  | .agg cs=>Qml (cs[o]?) cs t o n r f K π k ()
  | _=>none
theorem n_g (t o n r f K π) (k : Fr → KS → List Nat → Option β) (l) : V4 (.g t o n :: r) f K π k l = QsX (f t) t o n r f K π k ():=by
 simp only [V4,QsX,Qml]
 cases f t with
 | agg cs =>
  simp only
  cases cs[o]? with
  | none=>rfl
  | some c=>cases c <;> rfl
 | _=>rfl
theorem QLJ (cs t o n r f K π) (k : Fr → KS → List Nat → Option β) (l) : QsX (.agg cs) t o n r f K π k l = Qml (cs[o]?) cs t o n r f K π k ():=_root_.id rfl
theorem QNu (j cs t o n r f K π) (k : Fr → KS → List Nat → Option β) (l) : Qml (some (.sl j)) cs t o n r f K π k l = V4 r f K (π ++ [j]) k ():=_root_.id rfl
theorem QPd (cs t o n r f K π) (k : Fr → KS → List Nat → Option β) (l) : Qml (some .nil) cs t o n r f K π k l = V4 r (up f t (.agg (cs.set o (.sl K.length)))) (K ++ [some (.lst n [])]) (π ++ [K.length]) k ():=_root_.id rfl
theorem QMy : ndB [] = true:=_root_.id rfl
theorem QOV (x l) : ndB (x :: l) = (!l.contains x && ndB l):=_root_.id rfl
def krn (K : KS) (π : List Nat) (l : List Nat) : KS:=l.map fun j=>(kg K j).map (QiE π)
theorem QWL (K π) : QCs K π = krn K π π:=_root_.id rfl
theorem QH5 (K π) : krn K π [] = []:=_root_.id rfl
theorem QE4 (K π j l) : krn K π (j :: l) = (kg K j).map (QiE π) :: krn K π l:=_root_.id rfl
theorem QNJ (π cs) : QiE π (.box cs) = .box (QeU π cs):=_root_.id rfl
theorem QOa (π n r) : QiE π (.lst n r) = .lst n r:=_root_.id rfl
theorem QIT (π) : QeU π [] = []:=by simp [QeU]
theorem QL0 (π c cs) : QeU π (c :: cs) = ren π c :: QeU π cs:=by simp [QeU]
def slO : Option Nat → AV | some i=>.sl i | none=>.u
def QGS (i o : Nat) : Option Nat → AV | some j=>.ptr j i o | none=>.u
theorem QKq (i) : slO (some i) = .sl i:=_root_.id rfl
theorem QJs : slO none = .u:=_root_.id rfl
theorem QE7 (i o j) : QGS i o (some j) = .ptr j i o:=_root_.id rfl
theorem QHa (i o) : QGS i o none = .u:=_root_.id rfl
theorem QFl (π j) : ren π (.sl j) = slO (QlA π j):=by simp only [ren]; rfl
theorem QBq (π j i o) : ren π (.ptr j i o) = QGS i o (QlA π j):=by simp only [ren]; rfl
theorem QBN (π cs) : ren π (.agg cs) = .agg (QeU π cs):=by simp [ren]
theorem QBD (π cs) : ren π (.tup cs) = .tup (QeU π cs):=by simp [ren]
theorem QAZ (π g cs) : ren π (.clo g cs) = .clo g (QeU π cs):=by simp [ren]
theorem QGv (π x) : ren π (.b x) = .b x:=by simp [ren]
theorem QLK (π c x) : ren π (.i c x) = .i c x:=by simp [ren]
theorem QQk (π x) : ren π (.s x) = .s x:=by simp [ren]
theorem QKr (π) : ren π .nil = .nil:=by simp [ren]
theorem QQs (π) : ren π .u = .u:=by simp [ren]
theorem QDm (π n r) : ren π (.imm n r) = .imm n r:=by simp [ren]
theorem Qzt (π n r i o) : ren π (.iptr n r i o) = .iptr n r i o:=by simp [ren]
theorem QIi (j) : QlA [] j = none:=_root_.id rfl
theorem QIE (x l j) : QlA (x :: l) j = sel (x == j) (some 0) ((QlA l j).map (· + 1)) ():=by
 rw [QlA]; exact Qdo (by simp) _ _
theorem QEZ (f π l) : QDy f π l = frm (frl f π l):=_root_.id rfl
theorem QE2 (f π) : frl f π [] = []:=_root_.id rfl
theorem QE6 (f π t l) : frl f π (t :: l) = (t,ren π (f t)) :: frl f π l:=_root_.id rfl
theorem QSS (z la rt f K) : Qg3 z la rt .normal f K = QeW z la.sl la.rg f K (fun f K=>some (.inl (f,K))) ():=_root_.id rfl
theorem QSP (z la rt f K) : Qg3 z la rt .ret f K = QeW z rt.sl rt.rg f K (fun f K=>some (.inr (.ret,f,K))) ():=_root_.id rfl
theorem QWh (z la rt i f K) : Qg3 z la rt (.exit i) f K = QeW z la.xs la.xr f K (fun f K=>some (.inr (.exit i,f,K))) ():=_root_.id rfl
theorem QO9 (t x y) : Vb t (.seq x y) = (Vb t x).or (Vb t y):=_root_.id rfl
theorem QHq (t c x y) : Vb t (.cond c x y) = (Vb t x).or (Vb t y):=_root_.id rfl
theorem QA4 (t i x) : Vb t (.block i x) = Vb t x:=_root_.id rfl
theorem QEY (t x) : Vb t (.loop x) = sel (tag x == t) (some x) (Vb t x) ():=_root_.id rfl
theorem QxX (t i o d) : Vb t (.region i o d) = none:=_root_.id rfl
theorem QF1 (t) : Vb t .skip = none:=_root_.id rfl
theorem QRb (t) : Vb t .ret = none:=_root_.id rfl
theorem QIr (t i) : Vb t (.exit i) = none:=_root_.id rfl
theorem QET (x : Option Code) : (none : Option Code).or x = x:=by cases x <;> rfl
theorem QEc (x : Code) (y : Option Code) : (some x).or y = some x:=_root_.id rfl
theorem l_0 (K) : QdI K [] = []:=by simp [QdI]
theorem l_s (K c cs) : QdI K (c :: cs) = Qbx K c :: QdI K cs:=by simp [QdI]
def Qxa (e : Option Ent) : AV:=match e with | some (.lst n rows)=>.imm n (Qv rows) | _=>.u
theorem QVo (K j) : Qbx K (.sl j) = Qxa (kg K j):=by simp only [Qbx]; rfl
theorem QOf (n r) : Qxa (some (.lst n r)) = .imm n (Qv r):=_root_.id rfl
theorem QQa (K j) : QoV K j = Qxa (kg K j):=_root_.id rfl
def Qtz (K : KS) (e : Option Ent) (i o : Nat) : AV:=match e with
 | some (.lst n rows)=>.iptr n (Qv rows) i o
 | some (.box cs)=>.iptr cs.length [cs.map (Qgl K)] i o
 | none=>.u
theorem QJz (K j i o) : Qbx K (.ptr j i o) = Qtz K (kg K j) i o:=by simp only [Qbx]; rfl
theorem QFr (K cs i o) : Qtz K (some (.box cs)) i o = .iptr cs.length [cs.map (Qgl K)] i o:=_root_.id rfl
theorem QGE (K n r i o) : Qtz K (some (.lst n r)) i o = .iptr n (Qv r) i o:=_root_.id rfl
theorem QIg (K n r i o) : Qbx K (.iptr n r i o) = .iptr n r i o:=by simp [Qbx]
theorem QQl (K j) : Qgl K (.sl j) = QoV K j:=_root_.id rfl
theorem QVm (K x) : Qgl K (.b x) = .b x:=_root_.id rfl
theorem QVI (K c x) : Qgl K (.i c x) = .i c x:=_root_.id rfl
theorem QVQ (K x) : Qgl K (.s x) = .s x:=_root_.id rfl
theorem QTz (K) : Qgl K .nil = .nil:=_root_.id rfl
theorem QRC (K n r) : Qgl K (.imm n r) = .imm n r:=_root_.id rfl
theorem QH9 (r : List AV) (rs) : Q4 (r :: rs) 0 = r:=_root_.id rfl
theorem QNM (K cs) : Qbx K (.agg cs) = .agg (QdI K cs):=by simp [Qbx]
theorem QNA (K cs) : Qbx K (.tup cs) = .tup (QdI K cs):=by simp [Qbx]
theorem QOR (K g cs) : Qbx K (.clo g cs) = .clo g (QdI K cs):=by simp [Qbx]
theorem l_b (K x) : Qbx K (.b x) = .b x:=by simp [Qbx]
theorem l_i (K c x) : Qbx K (.i c x) = .i c x:=by simp [Qbx]
theorem QR4 (K x) : Qbx K (.s x) = .s x:=by simp [Qbx]
theorem l_n (K) : Qbx K .nil = .nil:=by simp [Qbx]
theorem QNi (K n r) : Qbx K (.imm n r) = .imm n r:=by simp [Qbx]
theorem QC3 : Qv [] = []:=by simp [Qv]
theorem QAu (r rs) : Qv (r :: rs) = VM r :: Qv rs:=by simp [Qv]
theorem QFQ : VM [] = []:=by simp [VM]
theorem QGB (c cs) : VM (c :: cs) = V5 c :: VM cs:=by simp [VM]
theorem QTf (x) : V5 (.b x) = .b x:=by simp [V5]
theorem QSA (c x) : V5 (.i c x) = .i c x:=by simp [V5]
theorem QW4 (x) : V5 (.s x) = .s x:=by simp [V5]
theorem QUj : V5 .nil = .nil:=by simp [V5]
theorem QGw (n r) : V5 (.imm n r) = .imm n r:=by simp [V5]
theorem QIv (n r) : V5 (.own n r) = .imm n (Qv r):=by simp [V5]
theorem QL6 (m n r) : V8 m (.own n r) = (.sl m,[some (.lst n r)]):=by simp [V8]
theorem QOc (m cs) : V8 m (.agg cs) = (.agg (Qcy m cs).1,(Qcy m cs).2):=by simp [V8]
theorem QOS (m cs) : V8 m (.tup cs) = (.tup (Qcy m cs).1,(Qcy m cs).2):=by simp [V8]
theorem i_b (m x) : V8 m (.b x) = (.b x,[]):=by simp [V8]
theorem i_i (m c x) : V8 m (.i c x) = (.i c x,[]):=by simp [V8]
theorem QTX (m x) : V8 m (.s x) = (.s x,[]):=by simp [V8]
theorem i_n (m) : V8 m .nil = (.nil,[]):=by simp [V8]
theorem QVY (m) : Qcy m [] = ([],[]):=by simp [Qcy]
theorem QSZ (m c cs) : Qcy m (c :: cs) = ((V8 m c).1 :: (Qcy (m + (V8 m c).2.length) cs).1,(V8 m c).2 ++ (Qcy (m + (V8 m c).2.length) cs).2):=by simp [Qcy]
theorem QER {α γ : Type} (x : α) (y : γ) : (x,y).1 = x:=_root_.id rfl
theorem QN7 {α γ : Type} (x : α) (y : γ) : (x,y).2 = y:=_root_.id rfl
def Qpg (e : Option (List AV)) (k : AV → Option β) (_ : Lk k) : Option β:=match e with | some cs=>k (.agg cs) | none=>none
theorem QLk (K z p ps l) : QkV K (.st z p) ps k l = Qpg (Qbu K (p[·]?) z ps) k ():=_root_.id rfl
theorem QG5 (K z m ps l) : QkV K (.arr z m) ps k l = Qpg (Qbu K (fun i=>some (i * m,m)) z ps) k ():=_root_.id rfl
theorem QJE (cs l) : Qpg (some cs) k l = k (.agg cs):=_root_.id rfl
def QDZ (fl : Bool) (ns : List Nat) (e : Option (List AV)) (K : KS) (len m : Nat) (k : AV → KS → Option β) (_ : Lk k) : Option β:=match e with
  | some cs=>cond (yB fl cs) (match VR K cs with
   | some (K1,cs)=>XA (K1 ++ [some (.lst m ((Qb2 m len cs).map (nz ns)))]) (fun K'=>k (.sl K.length) K') ()
   | none=>none) none
  | none=>none
theorem QUR (fl ns K e m z) (k : AV → KS → Option β) (l) : Qhy fl ns K (some (e,m,z)) 0 [] k l = XA (K ++ [some (.lst m [])]) (fun K'=>k (.sl K.length) K') ():=_root_.id rfl
theorem s_b (fl ns K e m z len ps) (k : AV → KS → Option β) (l) : Qhy fl ns K (some (e,m,z)) (len + 1) ps k l = okB (Nat.ble ((len + 1) * m) 16777216) (QDZ fl ns (Qbu K (fun i=>some (i * m,m)) (Qeb (len + 1) z) ps) K (len + 1) m k ()) () :=
 Qdo QjA _ _
def QDS (ns : List Nat) (e : Option (KS × List AV)) (n len m : Nat) (k : AV → KS → Option β) (_ : Lk k) : Option β:=match e with
   | some (K1,cs)=>XA (K1 ++ [some (.lst m ((Qb2 m len cs).map (nz ns)))]) (fun K'=>k (.sl n) K') ()
   | none=>none
theorem QT6 (fl ns K cs len m) (k : AV → KS → Option β) (l) : QDZ fl ns (some cs) K len m k l = cond (yB fl cs) (QDS ns (VR K cs) K.length len m k ()) none:=_root_.id rfl
theorem QUI : zB [] = true:=_root_.id rfl
theorem QSV (l : List Nat) : zB (0 :: l) = zB l:=_root_.id rfl
theorem QUT (n : Nat) (l : List Nat) : zB ((n + 1) :: l) = false:=_root_.id rfl
theorem QTQ (cs) : yB false cs = true:=_root_.id rfl
theorem QWd (cs) : yB true cs = noS cs:=_root_.id rfl
theorem QSh : noS [] = true:=_root_.id rfl
theorem QUr (c n l) : noS (.i c n :: l) = noS l:=_root_.id rfl
theorem QW8 (x l) : noS (.b x :: l) = noS l:=_root_.id rfl
theorem QWf (x l) : noS (.s x :: l) = noS l:=_root_.id rfl
theorem QS7 (l) : noS (.nil :: l) = noS l:=_root_.id rfl
theorem QW5 (n r l) : noS (.imm n r :: l) = noS l:=_root_.id rfl
theorem QVz (j l) : noS (.sl j :: l) = false:=_root_.id rfl
theorem QUq (ns K1 cs n len m) (k : AV → KS → Option β) (l) : QDS ns (some (K1,cs)) n len m k l = XA (K1 ++ [some (.lst m ((Qb2 m len cs).map (nz ns)))]) (fun K'=>k (.sl n) K') ():=_root_.id rfl
theorem QVH (K p cs) : Qbu K p cs [] = some cs:=_root_.id rfl
def QxS (K : KS) (place : Nat → Option (Nat × Nat)) (cs : List AV) (p : Option (Nat × Nat)) (d : Option (List AV)) (rest : List (Nat × AV)) : Option (List AV):=match p,d with
  | some (o,m),some ds=>if ds.length = m ∧ o + m ≤ cs.length then Qbu K place (putCells cs o ds) rest else none
  | _,_=>none
theorem QRz (K p cs i v r) : Qbu K p cs ((i,v) :: r) = QxS K p cs (p i) (Qdx K v) r:=by simp only [Qbu]; rfl
theorem QT9 (K p cs o m ds r) : QxS K p cs (some (o,m)) (some ds) r = cond ((ds.length == m) && Nat.ble (o + m) cs.length) (Qbu K p (putCells cs o ds) r) none :=
 Qdo (by simp only [Bool.and_eq_true,beq_iff_eq,QjA]) _ _
theorem QWP (K cs) : Qdx K (.agg cs) = some cs:=_root_.id rfl
theorem QSN (K x) : Qdx K (.b x) = some [.b x]:=_root_.id rfl
theorem QVS (K c x) : Qdx K (.i c x) = some [.i c x]:=_root_.id rfl
theorem QWV (K x) : Qdx K (.s x) = some [.s x]:=_root_.id rfl
theorem QTR (K) : Qdx K .nil = some [.nil]:=_root_.id rfl
theorem QFv (K n r) : Qdx K (.imm n r) = some [.imm n r]:=_root_.id rfl
theorem QJX (K j) : Qdx K (.sl j) = cond (kg K j).isSome (some [.sl j]) none:=by
 show (if Qaj K (.sl j) = true then some [AV.sl j] else none) = _; exact Qdo Iff.rfl _ _
theorem QSj (z) : Qeb 0 z = []:=by simp [Qeb]
theorem QSq (n z) : Qeb (n + 1) z = z ++ Qeb n z:=by simp [Qeb,List.replicate_succ]
theorem QNp (K) : VR K [] = some (K,[]):=_root_.id rfl
theorem QPl (K x cs) : VR K (.b x :: cs) = (VR K cs).map fun p=>(p.1,.b x :: p.2):=by simp [VR,AV.closed]
theorem QIS (K c x cs) : VR K (.i c x :: cs) = (VR K cs).map fun p=>(p.1,.i c x :: p.2):=by simp [VR,AV.closed]
theorem QLj (K x cs) : VR K (.s x :: cs) = (VR K cs).map fun p=>(p.1,.s x :: p.2):=by simp [VR,AV.closed]
theorem QLD (K cs) : VR K (.nil :: cs) = (VR K cs).map fun p=>(p.1,.nil :: p.2):=by simp [VR,AV.closed]
theorem QCL (K n r cs) : VR K (.imm n r :: cs) = (VR K cs).map fun p=>(p.1,.imm n r :: p.2):=by simp [VR,AV.closed]
def QQo (e : Option Ent) (K : KS) (j : Nat) (cs : List AV) : Option (KS × List AV):=match e with
  | some (.lst n rows)=>(VR (K.set j none) cs).map fun p=>(p.1,.own n rows :: p.2)
  | _=>none
theorem QGY (K j cs) : VR K (.sl j :: cs) = QQo (kg K j) K j cs:=by simp only [VR]; rfl
theorem QNs (K n r j cs) : QQo (some (.lst n r)) K j cs = (VR (K.set j none) cs).map fun p=>(p.1,.own n r :: p.2):=_root_.id rfl
theorem QNk (m cs) : Qb2 m 0 cs = []:=_root_.id rfl
theorem QKO (m l cs) : Qb2 m (l + 1) cs = cs.take m :: Qb2 m l (cs.drop m):=_root_.id rfl
def Qt8 (e : Option (List (List AV) × KS)) (n m b : Nat) (s : AV) (k : AV → KS → Option β) (_ : Lk k) : Option β:=match e with
  | some (rows',K1)=>match s with
   | .sl j=>match kg K1 j with
    | some (.lst n' rows)=>if n' = m then Vx (decide ((rows.length + rows'.length) * (b + 1) ≤ 140737488355328)) (XA (K1.set j none ++ [some (.lst m (rows ++ rows'))]) (fun K'=>k (.sl n) K') ()) () else none
    | _=>none
   | .nil=>Vx (decide (rows'.length * (b + 1) ≤ 140737488355328)) (XA (K1 ++ [some (.lst m rows')]) (fun K'=>k (.sl n) K') ()) ()
   | _=>none
  | none=>none
def Qy8 (e : Option Ent) (r : List (List AV)) (K1 : KS) (n m b j : Nat) (k : AV → KS → Option β) (_ : Lk k) : Option β:=match e with
    | some (.lst n' rows)=>if n' = m then Vx (decide ((rows.length + r.length) * (b + 1) ≤ 140737488355328)) (XA (K1.set j none ++ [some (.lst m (rows ++ r))]) (fun K'=>k (.sl n) K') ()) () else none
    | _=>none
def QFA (K : KS) (t : Option (TypeId × Nat × List AV)) (bytes : Option Nat) (s x : AV) (k : AV → KS → Option β) (_ : Lk k) : Option β:=QlW K t bytes s x k ()
def QCC (P : Program) (t : Option (TypeId × Nat × List AV)) : Option Nat:=t.bind fun q=>tb P q.1
theorem QP7 {P : Program} {D : Orc} {f : Fr} {K : KS} (s x t tx ts) (k : AV → KS → Option β) (l) : oop P D (.call ⟨.builtin .append,List.toArray [s,x],List.toArray (t :: tx :: ts)⟩) f K k l = okB (QbW P tx && !(QcA s && QfF (ev f x))) (QFA K (tse P t) (QCC P (tse P t)) (ev f s) (ev f x) k ()) ():=by
 simp only [oop,okB,QFA,QCC]; cases QbW P tx <;> cases (QcA s && QfF (ev f x)) <;> rfl
theorem QUk (d) : QcA (.tmp d) = false:=_root_.id rfl
theorem QSB : QcA (.const (.slice none 0 0)) = true:=_root_.id rfl
theorem QUn (n r) : QfF (.imm n r) = false:=_root_.id rfl
theorem QRU : QfF .nil = false:=_root_.id rfl
theorem QR2 (j) : QfF (.sl j) = true:=_root_.id rfl
def QzY (ns : List Nat) (K : KS) (t : Option (TypeId × Nat × List AV)) (bytes : Option Nat) (l c : AV) (k : AV → KS → Option β) (_ : Lk k) : Option β:=QuQ ns K t bytes l c k ()
theorem QTv {P : Program} {D : Orc} {f : Fr} {K : KS} (t x c) (k : AV → KS → Option β) (l) : oop P D (.makeSlice t x c) f K k l = QzY (QeS P t) K (tse P t) (QCC P (tse P t)) (ev f x) (ev f c) k ():=_root_.id rfl
theorem QJA (ns K e m z b i c) (k : AV → KS → Option β) (l) : QzY ns K (some (e,m,z)) (some (b + 1)) (.i .i64 i) (.i .i64 c) k l = Vx (decide (i = c)) (Vx (mkB i (b + 1)) (XA (K ++ [some (.lst m (List.replicate i.toNat (nz ns z)))]) (fun K'=>k (.sl K.length) K') ()) ()) ():=_root_.id rfl
theorem QTb (i : Int) : (i = i) = True:=by simp
theorem QQr (P e m z) : QCC P (some (e,m,z)) = tb P e:=_root_.id rfl
theorem a_1 (K e m z b s x) (k : AV → KS → Option β) (l) : QFA K (some (e,m,z)) (some (b + 1)) s x k l = Qt8 (Qdi K m x) K.length m b s k ():=_root_.id rfl
theorem a_2 (r K1 n m b j) (k : AV → KS → Option β) (l) : Qt8 (some (r,K1)) n m b (.sl j) k l = Qy8 (kg K1 j) r K1 n m b j k ():=_root_.id rfl
theorem a_3 (r K1 n m b) (k : AV → KS → Option β) (l) : Qt8 (some (r,K1)) n m b .nil k l = Vx (rm r.length (b + 1)) (XA (K1 ++ [some (.lst m r)]) (fun K'=>k (.sl n) K') ()) ():=by
 simp [Qt8,rm]
theorem a_4 (r' r K1 n m b j) (k : AV → KS → Option β) (l) : Qy8 (some (.lst m r')) r K1 n m b j k l = Vx (rm (r'.length + r.length) (b + 1)) (XA (K1.set j none ++ [some (.lst m (r' ++ r))]) (fun K'=>k (.sl n) K') ()) ():=by
 simp [Qy8,rm]
theorem QRM (K m) : Qdi K m .nil = some ([],K):=_root_.id rfl
theorem QWi (K m r) : Qdi K m (.imm m r) = some (r,K):=by simp [Qdi]
def QIH (e : Option Ent) (K : KS) (m k : Nat) : Option (List (List AV) × KS):=match e with
  | some (.lst n rows)=>if n = m then some (rows,K.set k none) else none
  | _=>none
theorem QTP (K m j) : Qdi K m (.sl j) = QIH (kg K j) K m j:=_root_.id rfl
theorem QRx (K m j r) : QIH (some (.lst m r)) K m j = some (r,K.set j none):=by simp [QIH]
end
section
variable (T : Tld)
theorem QPr (n h) : (orc T (n + 1) h).w = T.wt:=_root_.id rfl
theorem QJ7 (n h g) : (orc T n h).z g = (lk T.pz g).getD []:=by cases n <;> rfl
theorem QJI (n h) : (orc T (n + 1) h).v = T.vt:=_root_.id rfl
theorem QOM (n h) : (orc T n h).m = CM T n:=by cases n <;> rfl
theorem QMf (n h) : (orc T n h).a = CA T n:=by cases n <;> rfl
theorem QJx (n h) : (orc T (n + 1) h).q = T.qt:=_root_.id rfl
theorem QPD (n h) : (orc T (n + 1) h).s = T.st:=_root_.id rfl
theorem QLr (n h) : (orc T n h).p = CP T n:=by cases n <;> rfl
theorem QPA (n h) : (orc T n h).l = LP T n h:=_root_.id rfl
noncomputable def cpF (T : Tld) (n g : Nat) (fn : Option Func) (a : Option Ann) (args : List AV) : Option AV:=match a with
 | some a=>match fn with
  | some f=>cond (Nat.ble args.length f.ntmps) (V9 T.P (orc T n g) a (f.body.getD .skip) (Qik T.P a.sh f.results.toList) (Xf args) [] ()) none
  | none=>cond (Nat.ble args.length 0) (V9 T.P (orc T n g) a .skip (Qik T.P a.sh []) (Xf args) [] ()) none
 | none=>T.xt g args
noncomputable def caF (T : Tld) (n g : Nat) (fn : Option Func) (a : Option Ann) (K : KS) (args : List AV) : Option (AV × KS):=match a with
 | some a=>match fn with
  | some f=>cond (a.wr && (Nat.beq K.length a.ak.length && Nat.ble args.length f.ntmps)) (V9 T.P (orc T n g) a (f.body.getD .skip) (Qla T.P a.ak a.nr f.ntmps f.results.toList) (Xf args) K ()) none
  | none=>cond (a.wr && (Nat.beq K.length a.ak.length && Nat.ble args.length 0)) (V9 T.P (orc T n g) a .skip (Qla T.P a.ak a.nr 0 []) (Xf args) K ()) none
 | none=>none
theorem Qea (n g K args) : CA T (n + 1) g K args = caF T n g (T.P.funcs[g]?) (T.at g) K args:=by
 show (match T.at g with | some a=>cond _ _ _ | none=>none) = _
 unfold caF body Qlk ntm
 cases T.at g with
 | none=>rfl
 | some a=>cases T.P.funcs[g]? <;> rfl
theorem QxR (n g K args a) (x1 x2 x3 x4 x5 x6 m) (rs : List ResultVar) (c x7 x8 x9 x10 x11 x12 x13) : caF T n g (some ⟨x1,x2,x3,x4,x5,x6,m,List.toArray rs,some c,x7,x8,x9,x10,x11,x12,x13⟩) (some a) K args = cond ((a.nr.isSome || !a.ak.isEmpty) && ((K.length == a.ak.length) && Nat.ble args.length m)) (V9 T.P (orc T n g) a c (Qla T.P a.ak a.nr m rs) (Xf args) K ()) none:=by rw [← QkI]; rfl
theorem QFN {α : Type} (x : α) (l : List α) : (x :: l).isEmpty = false:=_root_.id rfl
theorem QVC : (!false) = true:=_root_.id rfl
noncomputable def cmF (T : Tld) (n g : Nat) (fn : Option Func) (a : Option Ann) (K : KS) (args : List AV) : Option AV:=match a with
 | some a=>cond (Nat.ble args.length (match fn with | some f=>f.ntmps | none=>0)) (V9 T.P (orc T n g) a (match fn with | some f=>f.body.getD .skip | none=>.skip) (Qik T.P a.sh (match fn with | some f=>f.results.toList | none=>[])) (Xf args) K ()) none
 | none=>T.mt g K args
theorem Qok (n g K args) : CM T (n + 1) g K args = cmF T n g (T.P.funcs[g]?) (T.at g) K args:=by
 show (match T.at g with | some a=>_ | none=>_) = _
 unfold cmF body Qlk ntm
 cases T.at g with
 | none=>rfl
 | some a=>cases T.P.funcs[g]? <;> rfl
theorem QAS (n g K args) (h : T.at g = none) : CM T (n + 1) g K args = T.mt g K args:=by rw [Qok,h]; rfl
theorem Qzi (n g K args a) (x1 x2 x3 x4 x5 x6 m) (rs : List ResultVar) (c x7 x8 x9 x10 x11 x12 x13) : cmF T n g (some ⟨x1,x2,x3,x4,x5,x6,m,List.toArray rs,some c,x7,x8,x9,x10,x11,x12,x13⟩) (some a) K args = cond (Nat.ble args.length m) (V9 T.P (orc T n g) a c (Qik T.P a.sh rs) (Xf args) K ()) none:=_root_.id rfl
theorem Qh (n g args) : CP T (n + 1) g args = cpF T n g (T.P.funcs[g]?) (T.at g) args:=by
 show (match T.at g with | some a=>cond _ _ _ | none=>T.xt g args) = _
 unfold cpF body Qlk ntm
 cases T.at g with
 | none=>rfl
 | some a=>cases T.P.funcs[g]? <;> rfl
theorem QUD (n g args) (h : T.at g = none) : CP T (n + 1) g args = T.xt g args:=by rw [Qh,h]; rfl
theorem Qxy (n g args a) (x1 x2 x3 x4 x5 x6 m) (rs : List ResultVar) (c x7 x8 x9 x10 x11 x12 x13) : cpF T n g (some ⟨x1,x2,x3,x4,x5,x6,m,List.toArray rs,some c,x7,x8,x9,x10,x11,x12,x13⟩) (some a) args = cond (Nat.ble args.length m) (V9 T.P (orc T n g) a c (Qik T.P a.sh rs) (Xf args) [] ()) none:=_root_.id rfl
noncomputable def lpG (T : Tld) (n h : Nat) (a : Ann) (c : Option Code) (la : Option LA) (f : Fr) (K : KS) : Option (XE × Fr × KS):=match c,la with
    | some c,some la=>run (fun s=>V9 T.P (orc T n h) a c (Qg3 a.ak la a.rt) s.1 s.2 ()) (f,K)
    | _,_=>none
noncomputable def lpF (T : Tld) (n h t : Nat) (fn : Option Func) (a : Option Ann) (f : Fr) (K : KS) : Option (XE × Fr × KS):=match a with
 | some a=>lpG T n h a (Vb t (match fn with | some f=>f.body.getD .skip | none=>.skip)) (lk a.lp t) f K
 | none=>none
theorem QJ (n h t f K) : LP T (n + 1) h t f K = lpF T n h t (T.P.funcs[h]?) (T.at h) f K:=by
 show (match T.at h with | some a=>_ | none=>none) = _
 unfold lpF
 cases T.at h <;> rfl
theorem QyH (n h t a f K) (x1 x2 x3 x4 x5 x6 m rs c x7 x8 x9 x10 x11 x12 x13) : lpF T n h t (some ⟨x1,x2,x3,x4,x5,x6,m,rs,some c,x7,x8,x9,x10,x11,x12,x13⟩) (some a) f K = lpG T n h a (Vb t c) (lk a.lp t) f K:=_root_.id rfl
theorem Qt (n h a c la f K) : lpG T n h a (some c) (some la) f K = run (fun s=>V9 T.P (orc T n h) a c (Qg3 a.ak la a.rt) s.1 s.2 ()) (f,K):=_root_.id rfl
theorem getD_some {α : Type} (x d : α) : (some x).getD d = x:=_root_.id rfl
theorem QkM {α : Type} (d : α) : (none : Option α).getD d = d:=_root_.id rfl
end
end Go.Proofs.YtncpklppoancgaaGreat.Am
namespace Go.Proofs.YtncpklppoancgaaGreat.Am
open Go
set_option linter.unusedVariables false
set_option linter.unusedSimpArgs false
section
variable {α β γ : Type} {c : α → List AV}
theorem QqG (xs : List α) (i) : inb (xs.map c) i = inb xs i:=by simp [inb]
theorem QUY (xs : List α) : lnR (xs.map c) = ln xs:=by simp [lnR,ln]
theorem Qrg [Inhabited α] (xs : List α) (i : Int) (h : inb xs i = true) : Q4 (xs.map c) i.toNat = c (gt xs i):=by
 obtain ⟨h0,h1⟩:=QcY.1 h
 have h2 : i.toNat < xs.length:=by omega
 simp [Q4,gt,List.getD_eq_getElem?_getD,h2]
theorem QI9 (xs : List α) (i : Int) (h : inb xs i = true) : QnS (xs.map c) i.toNat = true:=by
 unfold QnS
 obtain ⟨h0,h1⟩:=QcY.1 h
 rw [Nat.blt_eq]; simp; omega
theorem QMv (xs : List α) (l h : Int) : cut (xs.map c) l h = (cut xs l h).map c:=by simp [cut,List.map_take,List.map_drop]
theorem Qpc (xs : List α) (i : Int) (ys : List α) (b : Nat) : Qd6 (xs.map c) i (ys.map c) b = Qd6 xs i ys b:=by simp [Qd6]
theorem QpU (xs : List α) (i : Int) (ys : List α) : Vl (xs.map c) i (ys.map c) = (Vl xs i ys).map c:=by simp [Vl,List.map_take,List.map_drop]
theorem QOv (xs : List α) : (xs.map c).length = xs.length:=by simp
theorem Qzu (xs : List α) (n : Nat) (x : α) (i : Int) : inb (xs.set n x) i = inb xs i:=by simp [inb]
theorem QAz [Inhabited α] (xs : List α) (x : α) (i : Int) (h : inb xs i = true) : gt (xs.set i.toNat x) i = x:=by
 obtain ⟨h0,h1⟩:=QcY.1 h
 have h2 : i.toNat < xs.length:=by omega
 simp [gt,List.getD_eq_getElem?_getD,h2]
theorem Qzo (xs : List α) (n : Nat) (x y : α) : (xs.set n x).set n y = xs.set n y:=by simp
theorem QvU (o : Option α) (g : β → γ) (f : α → Option β) : (o.bind f).map g = o.bind fun x=>(f x).map g:=by cases o <;> rfl
theorem QwI (b : Bool) (o : Option β) (g : β → γ) (l) : (Vx b o l).map g = Vx b (o.map g) ():=by cases b <;> rfl
theorem Qww (b : Bool) (x y : Option β) (g : β → γ) : (cond b x y).map g = cond b (x.map g) (y.map g):=by cases b <;> rfl
theorem QzX {ρ δ : Type} (p : ρ → Option β) (q : δ → Option β) (x) (g : β → γ) : (evO p q x).map g = evO (fun r=>(p r).map g) (fun r=>(q r).map g) x:=by cases x <;> rfl
theorem Qp8 (x : α) (f : α → Option β) : (some x).bind f = f x:=_root_.id rfl
theorem Qp6 (o : Option α) (f : α → Option β) (g : β → Option γ) : (o.bind f).bind g = o.bind fun x=>(f x).bind g:=by cases o <;> rfl
theorem QDk {α' β' : Type} (f : α → α') (g : β → β') (x) : Sum.map f g (.inl x) = .inl (f x):=_root_.id rfl
theorem QAs {α' β' : Type} (f : α → α') (g : β → β') (x) : Sum.map f g (.inr x) = .inr (g x):=_root_.id rfl
end
class EncR {α : Type} (c : α → List AV) (r : List AV) (x : outParam α) : Prop where
 eq : r = c x
class EncL {α : Type} (c : α → List AV) (R : List (List AV)) (xs : outParam (List α)) : Prop where
 eq : R = xs.map c
instance {α : Type} (c : α → List AV) (x : α) : EncR c (c x) x:=⟨rfl⟩
instance {α : Type} (c : α → List AV) (xs : List α) : EncL c (xs.map c) xs:=⟨rfl⟩
instance {α : Type} (c : α → List AV) : EncL c [] []:=⟨rfl⟩
instance {α : Type} (c : α → List AV) (r R x xs) [h : EncR c r x] [H : EncL c R xs] : EncL c (r :: R) (x :: xs):=⟨by rw [h.eq,H.eq]; rfl⟩
instance {α : Type} (c : α → List AV) (R S xs ys) [h : EncL c R xs] [H : EncL c S ys] : EncL c (R ++ S) (xs ++ ys):=⟨by rw [h.eq,H.eq]; simp⟩
instance {α : Type} (c : α → List AV) (R xs) (i : Nat) (r x) [h : EncL c R xs] [H : EncR c r x] : EncL c (R.set i r) (xs.set i x):=⟨by rw [h.eq,H.eq,List.map_set]⟩
instance {α : Type} (c : α → List AV) (n : Nat) (r x) [H : EncR c r x] : EncL c (List.replicate n r) (List.replicate n x):=⟨by rw [H.eq,List.map_replicate]⟩
theorem QGb {α : Type} {c : α → List AV} (xs : List α) (R) {ys} [h : EncL c R ys] : xs.map c ++ R = (xs ++ ys).map c:=by rw [h.eq]; simp
theorem QGq {α : Type} {c : α → List AV} (xs : List α) (n : Nat) (R) {x} [h : EncR c R x] : (xs.map c).set n R = (xs.set n x).map c:=by rw [h.eq,List.map_set]
theorem Qan {α : Type} {c : α → List AV} (h : ∀ x,Xn (c x) = true) (xs : List α) : Qu (xs.map c) = true:=by
 induction xs with
 | nil=>simp [Qu]
 | cons x xs ih=>simp [Qu,h,ih]
theorem Qb1 {α : Type} {c c' : α → List AV} (h : ∀ x,VM (c x) = c' x) (xs : List α) : Qv (xs.map c) = xs.map c':=by
 induction xs with
 | nil=>simp [Qv]
 | cons x xs ih=>simp [Qv,h,ih]
theorem QF8 {α : Type} {c : α → List AV} (xs : List α) (n b : Nat) (m) : QlC (xs.map c).isEmpty (some (AV.own n [])) (Vx (rm (0 + xs.length) b) (some (AV.own n (xs.map c))) m) = Vx (rm (0 + xs.length) b) (some (AV.own n (xs.map c))) ():=by
 cases xs with
 | nil=>simp [QlC,oeq,Vx,rm]
 | cons r R=>rfl
set_option linter.defProp false
set_option maxRecDepth 100000
def evA:=aI @QQq <| aI @QQF <| aI @QzC <| aI @QD1 <| aI @Qyf <| aI @QEI <| aI @QPF <| aI @QLB <| aI @QIa <| aI @QAC <| aI @QxV <| aI @QRJ <| aI @QPU <| aI @QRv <| aI @QOp <| aI @QCf <| aI @QLz <| aI @QCB <| aI @QGm <| aI @QAM <| aI @Qxq <| aI @QP4 <| aI @QMC <| aI @QHz <| aI @QGD <| aI @QGA <| aI @QHb <| aI @QMJ <| aI @QCX <| aI @Qyi <| aI @QJZ <| aI @Qy1 <| aI @QF3 <| aI @QFY <| aI @QGf <| aI @QLb <| aI @QQp <| aI @QQE <| aI @QNo <| aI @QxT <| aI @Qoz <| aI @QFB <| aI @QQj <| aI @QCQ <| aI @QzR <| aI @QGR <| aI @QFe <| aI @QPv <| aI @QRs <| aI @s_v <| aI @v_j <| aI @v_s <| aI @QNL <| aI @QIQ <| aI @Qzi <| aI @Qvy <| aI @n_c <| aI @QM8 <| aI @QQS <| aI @QMN <| aI @QQn <| aI @n_g <| aI @QLJ <| aI @QNu <| aI @QPd <| aI @QGF <| aI @QMc <| aI @QHx <| aI @QKU <| aI @QFk <| aI @QCV <| aI @Qy7 <| aI @Qt7 <| aI @QtP <| aI @Qur <| aI @QuE <| aI @QRI <| aI @QV1 <| aI @QES <| aI @QL4 <| aI @QRo <| aI @QGr <| aI @QGj <| aI @QIw <| aI @QAN <| aI @Qyj <| aI @QDx <| aI @Qw3 <| aI @QCR <| aI @QyG <| aI @QJL <| aI @QMl <| aI @QIq <| aI @QHn <| aI @QFh <| aI @QFF <|  aI @QCz <| aI @Qoz <| aI @QPj <| aI @QQM <| aI @QAA <| aI @QPK <| aI @QOY <| aI @QzM <| aI @QAp <| aI @QzW <| aI @QP9 <| aI @QxC <| aI @QNd <| aI @QMd <|
 aI @QxK <| aI @Qxb <| aI @QGO <| aI @Qt3 <| aI @Qye <| aI @Qzq <| aI @QyS <| aI @QA5 <| aI @QAw <| aI @QAB <|
 aI @QOA <| aI @QGp <| aI @QCt <| aI @c_g <| aI @QV7 <| aI @QEA <| aI @QEj <| aI @QDU <|
 aI @Qjm <| aI @Qwb <| aI @QsU <| aI @QqW <| aI @Qs8 <|
 aI @QIy <| aI @QyD <| aI @QGP <| aI @QA8 <| aI @QJi <| aI @QBU <| aI @QzT <| aI @QGz <| aI @QCO <| aI @QOB <| aI @QHp <| aI @QIl <| aI @QF6 <| aI @QIj <| aI @QJa <| aI @QRi <| aI @QQf <| aI @QJp <| aI @QJ4 <| aI @QJo <| aI @QFc <| aI @QFX <| aI @QIo <| aI @QRw <|
 aI @QSH <| aI @QUu <| aI @QKa <| aI @QJM <| aI @QNt <| aI @QNG <| aI @QQK <| aI @QHs <| aI @QBb <| aI @QP7 <| aI @QTv <|
 aI @QPo <| aI @QIN <| aI @Qwq <| aI @Qtm <| aI @Qs3 <| aI @QrJ <| aI @Qr8 <| aI @Qy4 <| aI @QsT <| aI @Qw1 <|
 aI @QrP <| aI @Qrb <| aI @VC <| aI @QjT <| aI @Qmu <| aI @Qow <|
 aI @QCj <| aI @QCm <| aI @QHZ <| aI @QDG <| aI @n_r <| aI @n_s <| aI @QSS <| aI @QSP <| aI @QWh <|
 aI @QO9 <| aI @QHq <| aI @QA4 <| aI @QEY <| aI @QxX <| aI @QF1 <| aI @QRb <| aI @QIr <| aI @QET <| aI @QEc <|
 aI @getD_some <| aI @QkM <| aI @Qxy <| aI @QxR <| aI @QyH @QER
def evB:=aI @Qpn <| aI @QpO <| aI @QTd <| aI @QUP <| aI @QWE <| aI @QWa <| aI @QUZ <| aI @k_i <| aI @k_b <| aI @k_s <| aI @QDp <| aI @QGt <| aI @QT7 <| aI @QTC <| aI @QR6 <| aI @QWS <| aI @QVZ <| aI @QTn <| aI @QV0 <| aI @QUU <| aI @QSJ <| aI @QTG <| aI @QSz <| aI @QUf <| aI @QUI <| aI @QSV <| aI @QUT <| aI @QTQ <| aI @QWd <| aI @QSh <| aI @QUr <| aI @QW8 <| aI @QWf <| aI @QS7 <| aI @QW5 <| aI @QVz <| aI @QQq <| aI @QQF <| aI @QzC <| aI @QD1 <| aI @Qyf <| aI @QEI <| aI @QPF <| aI @QLB <| aI @QQp <| aI @QQE <| aI @QNo <| aI @QT4 <| aI @c_K <| aI @QOp <| aI @QN2 <| aI @QWn <| aI @s_v <| aI @v_j <| aI @v_s <| aI @QNL <| aI @QIQ <| aI @Qzi <| aI @p_0 <| aI @p_e <| aI @p_s <| aI @p_n <| aI @p_z <| aI @p_a <| aI @QTU <| aI @QSQ <| aI @QWM <| aI @QVv <| aI @QSc <| aI @QV6 <| aI @QSL <| aI @QWN <| aI @QJ7 <| aI @Qmu <| aI @Qow <| aI @QkM <| aI @getD_some <| aI @n_c <| aI @QM8 <| aI @QQS <| aI @QMN <| aI @QQn <| aI @n_g <| aI @QLJ <| aI @QNu <| aI @QPd <| aI @QDG <| aI @n_r <| aI @n_s <| aI @QBS <| aI @QBy <| aI @QB2 <| aI @QrP <| aI @Qrb <| aI @VC <| aI @QjT <| aI @QxK <| aI @Qxb <| aI @Qt3 <| aI @QEA <| aI @QEj <| aI @QET <| aI @QEc <| aI @getD_some <| aI @QkM <| aI @QzM <| aI @QAp <| aI @QxC <| aI @QzW <| aI @VP <| aI @QPK <| aI @QOY <| aI @c_M <| aI @QUk <| aI @QSB <| aI @QUn <| aI @QRU <| aI @QR2 <| aI @QPB <| aI @QMw <| aI @QHM <| aI @QG3 <| aI @QBd <| aI @QDh <| aI @QFS <| aI @QCZ <| aI @Qxn <| aI @QKs <| aI @QKf <| aI @QyT <| aI @QFD <| aI @QIt <| aI @QL8 <| aI @QH7 <| aI @QId <| aI @QFK <| aI @Qy0 <| aI @Qy5 <| aI @Qt7 <| aI @QtP <| aI @QL4 <| aI @QRo <| aI @QSv <| aI @QVW <| aI @QR1 <| aI @QTg <| aI @QSG <| aI @QRD <| aI @s_w <| aI @w_j <| aI @w_s <| aI @QW7 <| aI @QRF <| aI @QJh <| aI @QHy <| aI @QV3 <| aI @QTq <| aI @QOz <| aI @QSn <| aI @QTx <| aI @QS2 <| aI @QVa <| aI @QLV <| aI @QH6 <| aI @QWA <| aI @QR8 <| aI @QPM <| aI @QTF <| aI @QVD <| aI @QWR <| aI @QUl <| aI @QVr <| aI @QUA <| aI @QSa <| aI @QU3 <| aI @QVU <| aI @QTs <| aI @QSD <| aI @QQA <| aI @QO0 <| aI @QWu <| aI @QTH <| aI @QSX <| aI @QUL <| aI @QST <| aI @QSf <| aI @QVs <| aI @QTV <| aI @QS6 <| aI @QUW <| aI @QVl <| aI @QSE <| aI @QW9 <| aI @QS0 <| aI @QWs <| aI @QWx <| aI @QWG <| aI @QV4 <| aI @QT3 <| aI @QSx <| aI @QVR <| aI @QTO <| aI @QTm <| aI @QUt <| aI @QU8 <| aI @QUQ <| aI @QNg <| aI @QLh <| aI @QOk <| aI @QOL <| aI @QR5 <| aI @QUg <| aI @QWy <| aI @QS4 <| aI @QRY <| aI @QS1 <| aI @QS8 <| aI @QK9 <| aI @QQ4 <| aI @QI5 <| aI @QLa <| aI @QR7 <| aI @QTZ <| aI @QT2 <| aI @QTJ <| aI @QMK <| aI @QSF <| aI @QUd <| aI @QPp <| aI @QPX <| aI @QUy <| aI @QWB <| aI @QME <| aI @QKK <| aI @QMp <| aI @QQ0 <| aI @QPn <| aI @Bool.true_or <| aI @Bool.false_or <| aI @QWQ <| aI @QWI <| aI @QR3 <| aI @QTL <| aI @QRH <| aI @QTE <| aI @QT0 <| aI @QTa <| aI @w_p <| aI @QUJ <| aI @w_x <| aI @w_n <| aI @QES <| aI @QN6 <| aI @QJy <| aI @QxR <| aI @QFN <| aI @QVC <| aI @Qur <| aI @QuE <| aI @s_t <| aI @s_q <| aI @s_f <| aI @QVF <| aI @QLo <| aI @QF5 <| aI @QUB <| aI @QMB <| aI @QG7 <| aI @Qtx <| aI @QHY <| aI @QGg <| aI @QQZ <| aI @QLy <| aI @QNT <| aI @QGx <| aI @QMF <| aI @QQ1 <| aI @QLp <| aI @Qvy <| aI @Qxy <| aI @QyH <| aI @Qmu <| aI @Qjm <|
 aI @QMH <| aI @QP3 <| aI @QSo <| aI @QTy <| aI @QHe <| aI @QIK <| aI @QFy <| aI @QBr <| aI @Qws <| aI @Qyd <| aI @Qzf <| aI @Qyy <| aI @QqM <| aI @QJR <| aI @QQ2 <| aI @QWw <| aI @QKG <|
 aI @QEO <| aI @QKy <| aI @QO7 <| aI @QOl <| aI @QPy <| aI @QQX <| aI @QKI <| aI @QP8 <| aI @QLw <| aI @QLl <| aI @QRg <| aI @QP5 <| aI @QL7 <| aI @QKj <| aI @QOQ <| aI @QKX <| aI @QKF <| aI @QQW <|
 aI @QOq <| aI @QJG <| aI @QPO <| aI @QJ2 <| aI @QOj <| aI @QHH <| aI @QHd <| aI @QFf <| aI @QHB <| aI @QLX <| aI @QHA <| aI @QI7 <| aI @QKx <| aI @QOZ <| aI @QMr <| aI @QHC <| aI @QFm <| aI @QIb <| aI @QFu <| aI @QFn <| aI @QH3 <| aI @QIc <| aI @QGk <| aI @QJV <| aI @QFb <|
 aI @QC8 <| aI @QCe <| aI @QCy <| aI @QJ1 <| aI @QBn <| aI @QKm <| aI @QV8 <| aI @QHW <| aI @QpW <| aI @QKb <| aI @QKC <|
 aI @QKS <| aI @QJ0 <| aI @QFZ <| aI @QHv <| aI @QJT <| aI @QG0 <| aI @QGd <| aI @QGU <| aI @QA0 <| aI @QDC <| aI @QAy <| aI @QAK <|
 aI @QFG <| aI @QPt <| aI @QGi <| aI @QHT <| aI @QFj <| aI @QA7 <| aI @QM4 <| aI @QID <| aI @QHR <| aI @QHl <| aI @QyQ <| aI @QzO <| aI @QCp <| aI @Qzd <| aI @Qzn <| aI @QIn <| aI @QQu <| aI @QFW <| aI @QFI <| aI @QOx <| aI @QHh <|
 aI @QWq <| aI @m_c <| aI @QFd <| aI @QFP <| aI @QGX <| aI @QFU <| aI @QQ6 <| aI @QJw <| aI @QOn <| aI @QDi <| aI @QDj <| aI @QCd <|
 aI @QBG <| aI @QNx <| aI @QAV <| aI @QCw <| aI @QC5 <| aI @QTM <| aI @QIP <| aI @QFT <| aI @QHS <| aI @QHL <|
 aI @QL5 <| aI @QPP <| aI @QQG <| aI @QNz <| aI @QBv <| aI @QAt <| aI @QHO <| aI @QBj <| aI @QUH <| aI @QRm <| aI @QNh <| aI @QKc <| aI @QMW <| aI @QDb <| aI @QQx <|
 aI @QBl <| aI @Qy6 <| aI @Qyb <| aI @QGT <| aI @QIF <| aI @QSW <| aI @QLv <| aI @QK1 <| aI @QL3 <| aI @QKu <| aI @QPk <| aI @QLF <| aI @QRt <| aI @QGc <| aI @QLP <| aI @QMi <| aI @QQO <| aI @QMI <| aI @QJ3 <| aI @QUG <| aI @QWo <| aI @QT5 <| aI @QR0 <| aI @QVK <| aI @QUz <| aI @QSI <| aI @QU1 <| aI @QTu <| aI @QSk <| aI @QTY <| aI @QTj <| aI @QW0 <| aI @QU0 <| aI @QTA <| aI @QT1 <| aI @QMT <| aI @QNq <| aI @QQc <| aI @QFL <| aI @QG4 <| aI @QHF <| aI @QFg <| aI @QGM <| aI @QDq <| aI @Qyg <| aI @QVO <|
 aI @QQI <| aI @QOE <| aI @QHV <| aI @QnC <| aI @Qso <| aI @QPR <| aI @QRc <| aI @QIM <| aI @x_b <| aI @x_i <| aI @x_s <| aI @QJn <| aI @QQv <| aI @QOy <| aI @QWK <| aI @QLt <| aI @QH2 <| aI @QB9 <| aI @QUs <|
 aI @QNn <| aI @QGJ <| aI @QGW <| aI @QMy <| aI @QOV <| aI @QWL <| aI @QH5 <| aI @QE4 <| aI @QNJ <| aI @QOa <| aI @QIT <| aI @QL0 <| aI @QKq <| aI @QJs <| aI @QE7 <| aI @QHa <|
 aI @QFl <| aI @QBq <| aI @QBN <| aI @QBD <| aI @QAZ <| aI @QGv <| aI @QLK <| aI @QQk <| aI @QKr <| aI @QQs <| aI @QDm <| aI @Qzt <| aI @QIi <| aI @QIE <| aI @QEZ <| aI @QE2 <| aI @QE6 <|
 aI @l_0 <| aI @l_s <| aI @QVo <| aI @QOf <| aI @QQa <| aI @QJz <| aI @QFr <| aI @QGE <| aI @QIg <| aI @QQl <| aI @QVm <| aI @QVI <| aI @QVQ <| aI @QTz <| aI @QRC <| aI @QH9 <| aI @QNM <| aI @QNA <| aI @QOR <| aI @l_b <| aI @l_i <| aI @QR4 <| aI @l_n <| aI @QNi <| aI @QC3 <| aI @QAu <| aI @QFQ <| aI @QGB <| aI @QTf <| aI @QSA <| aI @QW4 <| aI @QUj <| aI @QGw <| aI @QIv <|
 aI @QL6 <| aI @QOc <| aI @QOS <| aI @i_b <| aI @i_i <| aI @QTX <| aI @i_n <| aI @QVY <| aI @QSZ <| aI @QER <| aI @QN7 <|
 aI @QLk <| aI @QG5 <| aI @QJE <| aI @QUR <| aI @s_b <| aI @QT6 <| aI @QUq <| aI @QVH <| aI @QRz <| aI @QT9 <| aI @QWP <| aI @QSN <| aI @QVS <| aI @QWV <| aI @QTR <| aI @QFv <| aI @QJX <| aI @QSj <| aI @QSq <|
 aI @QNp <| aI @QPl <| aI @QIS <| aI @QLj <| aI @QLD <| aI @QCL <| aI @QGY <| aI @QNs <| aI @QNk <| aI @QKO <|
 aI @QQr <| aI @QJA <| aI @QTb <| aI @QDU <| aI @a_1 <| aI @a_2 <| aI @a_3 <| aI @a_4 <| aI @QRM <| aI @QWi <| aI @QTP @QRx
def evT:=aI @QqG <| aI @QF8 <| aI @QMv <| aI @QUY <| aI @Qrg <| aI @QI9 <| aI @QGq <| aI @QGb <| aI @Qxj <| aI @QOv <| aI @Qzu <| aI @QAz <| aI @Qzo <| aI @Qzl <| aI @QQ5 <| aI @QvU <| aI @QwI <| aI @Qww <| aI @Qp8 <| aI @QzX <| aI @Qp6 <| aI @QDk @QAs
def evN:=aI @VC <| aI @List.contains_nil <| aI @Bool.not_false <| aI @Bool.and_true <| aI @List.length_append <| aI @List.length_cons <| aI @List.length_nil <| aI @Nat.zero_add <| aI @Vy <| @VP
end Go.Proofs.YtncpklppoancgaaGreat.Am
