import Derived.Test.YtkbilciipmijjaaGreatEvA
namespace Go.Proofs.YtkbilciipmijjaaGreat.Am
open Go
set_option linter.unusedVariables false
set_option linter.unusedSimpArgs false
section
variable {β : Type}
theorem QbM {α : Type} {p : Prop} [Decidable p] {b : Bool} (h : b = true ↔ p) (x y : α) : (if p then x else y) = cond b x y := by
 cases b with
 | true => rw [if_pos (h.1 rfl)]; rfl
 | false => rw [if_neg (fun hp => by have := h.2 hp; cases this)]; rfl
theorem Qj7 {m n : Nat} : Nat.blt m n = true ↔ m < n := by rw [Nat.blt_eq]
theorem QhT {m n : Nat} : Nat.ble m n = true ↔ m ≤ n := by rw [Nat.ble_eq]
def sel {α : Type} (b : Bool) (x y : α) (_ : Lk (x, y)) : α := cond b x y
theorem Qxz {α : Type} (x y : α) (l) : sel true x y l = x := _root_.id rfl
theorem QyF {α : Type} (x y : α) (l) : sel false x y l = y := _root_.id rfl
theorem QD5 (v) (k : AV → Option β) (l) : QiY v k l = k v := _root_.id rfl
theorem QxC (K) (k : KS → Option β) (l) : VY K k l = k K := _root_.id rfl
theorem QKC (f : Fr) (d : Nat) (v : AV) (t : Nat) : up f d v t = sel (d == t) v (f t) () := by
 unfold up sel
 by_cases h : t = d
 ·simp [h]
 ·have : (d == t) = false := by simp; exact fun h' => h h'.symm
  simp [h, this]
theorem QGz (m n : Nat) : Nat.ble m n = decide (m ≤ n) := by rw [Bool.eq_iff_iff, Nat.ble_eq]; simp
theorem QEu (m n : Nat) : Nat.blt m n = decide (m < n) := by rw [Bool.eq_iff_iff, Nat.blt_eq]; simp
theorem QOq (h : Decidable True) : @decide True h = true := by simp
theorem QOJ (h : Decidable False) : @decide False h = false := by simp
theorem QBl (m n : Nat) (f : Fr) (t : Nat) : Qty m n f t = sel (Nat.ble m t && Nat.blt t n) .u (f t) () := _root_.id rfl
theorem Qs7 (t : Nat) : frm [] t = .u := _root_.id rfl
theorem QqH (d : Nat) (v : AV) (l : List (Nat × AV)) (t : Nat) : frm ((d, v) :: l) t = sel (d == t) v (frm l t) () := by
 show up (frm l) d v t = _; exact QKC _ _ _ _
theorem Qq2 (t : Nat) : VE [] t = .u := by simp [VE]
theorem Qn3 (v : AV) (l : List AV) : VE (v :: l) 0 = v := _root_.id rfl
theorem Qn4 (v : AV) (l : List AV) (t : Nat) : VE (v :: l) (t + 1) = VE l t := _root_.id rfl
theorem Qwx (f : Fr) (t : Tmp) : ev f (.tmp t) = f t := _root_.id rfl
theorem Qqt (f : Fr) (v : Value) : ev f (.const v) = cv v := _root_.id rfl
theorem Qtj (f : Fr) (g : FuncId) : ev f (.func g) = .clo g [] := _root_.id rfl
theorem Qs1 (b : Bool) : cv (.bool b) = .b b := _root_.id rfl
theorem Qwo (k : IntKind) (i : Int) : cv (.int k i) = .i k i := _root_.id rfl
theorem Qv6 (x : ByteArray) : cv (.string x) = .s x.data.toList := _root_.id rfl
theorem QuZ : cv (.slice none 0 0) = .nil := _root_.id rfl
theorem Qof {α : Type} (x y : α) : cond true x y = x := _root_.id rfl
theorem Qol {α : Type} (x y : α) : cond false x y = y := _root_.id rfl
theorem VB (q : Option β) (l) : Vb true q l = q := _root_.id rfl
def Zs {ρ δ γ : Type} (o : Option (Fl ρ δ)) (p : ρ → γ) (q : δ → γ) : Option γ := o.map (evO p q)
theorem Qnr {ρ δ γ : Type} (o : Option (Fl ρ δ)) (p : ρ → γ) (q : δ → γ) (k : γ → Option β) (l) : X9 (Zs o p q) k l = o.bind (evO (fun r => k (p r)) (fun r => k (q r))) := by
 cases o with
 | none => rfl
 | some o => cases o <;> rfl
theorem QhC {α : Type} (x : α) (k : α → Option β) (l) : X9 (some x) k l = k x := _root_.id rfl
theorem Qm9 {α : Type} (k : α → Option β) (l) : X9 (none : Option α) k l = none := _root_.id rfl
theorem Qni {α : Type} (b : Bool) (q : Option α) (k : α → Option β) (l) (l') : X9 (Vb b q l') k l = Vb b (X9 q k l) () := by cases b <;> rfl
theorem QnP {α γ : Type} (o : Option γ) (e : γ → α) (k : α → Option β) (l) : X9 (o.map e) k l = o.bind (fun r => k (e r)) := by cases o <;> rfl
theorem Qks {α : Type} (i) : lk ([] : List (Nat × α)) i = none := _root_.id rfl
theorem Qmb {α : Type} (i) (x : α) (l j) : lk ((i, x) :: l) j = sel (i == j) (some x) (lk l j) () := _root_.id rfl
end
section
variable {β : Type} {P : Program} {D : Orc} {a : Ann} {f : Fr} {K : KS} {Q : KT β} {k : AV → KS → Option β}
theorem QCT (l) : Vz P D a .skip Q f K l = Q .normal f K := _root_.id rfl
theorem QLC (l) : Vz P D a .ret Q f K l = Q .ret f K := _root_.id rfl
theorem QDT (id l) : Vz P D a (.exit id) Q f K l = Q (.exit id) f K := _root_.id rfl
theorem QGP (x y l) : Vz P D a (.seq x y) Q f K l = Vz P D a x (QpJ (fun f K => Vz P D a y Q f K ()) Q) f K () := _root_.id rfl
def QHr (v : AV) (x y : Option β) (_ : Lk (x, y)) : Option β := match v with | .b b => cond b x y | _ => none
theorem QCC (c x y l) : Vz P D a (.cond c x y) Q f K l = QHr (ev f c) (Vz P D a x Q f K ()) (Vz P D a y Q f K ()) () := _root_.id rfl
theorem QFp (b) (x y : Option β) (l) : QHr (.b b) x y l = cond b x y := _root_.id rfl
theorem Qy0 (id c l) : Vz P D a (.block id c) Q f K l = Vz P D a c (Qs0 id Q) f K () := _root_.id rfl
theorem QwE (id ol l) : Vz P D a (.region id (List.toArray ol) false) Q f K l = ofz (lk a.fz id) f K (fun f K => Qio P D a id (lk a.av id) (List.toArray ol) Q f K ()) () := _root_.id rfl
theorem QMR (f : Fr) (K : KS) (k : Fr → KS → Option β) (l) : ofz none f K k l = k f K := _root_.id rfl
theorem QMI (f : Fr) (K : KS) (ss) (k : Fr → KS → Option β) (l) : ofz (some ss) f K k l = Qoz ss f K k () := _root_.id rfl
theorem QLZ (f : Fr) (K : KS) (k : Fr → KS → Option β) (l) : Qoz [] f K k l = k f K := _root_.id rfl
theorem QOe (f : Fr) (K : KS) (s ss) (k : Fr → KS → Option β) (l) : Qoz (s :: ss) f K k l = QxE s (f s) f K (fun f K => Qoz ss f K k ()) () := _root_.id rfl
theorem QM1 (f : Fr) (K : KS) (s j) (k : Fr → KS → Option β) (l) : QxE s (.sl j) f K k l = Qzv s j (kg K j) f K k () := _root_.id rfl
theorem QLV (f : Fr) (K : KS) (s j m rows) (k : Fr → KS → Option β) (l) : Qzv s j (some (.lst m rows)) f K k l = Vb (QaE rows) (k (up f s (.imm m rows)) (K.set j none)) () := _root_.id rfl
theorem QGZ (id ol l) : Qio P D a id none (List.toArray ol) Q f K l = Qph P D a id (lk a.an id) (List.toArray ol) ol Q f K () := _root_.id rfl
theorem QLu (id vs ol l) : Qio P D a id (some vs) (List.toArray ol) Q f K l = Zu vs P D (List.toArray ol) ol f K (fun f K => Q .normal f K) () := _root_.id rfl
theorem QCF (vs ops) (k : Fr → KS → Option β) (l) : Zu vs P D ops [] f K k l = k f K := _root_.id rfl
theorem Qx6 (vs ops d o t p af r) (k : Fr → KS → Option β) (l) : Zu vs P D ops (⟨some d, o, t, p, af, none⟩ :: r) f K k l = QjK vs P D o f K (fun v K' => QiY v (fun v => Zu vs P D ops r (up f d v) K' k ()) ()) () := _root_.id rfl
theorem Qvd (vs ops o t p af r) (k : Fr → KS → Option β) (l) : Zu vs P D ops (⟨none, o, t, p, af, none⟩ :: r) f K k l = QjK vs P D o f K (fun v K' => Zu vs P D ops r f K' k ()) () := _root_.id rfl
theorem QMA (vs ops r) (k : Fr → KS → Option β) (d op t pos after j want l) : Zu vs P D ops (⟨some d, op, t, pos, after, some (j, want)⟩ :: r) f K k l =
  ogd ((ops[j]?).bind (·.dst)) want f (fun f => QjK vs P D op f K (fun v K' => QiY v (fun v => Zu vs P D ops r (up f d v) K' k ()) ()) ()) (fun f => QiY (.tup []) (fun v => Zu vs P D ops r (up f d v) K k ()) ()) () := _root_.id rfl
theorem QGR (vs ops r) (k : Fr → KS → Option β) (op t pos after j want l) : Zu vs P D ops (⟨none, op, t, pos, after, some (j, want)⟩ :: r) f K k l =
  ogd ((ops[j]?).bind (·.dst)) want f (fun f => QjK vs P D op f K (fun v K' => Zu vs P D ops r f K' k ()) ()) (fun f => Zu vs P D ops r f K k ()) () := _root_.id rfl
def Qde : Op → Bool
 | .call ⟨.value (.func _), _, _⟩ => true
 | _ => false
theorem QPp (vs o l) (k : AV → KS → Option β) (h : Qde o = false) : QjK vs P D o f K k l = oop P D o f K k () := by
 unfold Qde at h
 unfold QjK
 split
 ·cases h
 ·rfl
theorem QH8 (vs g args ts l) (k : AV → KS → Option β) : QjK vs P D (.call ⟨.value (.func g), args, ts⟩) f K k l = cond (vs.contains g) (Qb3 P D (.call ⟨.value (.func g), args, ts⟩) f K k ()) (oop P D (.call ⟨.value (.func g), args, ts⟩) f K k ()) := _root_.id rfl
theorem QyQ (x args ts) : Qde (.call ⟨.value (.tmp x), args, ts⟩) = false := _root_.id rfl
theorem QFJ (b args ts) : Qde (.call ⟨.builtin b, args, ts⟩) = false := _root_.id rfl
theorem Qy2 (x) : Qde (.move x) = false := _root_.id rfl
theorem QC6 (x) : Qde (.assign x) = false := _root_.id rfl
theorem Qyu (t x) : Qde (.load t x) = false := _root_.id rfl
theorem Qvc (t x y) : Qde (.store t x y) = false := _root_.id rfl
theorem QG3 (t x i) : Qde (.fieldAddr t x i) = false := _root_.id rfl
theorem QJF (t x i) : Qde (.indexAddr t x i) = false := _root_.id rfl
theorem QA2 (x i) : Qde (.extract x i) = false := _root_.id rfl
theorem QCW (o t x y u) : Qde (.binOp o t x y u) = false := _root_.id rfl
theorem QFj (o t x) : Qde (.unOp o t x) = false := _root_.id rfl
theorem QBS (x) : Qde (.nilCheck x) = false := _root_.id rfl
theorem Qzq (c x y) : Qde (.pick c x y) = false := _root_.id rfl
theorem Qvi (t ps) : Qde (.build t ps) = false := _root_.id rfl
theorem QJi (t n ps) : Qde (.buildSlice t n ps) = false := _root_.id rfl
theorem QuM (t) : Qde (.alloc t) = false := _root_.id rfl
theorem QDb (t x) : Qde (.box t x) = false := _root_.id rfl
theorem QCO (t x lo hi m) : Qde (.slice t x lo hi m) = false := _root_.id rfl
theorem QBn (t x i) : Qde (.index t x i) = false := _root_.id rfl
theorem QJk (s t x) : Qde (.convert s t x) = false := _root_.id rfl
theorem QrV (id ops ol l) : Qph P D a id none ops ol Q f K l = QpT P D a id (lk a.ac id) ops ol Q f K () := _root_.id rfl
theorem Qrr (id us ops ol l) : Qph P D a id (some us) ops ol Q f K l = Qgv P D ops us ol f K (fun f K => Q .normal f K) () := _root_.id rfl
theorem QsP (id ops ol l) : QpT P D a id none ops ol Q f K l = QkT P D a id ops ol Q f K () := _root_.id rfl
theorem Qsb (id x ops ol l) : QpT P D a id (some x) ops ol Q f K l = QeS P D ops ol f K (fun f K => Q .normal f K) () := _root_.id rfl
theorem QBG (ops) (k : Fr → KS → Option β) (l) : QeS P D ops [] f K k l = k f K := _root_.id rfl
theorem Qzr (ops d o t p af r) (k : Fr → KS → Option β) (l) : QeS P D ops (⟨some d, o, t, p, af, none⟩ :: r) f K k l = Qb3 P D o f K (fun v K' => QiY v (fun v => QeS P D ops r (up f d v) K' k ()) ()) () := _root_.id rfl
theorem Qw7 (ops o t p af r) (k : Fr → KS → Option β) (l) : QeS P D ops (⟨none, o, t, p, af, none⟩ :: r) f K k l = Qb3 P D o f K (fun v K' => QeS P D ops r f K' k ()) () := _root_.id rfl
theorem Qyz (x l) : Qb3 P D (.move x) f K k l = oop P D (.move x) f K k () := _root_.id rfl
theorem QtV (x l) : Qb3 P D (.assign x) f K k l = oop P D (.assign x) f K k () := _root_.id rfl
theorem QyI (t x l) : Qb3 P D (.load t x) f K k l = oop P D (.load t x) f K k () := _root_.id rfl
theorem Qvb (t x y l) : Qb3 P D (.store t x y) f K k l = oop P D (.store t x y) f K k () := _root_.id rfl
theorem QHB (t x i l) : Qb3 P D (.fieldAddr t x i) f K k l = oop P D (.fieldAddr t x i) f K k () := _root_.id rfl
theorem QEM (t x i l) : Qb3 P D (.indexAddr t x i) f K k l = oop P D (.indexAddr t x i) f K k () := _root_.id rfl
theorem QCk (x i l) : Qb3 P D (.extract x i) f K k l = oop P D (.extract x i) f K k () := _root_.id rfl
theorem QBp (o t x y u l) : Qb3 P D (.binOp o t x y u) f K k l = oop P D (.binOp o t x y u) f K k () := _root_.id rfl
theorem QwZ (t ps l) : Qb3 P D (.build t ps) f K k l = oop P D (.build t ps) f K k () := _root_.id rfl
theorem QIf (o t x l) : Qb3 P D (.unOp o t x) f K k l = oop P D (.unOp o t x) f K k () := _root_.id rfl
theorem QCn (x l) : Qb3 P D (.nilCheck x) f K k l = oop P D (.nilCheck x) f K k () := _root_.id rfl
theorem QxX (c x y l) : Qb3 P D (.pick c x y) f K k l = oop P D (.pick c x y) f K k () := _root_.id rfl
theorem Qvj (t l) : Qb3 P D (.alloc t) f K k l = oop P D (.alloc t) f K k () := _root_.id rfl
theorem QCp (t x lo hi m l) : Qb3 P D (.slice t x lo hi m) f K k l = oop P D (.slice t x lo hi m) f K k () := _root_.id rfl
theorem QBj (t x i l) : Qb3 P D (.index t x i) f K k l = oop P D (.index t x i) f K k () := _root_.id rfl
theorem QFS (b xs ts l) : Qb3 P D (.call ⟨.builtin b, xs, ts⟩) f K k l = oop P D (.call ⟨.builtin b, xs, ts⟩) f K k () := _root_.id rfl
theorem QJs (s t x l) : Qb3 P D (.convert s t x) f K k l = oop P D (.convert s t x) f K k () := _root_.id rfl
theorem QCs (t x l) : Qb3 P D (.box t x) f K k l = oop P D (.box t x) f K k () := _root_.id rfl
def Qs9 (b c d e : Bool) (D : Orc) (g : FuncId) (K : KS) (vs : List AV) (k : AV → KS → Option β) (_ : Lk (vs, k)) : Option β := cond b (Qmc K vs k ()) (cond c (Qke K vs k ()) (cond d (QiT D g K vs k ()) (cond e (Qg3 D g K vs k ()) (QeG D g K vs k ()))))
theorem Qx2 (x xs ts l) : Qb3 P D (.call ⟨.value x, List.toArray xs, ts⟩) f K k l = Qqd (ev f x) (fun g caps => Qs9 (D.s g) (D.q g) (D.w g) (D.v g) D g K (xs.map (ev f) ++ caps) k ()) () := _root_.id rfl
theorem s_t (g c d e) (K : KS) (vs) (k : AV → KS → Option β) (l) : Qs9 true c d e D g K vs k l = Qmc K vs k () := _root_.id rfl
theorem s_q (g d e) (K : KS) (vs) (k : AV → KS → Option β) (l) : Qs9 false true d e D g K vs k l = Qke K vs k () := _root_.id rfl
theorem s_f (g) (K : KS) (vs) (k : AV → KS → Option β) (l) : Qs9 false false false false D g K vs k l = QeG D g K vs k () := _root_.id rfl
theorem s_w (g e) (K : KS) (vs) (k : AV → KS → Option β) (l) : Qs9 false false true e D g K vs k l = Qj2 D g K (Qdh vs) vs k () := _root_.id rfl
theorem w_j (g) (K : KS) (js vs) (k : AV → KS → Option β) (l) : Qj2 D g K js vs k l = Vb (ndB js) (QjS D g K js (Qbu js vs) k ()) () := _root_.id rfl
theorem w_s (g) (K : KS) (js cs) (k : AV → KS → Option β) (l) : QjS D g K js (some cs) k l = Vb (QgQ (XZ K js)) (X9 (D.a g (XZ K js) cs) (fun r => k (QaW js K.length r.1) (QcJ K js r.2)) ()) () := _root_.id rfl
theorem s_v (g) (K : KS) (vs) (k : AV → KS → Option β) (l) : Qs9 false false false true D g K vs k l = QjZ D g K (Qdh vs) vs k () := _root_.id rfl
theorem v_j (g) (K : KS) (js vs) (k : AV → KS → Option β) (l) : QjZ D g K js vs k l = Vb (ndB js) (Qj0 D g K js (Qbu js vs) k ()) () := _root_.id rfl
theorem v_s (g) (K : KS) (js cs) (k : AV → KS → Option β) (l) : Qj0 D g K js (some cs) k l = Vb (QqM (XZ K js)) (X9 (D.m g (XZ K js) cs) (fun x => k (Vv K.length x).1 (JR K js (Qae js) ++ (Vv K.length x).2)) ()) () := _root_.id rfl
theorem QEV : Qae [] = [] := _root_.id rfl
theorem QF3 (j js) : Qae (j :: js) = none :: Qae js := _root_.id rfl
theorem p_0 (vs) : QlJ [] vs = vs := by cases vs <;> rfl
theorem p_e (ss) : QlJ ss [] = [] := by cases ss <;> rfl
theorem p_s (s ss v vs) : QlJ (s :: ss) (v :: vs) = Qp2 s v :: QlJ ss vs := _root_.id rfl
theorem p_n (v) : Qp2 .n v = v := by cases v <;> rfl
theorem p_z (k v) : Qp2 (.z k) v = nic k v := by cases v <;> rfl
theorem p_a (ns cs) : Qp2 (.a ns) (.agg cs) = .agg (ni ns cs) := _root_.id rfl
theorem QPK (cs) : ni [] cs = cs := by cases cs <;> rfl
theorem QOQ (n ns c cs) : ni (n :: ns) (c :: cs) = nic n c :: ni ns cs := _root_.id rfl
theorem QNP (n) : nic (n + 1) .nil = .imm (n + 1) [] := _root_.id rfl
theorem QPx : nic 0 .nil = .nil := _root_.id rfl
theorem QPr (n c x) : nic n (.i c x) = .i c x := _root_.id rfl
theorem QNC (n x) : nic n (.b x) = .b x := _root_.id rfl
theorem QNo (n x) : nic n (.s x) = .s x := _root_.id rfl
theorem QOD (n m r) : nic n (.imm m r) = .imm m r := _root_.id rfl
theorem QO7 : Qdh [] = [] := _root_.id rfl
theorem QNN (c cs) : Qdh (c :: cs) = QkO c ++ Qdh cs := _root_.id rfl
theorem QKw (j) : QkO (.sl j) = [j] := _root_.id rfl
theorem QK2 (j a b) : QkO (.ptr j a b) = [j] := _root_.id rfl
theorem QHh (js j a b) : QbV js (.ptr j a b) = (QaS js j).map fun i => .ptr i a b := _root_.id rfl
theorem QN4 (K js es) : QcJ K js es = JR K js es ++ QgA js es := _root_.id rfl
theorem QNa (es) : QgA [] es = es := _root_.id rfl
theorem QLW (j js e es) : QgA (j :: js) (e :: es) = QgA js es := _root_.id rfl
theorem QMc (k i) : rix [] k i = k + i := _root_.id rfl
theorem QNn (j js k) : rix (j :: js) k 0 = j := _root_.id rfl
theorem QMu (j js k) : rix (j :: js) k 1 = rix js k 0 := _root_.id rfl
theorem QMl (j js k) : rix (j :: js) k 2 = rix js k 1 := _root_.id rfl
theorem QMh (j js k) : rix (j :: js) k 3 = rix js k 2 := _root_.id rfl
theorem QOV (j js k) : rix (j :: js) k 4 = rix js k 3 := _root_.id rfl
theorem QPz (j js k) : rix (j :: js) k 5 = rix js k 4 := _root_.id rfl
theorem QLT (j js k) : rix (j :: js) k 6 = rix js k 5 := _root_.id rfl
theorem QPu (j js k) : rix (j :: js) k 7 = rix js k 6 := _root_.id rfl
theorem QML (js k c n) : QaW js k (.i c n) = .i c n := by simp [QaW]
theorem QNZ (js k x) : QaW js k (.b x) = .b x := by simp [QaW]
theorem QMT (js k x) : QaW js k (.s x) = .s x := by simp [QaW]
theorem QO0 (js k) : QaW js k .nil = .nil := by simp [QaW]
theorem QMp (js k n r) : QaW js k (.imm n r) = .imm n r := by simp [QaW]
theorem QEO (js k i) : QaW js k (.sl i) = .sl (rix js k i) := by simp [QaW]
theorem QGf (js k i a b) : QaW js k (.ptr i a b) = .ptr (rix js k i) a b := by simp [QaW]
theorem QIN (js k cs) : QaW js k (.agg cs) = .agg (QdX js k cs) := by simp [QaW]
theorem QLj (js k cs) : QaW js k (.tup cs) = .tup (QdX js k cs) := by simp [QaW]
theorem QNH (js k) : QdX js k [] = [] := by simp [QdX]
theorem QNv (js k c cs) : QdX js k (c :: cs) = QaW js k c :: QdX js k cs := by simp [QdX]
theorem QPL (m c n) : rok m (.i c n) = true := _root_.id rfl
theorem QNL (m x) : rok m (.b x) = true := _root_.id rfl
theorem QPj (m x) : rok m (.s x) = true := _root_.id rfl
theorem QMq (m) : rok m .nil = true := _root_.id rfl
theorem QN2 (m n r) : rok m (.imm n r) = true := _root_.id rfl
theorem QHO (m i) : rok m (.sl i) = Nat.ble (i + 1) m := _root_.id rfl
theorem QIU (m i a b) : rok m (.ptr i a b) = Nat.ble (i + 1) m := _root_.id rfl
theorem QF9 (m cs) : rok m (.agg cs) = Ql2 m cs := _root_.id rfl
theorem QIy (m cs) : rok m (.tup cs) = Ql2 m cs := _root_.id rfl
theorem QO2 (m) : Ql2 m [] = true := _root_.id rfl
theorem QL0 (m c cs) : Ql2 m (c :: cs) = (rok m c && Ql2 m cs) := _root_.id rfl
theorem QOs (c n) : clc (.i c n) = true := _root_.id rfl
theorem QND (x) : clc (.b x) = true := _root_.id rfl
theorem QH0 (x) : clc (.s x) = true := _root_.id rfl
theorem QOp : clc .nil = true := _root_.id rfl
theorem QPM (n r) : clc (.imm n r) = true := _root_.id rfl
theorem QHH : QnH [] = true := _root_.id rfl
theorem QHx (c cs) : QnH (c :: cs) = (clc c && QnH cs) := _root_.id rfl
theorem QNr : QgQ [] = true := _root_.id rfl
theorem QOb (n r K) : QgQ (some (.lst n r) :: K) = QgQ K := _root_.id rfl
theorem QIF (cs K) : QgQ (some (.box cs) :: K) = (QnH cs && QgQ K) := _root_.id rfl
theorem QBo (cs) : QkO (.agg cs) = Qdh cs := _root_.id rfl
theorem QPt (c n) : QkO (.i c n) = [] := _root_.id rfl
theorem QLJ (x) : QkO (.b x) = [] := _root_.id rfl
theorem QLw (x) : QkO (.s x) = [] := _root_.id rfl
theorem QOl : QkO .nil = [] := _root_.id rfl
theorem QN6 (n r) : QkO (.imm n r) = [] := _root_.id rfl
theorem QO3 (g l) : QkO (.clo g l) = [] := _root_.id rfl
theorem QMW (js) : Qbu js [] = some [] := _root_.id rfl
theorem QNf (js c cs) : Qbu js (c :: cs) = (QbV js c).bind fun c' => (Qbu js cs).map (c' :: ·) := _root_.id rfl
theorem QLb (js j) : QbV js (.sl j) = (QaS js j).map .sl := _root_.id rfl
theorem QCM (js cs) : QbV js (.agg cs) = (Qbu js cs).map .agg := _root_.id rfl
theorem QN3 (js c n) : QbV js (.i c n) = some (.i c n) := _root_.id rfl
theorem QNT (js x) : QbV js (.b x) = some (.b x) := _root_.id rfl
theorem QKo (js x) : QbV js (.s x) = some (.s x) := _root_.id rfl
theorem QPn (js) : QbV js .nil = some .nil := _root_.id rfl
theorem QM5 (js n r) : QbV js (.imm n r) = some (.imm n r) := _root_.id rfl
theorem QNi (js g) : QbV js (.clo g []) = some (.clo g []) := _root_.id rfl
theorem QiQ (x y : Nat) : Nat.beq x y = (x == y) := by rw [Bool.eq_iff_iff]; simp
theorem QOC (x l j) : QaS (x :: l) j = sel (x == j) (some 0) ((QaS l j).map (· + 1)) () := by rw [← QiQ]; rfl
theorem QOw (K) : XZ K [] = [] := _root_.id rfl
theorem QMN (K j js) : XZ K (j :: js) = kg K j :: XZ K js := _root_.id rfl
theorem QPh (K es) : JR K [] es = K := by cases es <;> rfl
theorem QNK (K j js e es) : JR K (j :: js) (e :: es) = JR (K.set j e) js es := _root_.id rfl
theorem QMJ : QqM [] = true := _root_.id rfl
theorem QM3 (n r K) : QqM (some (.lst n r) :: K) = QqM K := _root_.id rfl
theorem QLY (c n) : AV.scal (.i c n) = true := _root_.id rfl
theorem QMf (x) : AV.scal (.b x) = true := _root_.id rfl
theorem QNl (x) : AV.scal (.s x) = true := _root_.id rfl
theorem QLK (c n) : AV.flat (.i c n) = true := _root_.id rfl
theorem QMs (x) : AV.flat (.b x) = true := _root_.id rfl
theorem QOt (x) : AV.flat (.s x) = true := _root_.id rfl
theorem QPe : AV.flat (.tup []) = true := _root_.id rfl
theorem QOX : QuJ .one = true := _root_.id rfl
theorem w_p (x g j i o) (k : AV → KS → Option β) (l) : onp D f K (.ptr j i o) x g k l = onj D f K x g j i o (kg K j) k () := _root_.id rfl
theorem QM9 (x g j i o q r) (k : AV → KS → Option β) (l) : onj D f K x g j i o (some (.lst q r)) k l = onx D f K x g j i o q r ((QC r i).drop o) k () := _root_.id rfl
theorem w_x (x g j i o q r m rs cs) (k : AV → KS → Option β) (l) : onx D f K x g j i o q r (.own m rs :: cs) k l = Vb x.scal (X9 (D.a g [some (.lst m rs)] [.sl 0, x]) (fun s => onr D f K j i o q r s k ()) ()) () := _root_.id rfl
theorem QME (u us ops d o t p af r) (k : Fr → KS → Option β) (l) : Qgv P D ops (u :: us) (⟨some d, o, t, p, af, none⟩ :: r) f K k l = oop P D o f K (fun v K' => QiY v (fun v => Qgv P D ops us r (up f d v) K' k ()) ()) () := _root_.id rfl
def QAn (d : Option Tmp) (v : AV) (f : Fr) (k : Fr → Option β) (_ : Lk (f, k)) : Option β := match d with
 | some d => QiY v (fun v => k (up f d v)) ()
 | none => k f
theorem QzR (d v f) (k : Fr → Option β) (l) : QAn (some d) v f k l = QiY v (fun v => k (up f d v)) () := _root_.id rfl
theorem QOH (ops d t p y1 p1 a1 e x y2 p2 a2 dst g d' e' ts y3 p3 a3 r) (k : Fr → KS → Option β) (l) : Qgv P D ops [] (⟨some d, .load t p, y1, p1, a1, none⟩ :: ⟨some e, .move x, y2, p2, a2, none⟩ :: ⟨dst, .call ⟨.value (.func g), List.toArray [.tmp d', .tmp e'], ts⟩, y3, p3, a3, none⟩ :: r) f K k l =
  Vb (QuJ (tk P t) && ((d == d') && ((e == e') && !(d == e)))) (onp D f K (ev f p) (ev (up f d (.sl K.length)) x) g (fun v K' => QAn dst v (up (up f d (.sl K.length)) e (ev (up f d (.sl K.length)) x)) (fun f => QeS P D ops r f K' k ()) ()) ()) () := by rw [← QiQ, ← QiQ, ← QiQ]; cases dst <;> rfl
theorem QHC (a b l) : oop P D (.makeInterface a b) f K k l = none := _root_.id rfl
theorem QHT (a l) : oop P D (.panic a) f K k l = none := _root_.id rfl
theorem Qmg (t len ps l) : Qb3 P D (.buildSlice t len ps) f K k l = oop P D (.buildSlice t len ps) f K k () := _root_.id rfl
def Qqw (o : Option (List Int)) (K : KS) (j : Nat) (k : AV → KS → Option β) (_ : Lk k) : Option β := match o with
 | some xs => Vb (decide (xs.length < 4611686018427387904)) (VY (K.set j none ++ [some (.lst 1 ((JH xs).map cI))]) (fun K' => k (.sl K.length) K') ()) ()
 | none => none
def Quu (e : Option Ent) (K : KS) (j : Nat) (k : AV → KS → Option β) (_ : Lk k) : Option β := match e with
 | some (.lst 1 rows) => Qqw (QbH rows) K j k ()
 | _ => none
theorem QMB (K : KS) (j) (k : AV → KS → Option β) (l) : Qke K [.sl j] k l = Quu (kg K j) K j k () := _root_.id rfl
theorem QIo (r) (K : KS) (j) (k : AV → KS → Option β) (l) : Quu (some (.lst 1 r)) K j k l = Qqw (QbH r) K j k () := _root_.id rfl
theorem QAN (xs) (K : KS) (j) (k : AV → KS → Option β) (l) : Qqw (some xs) K j k l = Vb (decide (xs.length < 4611686018427387904)) (VY (K.set j none ++ [some (.lst 1 ((JH xs).map cI))]) (fun K' => k (.sl K.length) K') ()) () := _root_.id rfl
def QqZ (o : Option (List Int)) (K : KS) (j : Nat) (k : AV → KS → Option β) (_ : Lk k) : Option β := match o with
 | some xs => Vb (decide (xs.length < 4611686018427387904)) (VY (K.set j (some (.lst 1 ((Qa1 xs).map cI)))) (fun K => k (.tup []) K) ()) ()
 | none => none
def QvI (e : Option Ent) (K : KS) (j : Nat) (k : AV → KS → Option β) (_ : Lk k) : Option β := match e with
 | some (.lst 1 rows) => QqZ (QbH rows) K j k ()
 | _ => none
theorem QMn (K : KS) (j) (k : AV → KS → Option β) (l) : Qmc K [.sl j] k l = QvI (kg K j) K j k () := _root_.id rfl
theorem QJu (r) (K : KS) (j) (k : AV → KS → Option β) (l) : QvI (some (.lst 1 r)) K j k l = QqZ (QbH r) K j k () := _root_.id rfl
theorem QCh (xs) (K : KS) (j) (k : AV → KS → Option β) (l) : QqZ (some xs) K j k l = Vb (decide (xs.length < 4611686018427387904)) (VY (K.set j (some (.lst 1 ((Qa1 xs).map cI)))) (fun K => k (.tup []) K) ()) () := _root_.id rfl
theorem Qp9 : ∀ xs : List Int, QbH (xs.map fun x => [.i .i64 x]) = some xs
 | [] => rfl
 | x :: xs => by rw [List.map_cons, QbH, Qp9 xs]; rfl
noncomputable def Qve (P : Program) (D : Orc) (a : Ann) (id : Nat) (ops : Array Oper) (o : Option (List Nat)) (Q : KT β) (f : Fr) (K : KS) (_ : Lk (ops, Q, f)) : Option β := QkT P D a id ops (QpN ops o) Q f K ()
theorem Qx7 (id ol l) : Vz P D a (.region id (List.toArray ol) true) Q f K l = ofz (lk a.fz id) f K (fun f K => Qhu P D a id (lk a.av id) (List.toArray ol) Q f K ()) () := _root_.id rfl
theorem QIV (id ol l) : Qhu P D a id none (List.toArray ol) Q f K l = QoJ P D a id (lk a.eb id) (List.toArray ol) Q f K () := _root_.id rfl
theorem QJ3 (id vs ol l) : Qhu P D a id (some vs) (List.toArray ol) Q f K l = Qo2 vs P D a id (lk a.ot id) (List.toArray ol) Q f K () := _root_.id rfl
theorem QJB (id vs ol l) : Qo2 vs P D a id none (List.toArray ol) Q f K l = QsT vs P D (List.toArray ol) (lk a.ord id) Q f K () := _root_.id rfl
theorem QIP (id vs t ops l) : Qo2 vs P D a id (some t) ops Q f K l = Qa4 vs P D ops t f K (fun f K => Q .normal f K) () := _root_.id rfl
theorem QJa (vs ol l) : QsT vs P D (List.toArray ol) none Q f K l = Zu vs P D (List.toArray ol) ol f K (fun f K => Q .normal f K) () := _root_.id rfl
theorem QEN (id ops l) : QoJ P D a id none ops Q f K l = Qfy P D a id ops (lk a.ot id) Q f K () := _root_.id rfl
noncomputable def QAp (P : Program) (D : Orc) (a : Ann) (id : Nat) (ol : List Oper) (Q : KT β) (f : Fr) (K : KS) (_ : Lk (Q, f)) : Option β := Qfy P D a id (List.toArray ol) (lk a.ot id) Q f K ()
theorem QIT (id ds ol l) : QoJ P D a id (some ds) (List.toArray ol) Q f K l = QAp P D a id (ol.map (XW ds)) Q f K () := by
 show Qfy P D a id ((List.toArray ol).map (XW ds)) (lk a.ot id) Q f K () = Qfy P D a id (List.toArray (ol.map (XW ds))) (lk a.ot id) Q f K ()
 rw [List.map_toArray]
theorem c_M (id o r l) : QAp P D a id (o :: r) Q f K l = Qfy P D a id (List.toArray (o :: r)) (lk a.ot id) Q f K () := _root_.id rfl
theorem QHi (ds d t y p e g) : XW ds ⟨d, .buildSlice t 0 (List.toArray []), y, p, e, g⟩ = ⟨d, .move (.const (.slice none 0 0)), y, p, e, g⟩ := _root_.id rfl
theorem QJ7 (ds d t m ps y p e g) : XW ds ⟨d, .buildSlice t (m + 1) ps, y, p, e, g⟩ = ⟨d, .buildSlice t (m + 1) ps, y, p, e, g⟩ := _root_.id rfl
theorem QDe (ds d s x ts y p e g) : XW ds ⟨d, .call ⟨.builtin .append, List.toArray [.tmp s, x], ts⟩, y, p, e, g⟩ = cond (ds.contains s) ⟨d, .call ⟨.builtin .append, List.toArray [.const (.slice none 0 0), x], ts⟩, y, p, e, g⟩ ⟨d, .call ⟨.builtin .append, List.toArray [.tmp s, x], ts⟩, y, p, e, g⟩ := _root_.id rfl
theorem QDQ (ds d xs ts y p e g) : XW ds ⟨d, .call ⟨.builtin .len, xs, ts⟩, y, p, e, g⟩ = ⟨d, .call ⟨.builtin .len, xs, ts⟩, y, p, e, g⟩ := _root_.id rfl
theorem Qzd (ds d v xs ts y p e g) : XW ds ⟨d, .call ⟨.value v, xs, ts⟩, y, p, e, g⟩ = ⟨d, .call ⟨.value v, xs, ts⟩, y, p, e, g⟩ := _root_.id rfl
theorem Qyf (ds d x y p e g) : XW ds ⟨d, .move x, y, p, e, g⟩ = ⟨d, .move x, y, p, e, g⟩ := _root_.id rfl
theorem QD2 (ds d x y p e g) : XW ds ⟨d, .assign x, y, p, e, g⟩ = ⟨d, .assign x, y, p, e, g⟩ := _root_.id rfl
theorem Qya (ds d t x y p e g) : XW ds ⟨d, .load t x, y, p, e, g⟩ = ⟨d, .load t x, y, p, e, g⟩ := _root_.id rfl
theorem Qt1 (ds d t x z y p e g) : XW ds ⟨d, .store t x z, y, p, e, g⟩ = ⟨d, .store t x z, y, p, e, g⟩ := _root_.id rfl
theorem QLg (ds d t x i y p e g) : XW ds ⟨d, .fieldAddr t x i, y, p, e, g⟩ = ⟨d, .fieldAddr t x i, y, p, e, g⟩ := _root_.id rfl
theorem QKX (ds d t x i y p e g) : XW ds ⟨d, .indexAddr t x i, y, p, e, g⟩ = ⟨d, .indexAddr t x i, y, p, e, g⟩ := _root_.id rfl
theorem Qwq (ds d t ps y p e g) : XW ds ⟨d, .build t ps, y, p, e, g⟩ = ⟨d, .build t ps, y, p, e, g⟩ := _root_.id rfl
theorem QDP (ds d o t x z u y p e g) : XW ds ⟨d, .binOp o t x z u, y, p, e, g⟩ = ⟨d, .binOp o t x z u, y, p, e, g⟩ := _root_.id rfl
theorem QDB (ds d x y p e g) : XW ds ⟨d, .nilCheck x, y, p, e, g⟩ = ⟨d, .nilCheck x, y, p, e, g⟩ := _root_.id rfl
theorem QFy (ds d o t x y p e g) : XW ds ⟨d, .unOp o t x, y, p, e, g⟩ = ⟨d, .unOp o t x, y, p, e, g⟩ := _root_.id rfl
theorem QEn (ds d x i y p e g) : XW ds ⟨d, .extract x i, y, p, e, g⟩ = ⟨d, .extract x i, y, p, e, g⟩ := _root_.id rfl
theorem QBV (ds d t x y p e g) : XW ds ⟨d, .box t x, y, p, e, g⟩ = ⟨d, .box t x, y, p, e, g⟩ := _root_.id rfl
theorem Qu2 (ds d t y p e g) : XW ds ⟨d, .alloc t, y, p, e, g⟩ = ⟨d, .alloc t, y, p, e, g⟩ := _root_.id rfl
theorem Qvx (ds d t x lo hi mx y p e g) : XW ds ⟨d, .slice t x lo hi mx, y, p, e, g⟩ = ⟨d, .slice t x lo hi mx, y, p, e, g⟩ := _root_.id rfl
theorem Qwb (id ol l) : Qfy P D a id (List.toArray ol) none Q f K l = Qve P D a id (List.toArray ol) (lk a.ord id) Q f K () := _root_.id rfl
theorem QvW (id ops t l) : Qfy P D a id ops (some t) Q f K l = QcK P D ops t f K (fun f K => Q .normal f K) () := _root_.id rfl
noncomputable def Qqp (P : Program) (D : Orc) (ops : Array Oper) (o : Option Oper) (t : OT) (f : Fr) (K : KS) (k : Fr → KS → Option β) (_ : Lk (ops, f, k)) : Option β := match o with
 | some o => Qb7 P D ops [o] f K (fun f K => QcK P D ops t f K k ()) ()
 | none => none
theorem Qua (ops) (k : Fr → KS → Option β) (l) : QcK P D ops .done f K k l = k f K := _root_.id rfl
theorem QIi (ol i t) (k : Fr → KS → Option β) (l) : QcK P D (List.toArray ol) (.one i t) f K k l = Qqp P D (List.toArray ol) (ol[i]?) t f K k () := by
 have : (List.toArray ol)[i]? = ol[i]? := by simp
 unfold QcK Qqp
 rw [this]
 cases ol[i]? <;> rfl
theorem Qv2 (ops o t) (k : Fr → KS → Option β) (l) : Qqp P D ops (some o) t f K k l = Qb7 P D ops [o] f K (fun f K => QcK P D ops t f K k ()) () := _root_.id rfl
theorem QvV (vs ops) (k : Fr → KS → Option β) (l) : Qa4 vs P D ops .done f K k l = k f K := _root_.id rfl
noncomputable def Qnn (vs : List Nat) (P : Program) (D : Orc) (ops : Array Oper) (o : Option Oper) (t : OT) (f : Fr) (K : KS) (k : Fr → KS → Option β) (_ : Lk (ops, f, k)) : Option β := match o with
 | some o => Zu vs P D ops [o] f K (fun f K => Qa4 vs P D ops t f K k ()) ()
 | none => none
theorem QAf (vs ol i t) (k : Fr → KS → Option β) (l) : Qa4 vs P D (List.toArray ol) (.one i t) f K k l = Qnn vs P D (List.toArray ol) (ol[i]?) t f K k () := by
 have : (List.toArray ol)[i]? = ol[i]? := by simp
 unfold Qa4 Qnn
 rw [this]
 cases ol[i]? <;> rfl
theorem Qv3 (vs ops o t) (k : Fr → KS → Option β) (l) : Qnn vs P D ops (some o) t f K k l = Zu vs P D ops [o] f K (fun f K => Qa4 vs P D ops t f K k ()) () := _root_.id rfl
theorem QAq (vs ops a b) (k : Fr → KS → Option β) (l) : Qa4 vs P D ops (.alt a b) f K k l = oeq (Qa4 vs P D ops a f K k ()) (Qa4 vs P D ops b f K k ()) := _root_.id rfl
theorem QEx (ops a b) (k : Fr → KS → Option β) (l) : QcK P D ops (.alt a b) f K k l = oeq (QcK P D ops a f K k ()) (QcK P D ops b f K k ()) := _root_.id rfl
theorem Xc (x : Option β) : oeq x x = x := by simp [oeq]
theorem VN (p q : Bool) (x : Option β) (l l' : Unit) : Vb p (Vb q x l) l' = Vb q (Vb p x l) l' := by cases p <;> cases q <;> rfl
theorem QBa (id ol l) : Qve P D a id (List.toArray ol) none Q f K l = QkT P D a id (List.toArray ol) ol Q f K () := _root_.id rfl
def pk : List Oper → List Nat → List Oper
 | _, [] => []
 | ol, i :: is => match ol[i]? with | some o => o :: pk ol is | none => pk ol is
noncomputable def QzV (P : Program) (D : Orc) (a : Ann) (id : Nat) (ops : Array Oper) (l : List Oper) (Q : KT β) (f : Fr) (K : KS) (_ : Lk (ops, Q, f)) : Option β := QkT P D a id ops l Q f K ()
theorem QmJ (ol is) : QpN (List.toArray ol) (some is) = pk ol is := by
 show is.filterMap (fun i => (List.toArray ol)[i]?) = _
 induction is with
 | nil => rfl
 | cons i is ih =>
  rw [pk, List.filterMap_cons]
  have : (List.toArray ol)[i]? = ol[i]? := by simp
  rw [this]
  cases ol[i]? with
  | none => simpa using ih
  | some o => rw [← ih]
theorem QBu (id ol is l) : Qve P D a id (List.toArray ol) (some is) Q f K l = QzV P D a id (List.toArray ol) (pk ol is) Q f K () := by
 show QkT P D a id _ (QpN _ _) Q f K () = _
 rw [QmJ]; rfl
noncomputable def QAw (vs : List Nat) (P : Program) (D : Orc) (ops : Array Oper) (l : List Oper) (Q : KT β) (f : Fr) (K : KS) (_ : Lk (ops, Q, f)) : Option β := Zu vs P D ops l f K (fun f K => Q .normal f K) ()
theorem QO1 (vs ol is l) : QsT vs P D (List.toArray ol) (some is) Q f K l = QAw vs P D (List.toArray ol) (pk ol is) Q f K () := by
 show Zu vs P D _ (QpN _ _) f K _ () = _
 rw [QmJ]; rfl
theorem c_K (vs ops o r l) : QAw vs P D ops (o :: r) Q f K l = Zu vs P D ops (o :: r) f K (fun f K => Q .normal f K) () := _root_.id rfl
theorem QIl (ol) : pk ol [] = [] := _root_.id rfl
def pkO (o : Option Oper) (l : List Oper) : List Oper := match o with | some o => o :: l | none => l
theorem QK8 (ol i is) : pk ol (i :: is) = pkO (ol[i]?) (pk ol is) := by rw [pk]; cases ol[i]? <;> rfl
theorem QHN (o l) : pkO (some o) l = o :: l := _root_.id rfl
theorem QDC (id ops o r l) : QzV P D a id ops (o :: r) Q f K l = QkT P D a id ops (o :: r) Q f K () := _root_.id rfl
theorem QLq {α : Type} (x : α) (l : List α) : (x :: l)[0]? = some x := _root_.id rfl
theorem QGx {α : Type} (x : α) (l : List α) (i : Nat) : (x :: l)[i + 1]? = l[i]? := _root_.id rfl
theorem QGU {α : Type} (l : List α) (i : Nat) : (List.toArray l)[i]? = l[i]? := by simp
theorem QsR {α γ : Type} (x : α) (g : α → Option γ) : (some x).bind g = g x := _root_.id rfl
noncomputable def Qvn (P : Program) (D : Orc) (j : Option (Nat × Nat × Nat)) (ops : Array Oper) (l : List Oper) (Q : KT β) (f : Fr) (K : KS) (_ : Lk (l, Q, f)) : Option β :=
 match j with
 | none => Qb7 P D ops l f K (fun f K => Q .normal f K) ()
 | some (s, lo, hi) => Ql6 (Qb7 P D ops l f K (fun f _ => asB (f s)) ()) (fun c => Q .normal (up (Qty lo hi f) s (.b c)) K) ()
theorem QGG (id ops ol l) : QkT P D a id ops ol Q f K l = Qvn P D (lk a.jn id) ops ol Q f K () := _root_.id rfl
theorem Qw0 (ops ol l) : Qvn P D none ops ol Q f K l = Qb7 P D ops ol f K (fun f K => Q .normal f K) () := _root_.id rfl
theorem QuP (s lo hi ops ol l) : Qvn P D (some (s, lo, hi)) ops ol Q f K l = Ql6 (Qb7 P D ops ol f K (fun f _ => asB (f s)) ()) (fun c => Q .normal (up (Qty lo hi f) s (.b c)) K) () := _root_.id rfl
theorem Qzc (o) (k : Bool → Option β) (l) : Ql6 o k l = o.bind k := _root_.id rfl
theorem QEQ (b) (k : Bool → Option β) (l) : Ql6 (Qjs b) k l = k b := _root_.id rfl
theorem QxR (b x y) : cond b (Qjs x) (Qjs y) = Qjs (cond b x y) := by cases b <;> rfl
theorem QOZ (b) : Qjs b = some b := _root_.id rfl
theorem QF2 (a b : Bool) : cond a b false = (a && b) := by cases a <;> rfl
theorem QMU (a b : Bool) : cond a true b = (a || b) := by cases a <;> rfl
theorem QCJ (a b : Bool) : cond a false b = (!a && b) := by cases a <;> rfl
theorem QEw (b) : asB (.b b) = Qjs b := _root_.id rfl
def QAM (D : Orc) (t : Nat) (z : List Nat) (la : Option LA) (Q : KT β) (f : Fr) (K : KS) (_ : Lk Q) : Option β :=
 match la with
 | some la => Qdi z la.sl la.rg f K (fun f K => X9 (D.l t f K) (fun o => Q o.1 o.2.1 o.2.2) ()) ()
 | none => none
theorem QCr (c l) : Vz P D a (.loop c) Q f K l = QAM D (tag c) a.ak (lk a.lp (tag c)) Q f K () := _root_.id rfl
theorem QrO (t z la l) : QAM D t z (some la) Q f K l = Qdi z la.sl la.rg f K (fun f K => X9 (D.l t f K) (fun o => Q o.1 o.2.1 o.2.2) ()) () := _root_.id rfl
theorem QhB (id o d) : tag (.region id o d) = id := _root_.id rfl
theorem QtQ (x y) : tag (.seq x y) = tag x := _root_.id rfl
theorem Qp5 (c x y) : tag (.cond c x y) = tag x := _root_.id rfl
theorem Qpd (i x) : tag (.block i x) = tag x := _root_.id rfl
theorem QqY (x) : tag (.loop x) = tag x := _root_.id rfl
theorem QuQ (k : Fr → KS → Option β) (Q f K) : QpJ k Q .normal f K = k f K := _root_.id rfl
theorem QwD (k : Fr → KS → Option β) (Q f K) : QpJ k Q .ret f K = Q .ret f K := _root_.id rfl
theorem Quc (k : Fr → KS → Option β) (Q id f K) : QpJ k Q (.exit id) f K = Q (.exit id) f K := _root_.id rfl
theorem QxP (i f K) : Qs0 i Q .normal f K = Q .normal f K := _root_.id rfl
theorem QyH (i f K) : Qs0 i Q .ret f K = Q .ret f K := _root_.id rfl
theorem Qyk (i j f K) : Qs0 i Q (.exit j) f K = sel (j == i) (Q .normal f K) (Q (.exit j) f K) () := _root_.id rfl
theorem QJX (ops) (k : Fr → KS → Option β) (l) : Qb7 P D ops [] f K k l = k f K := _root_.id rfl
theorem QBR (ops r) (k : Fr → KS → Option β) (d op t pos after l) : Qb7 P D ops (⟨some d, op, t, pos, after, none⟩ :: r) f K k l = oop P D op f K (fun v K' => QiY v (fun v => Qb7 P D ops r (up f d v) K' k ()) ()) () := _root_.id rfl
theorem Qyi (ops r) (k : Fr → KS → Option β) (op t pos after l) : Qb7 P D ops (⟨none, op, t, pos, after, none⟩ :: r) f K k l = oop P D op f K (fun v K' => Qb7 P D ops r f K' k ()) () := _root_.id rfl
theorem c_g (ops r) (k : Fr → KS → Option β) (d op t pos after j want l) : Qb7 P D ops (⟨some d, op, t, pos, after, some (j, want)⟩ :: r) f K k l =
  ogd ((ops[j]?).bind (·.dst)) want f (fun f => oop P D op f K (fun v K' => QiY v (fun v => Qb7 P D ops r (up f d v) K' k ()) ()) ()) (fun f => QiY (.tup []) (fun v => Qb7 P D ops r (up f d v) K k ()) ()) () := _root_.id rfl
theorem QMO (ops r) (k : Fr → KS → Option β) (op t pos after j want l) : Qb7 P D ops (⟨none, op, t, pos, after, some (j, want)⟩ :: r) f K k l =
  ogd ((ops[j]?).bind (·.dst)) want f (fun f => oop P D op f K (fun v K' => Qb7 P D ops r f K' k ()) ()) (fun f => Qb7 P D ops r f K k ()) () := _root_.id rfl
def Qyt (v : AV) (d : Nat) (want : Bool) (f : Fr) (yes no : Fr → Option β) (_ : Lk (f, yes, no)) : Option β :=
 match v with
 | .b x => cond x (cond want (yes (up f d (.b true))) (no (up f d (.b true)))) (cond want (no (up f d (.b false))) (yes (up f d (.b false))))
 | .tup [] => no f
 | _ => none
theorem QNX (d want) (yes no : Fr → Option β) (l) : ogd (some d) want f yes no l = Qyt (f d) d want f yes no () := by
 cases want <;> rfl
theorem Qz1 (b d) (yes no : Fr → Option β) (l) : Qyt (.b b) d true f yes no l = cond b (yes (up f d (.b true))) (no (up f d (.b false))) := _root_.id rfl
theorem QAA (b d) (yes no : Fr → Option β) (l) : Qyt (.b b) d false f yes no l = cond b (no (up f d (.b true))) (yes (up f d (.b false))) := _root_.id rfl
theorem QzJ (d w) (yes no : Fr → Option β) (l) : Qyt (.tup []) d w f yes no l = no f := _root_.id rfl
theorem QDz (x l) : oop P D (.move x) f K k l = k (ev f x) K := _root_.id rfl
theorem Qu7 (x l) : oop P D (.assign x) f K k l = k (ev f x) K := _root_.id rfl
theorem QD9 (c x y l) : oop P D (.pick c x y) f K k l = Qlg (ev f c) (ev f x) (ev f y) (fun v => k v K) () := _root_.id rfl
theorem QxT (t l) : oop P D (.alloc t) f K k l = Qkz K (tzc P t) k () := _root_.id rfl
theorem QEv (t v l) : oop P D (.box t v) f K k l = QqU K (ev f v) k () := _root_.id rfl
theorem Qyw (t ps l) : oop P D (.build t (List.toArray ps)) f K k l = Qiq K (tbd P t) (ps.map fun p => (p.1, ev f p.2)) (fun v => k v K) () := _root_.id rfl
theorem Qu8 (t len ps l) : oop P D (.buildSlice t len (List.toArray ps)) f K k l = QfV (zB (Qdc P t)) (Qdc P t) K (tse P t) len (ps.map fun p => (p.1, ev f p.2)) k () := _root_.id rfl
theorem QCK (t x l) : oop P D (.load t x) f K k l = Qgy (tk P t) (X4 K (ev f x)) (fun v => k v K) () := _root_.id rfl
theorem Qy3 (t p v l) : oop P D (.store t p v) f K k l = Qh0 (flT P t) (slz P 9 t) K (tk P t) (ev f p) (ev f v) (fun K => k .u K) () := _root_.id rfl
theorem QF4 (op t x y s l) : oop P D (.binOp op t x (.tmp y) s) f K k l = JA (QjA P t) op (ev f x) (ev f (.tmp y)) (fun v => k v K) () := _root_.id rfl
theorem QBi (op t x c n s l) : oop P D (.binOp op t x (.const (.int c n)) s) f K k l = JA (QjA P t) op (ev f x) (ev f (.const (.int c n))) (fun v => k v K) () := _root_.id rfl
theorem QCl (op t x c s l) : oop P D (.binOp op t x (.const (.bool c)) s) f K k l = JA (QjA P t) op (ev f x) (ev f (.const (.bool c))) (fun v => k v K) () := _root_.id rfl
theorem QBB (op t x c s l) : oop P D (.binOp op t x (.const (.string c)) s) f K k l = JA (QjA P t) op (ev f x) (ev f (.const (.string c))) (fun v => k v K) () := _root_.id rfl
theorem QB6 (op t x s l) (h : Qlo P t = true) : oop P D (.binOp op t x (.const (.slice none 0 0)) s) f K k l = QiG op (ev f x) (fun v => k v K) () := by simp [oop, Qa2, h]
theorem QJP (g caps l) : oop P D (.makeFunc (.func g) (List.toArray []) (List.toArray caps)) f K k l = k (.clo g (caps.map (ev f))) K := by simp [oop]
theorem QLx (s t x l) (h : bsl P s = true) : oop P D (.convert s t x) f K k l = QoA K (ti P t) (ev f x) (fun v => k v K) () := by simp [oop, h]
theorem QLn (s t x l) (h : bsl P s = false) (h2 : tok P s = true) : oop P D (.convert s t x) f K k l = QpK (ti P t) (ev f x) (fun v => k v K) () := by simp [oop, h, h2]
theorem QFa (t x lo hi l) : oop P D (.slice t x lo hi none) f K k l = Qgn (ti P t) (ev f x) (lo.map (ev f)) (hi.map (ev f)) (fun v => k v K) () := _root_.id rfl
theorem QIH (t x i l) : oop P D (.index t x i) f K k l = QuG (ti P t) (ev f x) (ev f i) (fun v => k v K) () := _root_.id rfl
theorem QJz (x l) : oop P D (.nilCheck x) f K k l = Qut K (ev f x) (fun v => k v K) () := _root_.id rfl
theorem QNG (op t x l) : oop P D (.unOp op t x) f K k l = oun op (ev f x) (fun v => k v K) () := _root_.id rfl
theorem QOB (t x fl l) : oop P D (.fieldAddr t x fl) f K k l = Qtx K (ev f x) (tfo P t fl) (fun v => k v K) () := _root_.id rfl
theorem QPk (t x i l) : oop P D (.indexAddr t x i) f K k l = Qos K (ti P t) (ev f x) (ev f i) (fun v => k v K) () := _root_.id rfl
theorem QHD (x i l) : oop P D (.extract x i) f K k l = Qur (ev f x) i (fun v => k v K) () := _root_.id rfl
theorem QLk (x t ts l) : oop P D (.call ⟨.builtin .len, List.toArray [x], List.toArray (t :: ts)⟩) f K k l = Qpp K (ti P t) (ev f x) (fun v => k v K) () := _root_.id rfl
theorem QFW (x y ts l) : oop P D (.call ⟨.builtin .min, List.toArray [x, y], ts⟩) f K k l = Qwg (ev f x) (ev f y) (fun v => k v K) () := _root_.id rfl
theorem QHp (x y ts l) : oop P D (.call ⟨.builtin .max, List.toArray [x, y], ts⟩) f K k l = QvR (ev f x) (ev f y) (fun v => k v K) () := _root_.id rfl
theorem QDd (g args ts l) : oop P D (.call ⟨.value g, List.toArray args, ts⟩) f K k l = Qqd (ev f g) (fun g caps => QeG D g K (args.map (ev f) ++ caps) k ()) () := _root_.id rfl
theorem QFw (g caps) (k : FuncId → List AV → Option β) (l) : Qqd (.clo g caps) k l = k g caps := _root_.id rfl
theorem Qxl (g vs l) : QeG D g K vs k l = X9 (D.p g (QlJ (D.z g) (Qb6 K vs))) (fun x => k (Vv K.length x).1 (K ++ (Vv K.length x).2)) () := _root_.id rfl
end
def QB8 {β : Type} (o : Option Bool) (k : Bool → Option β) (_ : Lk k) : Option β := match o with | some b => k b | none => none
section
variable {β : Type} {k : AV → Option β} {c : IntKind} {a b : Int} {te : Option (List CK)}
theorem QBC (K j i o l) : Qut K (.ptr j i o) k l = QsK (kg K j) (.ptr j i o) k () := _root_.id rfl
theorem QC4 (e x l) : QsK (some e) x k l = k x := _root_.id rfl
theorem QCb (K n r i o l) : Qut K (.iptr n r i o) k l = k (.iptr n r i o) := _root_.id rfl
theorem QAC (l) : JA te .and (.i c a) (.i c b) k l = k (.i c (QdL .and c a b)) := by simp [JA, QeU]
theorem QFg (l) : JA te .or (.i c a) (.i c b) k l = k (.i c (QdL .or c a b)) := by simp [JA, QeU]
theorem QHm (l) : JA te .xor (.i c a) (.i c b) k l = k (.i c (QdL .xor c a b)) := by simp [JA, QeU]
theorem QHz (d l) : JA te .shl (.i c a) (.i d b) k l = Vb (decide (0 ≤ b)) (k (.i c (shI .shl c a b))) () := by simp [JA, QeU]
theorem QFo (d l) : JA te .shr (.i c a) (.i d b) k l = Vb (decide (0 ≤ b)) (k (.i c (shI .shr c a b))) () := by simp [JA, QeU]
theorem QEK (l) : JA te .add (.i c a) (.i c b) k l = k (.i c (c.wrap (a + b))) := by simp [JA, QeU]
theorem QHy (l) : JA te .sub (.i c a) (.i c b) k l = k (.i c (c.wrap (a - b))) := by simp [JA, QeU]
theorem QF0 (l) : JA te .mul (.i c a) (.i c b) k l = k (.i c (c.wrap (a * b))) := by simp [JA, QeU]
theorem QJ1 (l) : JA te .quo (.i c a) (.i c b) k l = Vb (!decide (b = 0)) (k (.i c (c.wrap (a.tdiv b)))) () := by simp [JA, QeU]
theorem QGE (l) : JA te .rem (.i c a) (.i c b) k l = Vb (!decide (b = 0)) (k (.i c (a.tmod b))) () := by simp [JA, QeU]
theorem QKP (l) : JA te .eql (.i c a) (.i c b) k l = k (.b (decide (a = b))) := by simp [JA, QeU]
theorem QHf (l) : JA te .neq (.i c a) (.i c b) k l = k (.b (!decide (a = b))) := by simp [JA, QeU]
theorem QH4 (l) : JA te .lss (.i c a) (.i c b) k l = k (.b (decide (a < b))) := by simp [JA, QeU]
theorem QHs (l) : JA te .leq (.i c a) (.i c b) k l = k (.b (decide (a ≤ b))) := by simp [JA, QeU]
theorem QJr (l) : JA te .gtr (.i c a) (.i c b) k l = k (.b (decide (b < a))) := by simp [JA, QeU]
theorem QKJ (l) : JA te .geq (.i c a) (.i c b) k l = k (.b (decide (b ≤ a))) := by simp [JA, QeU]
theorem QIq (ks xs ys l) : JA (some ks) .eql (.agg xs) (.agg ys) k l = QB8 (QK ks xs ys) (fun b => k (.b b)) () := _root_.id rfl
theorem QGu (ks xs ys l) : JA (some ks) .neq (.agg xs) (.agg ys) k l = QB8 (QK ks xs ys) (fun b => k (.b (!b))) () := _root_.id rfl
theorem QGA (x y l) : JA (some [.t]) .eql (.b x) (.b y) k l = k (.b (decide (x = y))) := _root_.id rfl
theorem QLc (x y l) : JA (some [.t]) .neq (.b x) (.b y) k l = k (.b (!decide (x = y))) := _root_.id rfl
theorem QKq (b) (k : Bool → Option β) (l) : QB8 (some b) k l = k b := _root_.id rfl
theorem QDI (x y l) : JA te .add (.s x) (.s y) k l = Vb (QE9 x y) (k (.s (QHF x y))) () := by simp [JA, QE9, QHF]
theorem QBP (x y l) : JA te .eql (.s x) (.s y) k l = k (.b (decide (x = y))) := by simp [JA]
theorem QEl (x y l) : JA te .neq (.s x) (.s y) k l = k (.b (!decide (x = y))) := by simp [JA]
def QzI (o : Option AV) (k : AV → Option β) (_ : Lk k) : Option β := match o with | some c => k c | none => none
theorem QFI (cs i l) : Qur (.tup cs) i k l = QzI (cs[i]?) k () := _root_.id rfl
theorem QEb (c l) : QzI (some c) k l = k c := _root_.id rfl
theorem QEL : QK [] [] [] = some true := _root_.id rfl
theorem QG7 (ks c x y xs ys) : QK (.i :: ks) (.i c x :: xs) (.i c y :: ys) = (QK ks xs ys).map (decide (x = y) && ·) := by simp [QK]
theorem QGH (ks x y xs ys) : QK (.b :: ks) (.b x :: xs) (.b y :: ys) = (QK ks xs ys).map (decide (x = y) && ·) := _root_.id rfl
theorem QIJ (ks x y xs ys) : QK (.s :: ks) (.s x :: xs) (.s y :: ys) = (QK ks xs ys).map (decide (x = y) && ·) := _root_.id rfl
theorem QKF (x l) : oun .not (.b x) k l = k (.b (!x)) := _root_.id rfl
theorem QJH (l) : oun .neg (.i c a) k l = k (.i c (c.wrap (-a))) := _root_.id rfl
theorem QxN (x y : AV) (l) : Qlg (.b true) x y k l = k x := _root_.id rfl
theorem QyO (x y : AV) (l) : Qlg (.b false) x y k l = k y := _root_.id rfl
theorem Qy5 (x y : Bool) (c : Bool) (l) : Qlg (.b c) (.b x) (.b y) k l = k (.b (cond c x y)) := by cases c <;> rfl
theorem QI5 (l) : Qwg (.i c a) (.i c b) k l = k (.i c (if b < a then b else a)) := _root_.id rfl
theorem QLa (l) : QvR (.i c a) (.i c b) k l = k (.i c (if a < b then b else a)) := _root_.id rfl
theorem QFd (e : Option Ent) (K : KS) : kg (e :: K) 0 = e := _root_.id rfl
theorem QJh (e : Option Ent) (K : KS) (j : Nat) : kg (e :: K) (j + 1) = kg K j := _root_.id rfl
theorem QDy {α : Type} (e e' : α) (K : List α) : (e :: K).set 0 e' = e' :: K := _root_.id rfl
theorem QB1 {α : Type} (e e' : α) (K : List α) (j : Nat) : (e :: K).set (j + 1) e' = e :: K.set j e' := _root_.id rfl
theorem QHJ {α : Type} (e : α) (K L : List α) : (e :: K) ++ L = e :: (K ++ L) := _root_.id rfl
theorem QBF {α : Type} (L : List α) : [] ++ L = L := _root_.id rfl
theorem QAW {α : Type} : ([] : List α).length = 0 := _root_.id rfl
theorem QBq {α : Type} (e : α) (K : List α) : (e :: K).length = K.length + 1 := _root_.id rfl
theorem Qyc {α : Type} (K : List α) : K.drop 0 = K := _root_.id rfl
theorem Qxu {α : Type} (e : α) (K : List α) (n : Nat) : (e :: K).drop (n + 1) = K.drop n := _root_.id rfl
theorem QyU {α : Type} (K : List α) : K.take 0 = [] := by simp
theorem Qxt {α : Type} (e : α) (K : List α) (n : Nat) : (e :: K).take (n + 1) = e :: K.take n := _root_.id rfl
def lnR (r : List (List AV)) : Int := r.length
theorem Qw1 (K e m n r l) : Qpp K (.sl e m) (.imm n r) k l = k (.i .i64 (lnR r)) := _root_.id rfl
theorem QKj (n r) (k : AV → Option β) (l) : QiG .eql (.imm n r) k l = Qjz r.isEmpty (k (.b true)) (k (.b false)) := _root_.id rfl
theorem QBy (n r) (k : AV → Option β) (l) : QiG .neq (.imm n r) k l = Qjz r.isEmpty (k (.b false)) (k (.b true)) := _root_.id rfl
theorem QEh (x : Option β) (b) : Qjz b x x = x := by cases b <;> simp [Qjz, oeq]
theorem QAS (n : Nat) (R : List (List AV)) (b : Nat) (m) : Qjz R.isEmpty (some (AV.own n [])) (Vb (decide (R.length * b ≤ 140737488355328)) (some (AV.own n R)) m) = Vb (decide (R.length * b ≤ 140737488355328)) (some (AV.own n R)) () := by
 cases R with
 | nil => simp [Qjz, oeq, Vb]
 | cons r R => rfl
theorem QwT (K e m l) : Qpp K (.sl e m) .nil k l = k (.i .i64 0) := _root_.id rfl
def QzU (e : Option Ent) (k : AV → Option β) (_ : Lk k) : Option β := match e with | some e => k (.i .i64 (lnR e.rows)) | none => none
theorem QCo (c d a l) : QpK (.int c) (.i d a) k l = k (.i c (c.wrap a)) := _root_.id rfl
def QqN (o : Option (List UInt8)) (k : AV → Option β) (_ : Lk k) : Option β := match o with | some s => k (.s s) | none => none
def QwF (e : Option Ent) (k : AV → Option β) (_ : Lk k) : Option β := match e with | some (.lst 1 rows) => QqN (Qbl rows) k () | _ => none
theorem QKm (K j l) : QoA K .str (.sl j) k l = QwF (kg K j) k () := _root_.id rfl
theorem QBA (r l) : QwF (some (.lst 1 r)) k l = QqN (Qbl r) k () := _root_.id rfl
theorem QD4 (s l) : QqN (some s) k l = k (.s s) := _root_.id rfl
theorem QDc : Qbl [] = some [] := _root_.id rfl
theorem Qys (n r) : Qbl ([.i .u8 n] :: r) = (Qbl r).map (UInt8.ofNat n.toNat :: ·) := by
 show (match QnI [.i .u8 n], Qbl r with | some x, some xs => some (x :: xs) | _, _ => none) = _
 simp only [QnI]
 cases Qbl r <;> rfl
theorem Qxf (K e m j l) : Qpp K (.sl e m) (.sl j) k l = QzU (kg K j) k () := _root_.id rfl
theorem Qvz (n r l) : QzU (some (.lst n r)) k l = k (.i .i64 (lnR r)) := _root_.id rfl
theorem Qwt (K x l) : Qpp K .str (.s x) k l = k (.i .i64 (ln x)) := _root_.id rfl
theorem QD6 (K n r i p o t l) : Qtx K (.iptr n r i p) (some (o, t)) k l = k (.iptr n r i (p + o)) := _root_.id rfl
def QAx (e : Option Ent) (v : AV) (k : AV → Option β) (_ : Lk k) : Option β := match e with | some _ => k v | none => none
theorem QGT (K j i p o t l) : Qtx K (.ptr j i p) (some (o, t)) k l = QAx (kg K j) (.ptr j i (p + o)) k () := _root_.id rfl
theorem QEm (e v l) : QAx (some e) v k l = k v := _root_.id rfl
theorem QDO (K e m r kd i l) : Qos K (.sl e m) (.imm m r) (.i kd i) k l = Vb (inb r i) (k (.iptr m r i.toNat 0)) () := by simp [Qos]
def Qwz (e : Option Ent) (m : Nat) (j : Nat) (i : Int) (k : AV → Option β) (_ : Lk k) : Option β := match e with | some e => if m = e.n then Vb (inb e.rows i) (k (.ptr j i.toNat 0)) () else none | none => none
theorem QE0 (K e m j kd i l) : Qos K (.sl e m) (.sl j) (.i kd i) k l = Qwz (kg K j) m j i k () := _root_.id rfl
theorem QEc (m r j i l) : Qwz (some (.lst m r)) m j i k l = Vb (inb r i) (k (.ptr j i.toNat 0)) () := by simp [Qwz, Ent.n, Ent.rows]
def QzL (e : Option Ent) (n : Nat) (i : Int) (p : AV) (k : AV → Option β) (_ : Lk k) : Option β := match e with | some _ => Vb (QtA n i) (k p) () | none => none
theorem QDX (K e n m j r o kd i l) : Qos K (.arr n e m) (.ptr j r o) (.i kd i) k l = QzL (kg K j) n i (.ptr j r (o + i.toNat * m)) k () := _root_.id rfl
theorem QDi (e n i p l) : QzL (some e) n i p k l = Vb (QtA n i) (k p) () := _root_.id rfl
theorem QCt (e m r h c l) : Qgn (.sl e m) (.imm m r) none (some (.i c h)) k l = Vb (slB 0 h (lnR r)) (k (.imm m (cut r 0 h))) () := by simp [Qgn, bd, lnR]
theorem QDS (e m r h c l) : Qgn (.sl e m) (.imm m r) (some (.i c h)) none k l = Vb (slB h (lnR r) (lnR r)) (k (.imm m (cut r h (lnR r)))) () := by simp [Qgn, bd, lnR]
theorem QDU (e m r h h' c c' l) : Qgn (.sl e m) (.imm m r) (some (.i c h)) (some (.i c' h')) k l = Vb (slB h h' (lnR r)) (k (.imm m (cut r h h'))) () := by simp [Qgn, bd, lnR]
theorem QDm (r h c l) : Qgn .str (.s r) none (some (.i c h)) k l = Vb (slB 0 h (ln r)) (k (.s (cut r 0 h))) () := by simp [Qgn, bd, ln]
theorem QD7 (r h c l) : Qgn .str (.s r) (some (.i c h)) none k l = Vb (slB h (ln r) (ln r)) (k (.s (cut r h (ln r)))) () := by simp [Qgn, bd, ln]
theorem QDE (r h h' c c' l) : Qgn .str (.s r) (some (.i c h)) (some (.i c' h')) k l = Vb (slB h h' (ln r)) (k (.s (cut r h h'))) () := by simp [Qgn, bd, ln]
theorem QFn (r i c l) : QuG .str (.s r) (.i c i) k l = Vb (inb r i) (k (.i .u8 ((gt r i).toNat : Int))) () := _root_.id rfl
class Strs (cs : List AV) (xs : outParam (List (List UInt8))) : Prop where
 eq : cs = xs.map AV.s
instance : Strs [] [] := ⟨rfl⟩
instance (x cs xs) [h : Strs cs xs] : Strs (.s x :: cs) (x :: xs) := ⟨by rw [h.eq]; rfl⟩
theorem QBs {cs : List AV} {xs : List (List UInt8)} [h : Strs cs xs] (i : Int) (hi : QtA cs.length i = true) (l) : Qgy .one (cs.drop (0 + i.toNat * 1)) k l = k (.s (gt xs i)) := by
 have hcs := h.eq
 subst hcs
 simp [QtA] at hi
 have h2 : i.toNat < xs.length := by omega
 rw [Nat.zero_add, Nat.mul_one, List.drop_eq_getElem_cons (by simpa using h2)]
 simp [Qgy, gt, List.getD_eq_getElem?_getD, h2]
theorem QLH (K n r i o) : X4 K (.iptr n r i o) = ((QC r i).drop o).map ld := _root_.id rfl
def Qqf (e : Option Ent) (i o : Nat) : List AV := match e with | some (.box cs) => if i = 0 then cs.drop o else [] | some (.lst _ rows) => ((QC rows i).drop o).map ld | none => []
theorem m_c (K j i o) : X4 K (.ptr j i o) = Qqf (kg K j) i o := _root_.id rfl
theorem QDN (cs o) : Qqf (some (.box cs)) 0 o = cs.drop o := _root_.id rfl
theorem QDr (n r i o) : Qqf (some (.lst n r)) i o = ((QC r i).drop o).map ld := _root_.id rfl
theorem QDL {α γ : Type} (g : α → γ) : [].map g = [] := _root_.id rfl
theorem QA6 {α γ : Type} (g : α → γ) (x l) : (x :: l).map g = g x :: l.map g := _root_.id rfl
theorem QHj (x) : ld (.b x) = .b x := _root_.id rfl
theorem QIt (c x) : ld (.i c x) = .i c x := _root_.id rfl
theorem QFx (x) : ld (.s x) = .s x := _root_.id rfl
theorem QyT (n x) : ld (.imm n x) = .imm n x := _root_.id rfl
theorem QzD : ld .nil = .nil := _root_.id rfl
theorem QzC (n x) : ld (.own n x) = .u := _root_.id rfl
theorem QxS (c cs l) : Qgy .one (c :: cs) k l = k c := _root_.id rfl
def Qvg (b : Bool) (v : AV) (k : AV → Option β) (_ : Lk k) : Option β := cond b (k v) none
theorem Qxb (m cs l) : Qgy (.agg m) cs k l = Qvg (Nat.blt 0 m && Nat.ble m cs.length) (.agg (cs.take m)) k () :=
 QbM (by simp only [Bool.and_eq_true, Qj7, QhT]) _ _
theorem QxQ (v l) : Qvg true v k l = k v := _root_.id rfl
theorem Qxq (K cs) (k : AV → KS → Option β) (l) : Qkz K (some cs) k l = VY (K ++ [some (.box cs)]) (fun K' => k (.ptr K.length 0 0) K') () := _root_.id rfl
def okB (b : Bool) (x : Option β) (_ : Lk x) : Option β := cond b x none
theorem QMH (x : Option β) (l) : okB true x l = x := _root_.id rfl
theorem QBN (K cs) (k : AV → KS → Option β) (l) : QqU K (.agg cs) k l = okB (cs.all (Zm K)) (VY (K ++ [some (.box cs)]) (fun K' => k (.ptr K.length 0 0) K') ()) () := by
 simp only [QqU, okB]; cases cs.all (Zm K) <;> rfl
theorem QCw (K c x) (k : AV → KS → Option β) (l) : QqU K (.i c x) k l = VY (K ++ [some (.box [.i c x])]) (fun K' => k (.ptr K.length 0 0) K') () := _root_.id rfl
theorem QB9 {α : Type} (p : α → Bool) : [].all p = true := _root_.id rfl
theorem QDK {α : Type} (p : α → Bool) (x l) : (x :: l).all p = (p x && l.all p) := _root_.id rfl
theorem QGk (K x) : Zm K (.b x) = true := _root_.id rfl
theorem QH3 (K c x) : Zm K (.i c x) = true := _root_.id rfl
theorem QFT (K x) : Zm K (.s x) = true := _root_.id rfl
theorem QK3 (K) : Zm K .nil = true := _root_.id rfl
theorem QxB (K n r) : Zm K (.imm n r) = true := _root_.id rfl
theorem QxH (K n r) : Zm K (.clo n r) = true := _root_.id rfl
theorem QDf (K j) : Zm K (.sl j) = (kg K j).isSome := _root_.id rfl
theorem QxY (K j i o) : Zm K (.ptr j i o) = (kg K j).isSome := _root_.id rfl
theorem QNd {α : Type} (x : α) : (some x).isSome = true := _root_.id rfl
theorem QI4 (x) : AV.closed (.b x) = true := _root_.id rfl
theorem QEC (c x) : AV.closed (.i c x) = true := _root_.id rfl
theorem QEI (x) : AV.closed (.s x) = true := _root_.id rfl
theorem QGr : AV.closed .nil = true := _root_.id rfl
theorem Qxe (n r) : AV.closed (.imm n r) = true := _root_.id rfl
theorem QCB (x : Bool) : (false && x) = false := _root_.id rfl
theorem QKp (x : Bool) : (true && x) = x := _root_.id rfl
def QfY (fl : Bool) (ns : List Nat) (K : KS) (e : Option Ent) (t : TK) (j i o : Nat) (v : AV) (k : KS → Option β) (_ : Lk k) : Option β :=
 match e with
  | some (.box cs) => if i = 0 then Qgm cs o t v (Zm K) (fun cs => VY (K.set j (some (.box cs))) k ()) () else none
  | some (.lst n rows) => if (ZG v).all clq = true then (if i < rows.length then Qgm (QC rows i) o t v AV.closed (fun r => VY (K.set j (some (.lst n (rows.set i r)))) k ()) () else none) else if fl = false then Qih ns K t j i o n rows v k () else none
  | none => none
theorem Qy6 (fl ns K t j i o v) (k : KS → Option β) (l) : Qh0 fl ns K t (.ptr j i o) v k l = QfY fl ns K (kg K j) t j i o v k () := by
 show (match kg K j with | some (.lst n rows) => _ | _ => _) = _
 cases h : kg K j with
 | none => simp [QfY, QiM, h]
 | some e => cases e <;> simp [QfY, QiM, h]
theorem QwK (fl ns K cs t j o v) (k : KS → Option β) (l) : QfY fl ns K (some (.box cs)) t j 0 o v k l = Qgm cs o t v (Zm K) (fun cs => VY (K.set j (some (.box cs))) k ()) () := _root_.id rfl
def QjR (b fl : Bool) (ns : List Nat) (K : KS) (n : Nat) (r : List (List AV)) (t : TK) (j i o : Nat) (v : AV) (k : KS → Option β) (_ : Lk k) : Option β :=
 cond b (if i < r.length then Qgm (QC r i) o t v AV.closed (fun r' => VY (K.set j (some (.lst n (r.set i r')))) k ()) () else none) (if fl = false then Qih ns K t j i o n r v k () else none)
theorem Qv7 (fl ns K n r t j i o v) (k : KS → Option β) (l) : QfY fl ns K (some (.lst n r)) t j i o v k l = QjR ((ZG v).all clq) fl ns K n r t j i o v k () := by
 simp only [QfY, QjR]
 cases (ZG v).all clq <;> rfl
theorem QEU (ds) : ZG (.agg ds) = ds := _root_.id rfl
theorem QKV (c x) : ZG (.i c x) = [.i c x] := _root_.id rfl
theorem QKi (x) : ZG (.b x) = [.b x] := _root_.id rfl
theorem QFN (x) : ZG (.s x) = [.s x] := _root_.id rfl
theorem QFc : ZG .nil = [.nil] := _root_.id rfl
theorem QKA (n r) : ZG (.imm n r) = [.imm n r] := _root_.id rfl
theorem QFe (j) : ZG (.sl j) = [.sl j] := _root_.id rfl
theorem QDG (j) : clq (.sl j) = false := _root_.id rfl
theorem QJD (x) : clq (.b x) = true := _root_.id rfl
theorem QKf (c x) : clq (.i c x) = true := _root_.id rfl
theorem QGI (x) : clq (.s x) = true := _root_.id rfl
theorem QJm : clq .nil = false := _root_.id rfl
theorem QE1 (n r) : clq (.imm n r) = true := _root_.id rfl
theorem QPl (cs) : nz [] cs = cs := by cases cs <;> rfl
theorem QMQ (ns) : nz ns [] = [] := by cases ns <;> rfl
theorem QOL (n ns c cs) : nz (n :: ns) (c :: cs) = nzc n c :: nz ns cs := _root_.id rfl
theorem QMm (n x) : nzc n (.b x) = .b x := _root_.id rfl
theorem QMG (n c x) : nzc n (.i c x) = .i c x := _root_.id rfl
theorem QPH (n x) : nzc n (.s x) = .s x := _root_.id rfl
theorem QPg (n) : nzc n .nil = .own n [] := _root_.id rfl
theorem QPs (n m r) : nzc n (.own m r) = .own m r := _root_.id rfl
theorem QNJ (n m r) : nzc n (.imm m r) = .imm m r := _root_.id rfl
theorem QM8 (k v) : QmQ (.z k) v = nzc k v := _root_.id rfl
theorem QNM (v) : QmQ .n v = v := _root_.id rfl
theorem QNY (ns cs) : QmQ (.a ns) (.agg cs) = .agg (nz ns cs) := _root_.id rfl
theorem QLG (v) : QlS [] v = v := _root_.id rfl
theorem QN8 (s v) : QlS [s] v = QmQ s v := _root_.id rfl
theorem QOi (s s' ss vs) : QlS (s :: s' :: ss) (.tup vs) = .tup (Qpg (s :: s' :: ss) vs) := _root_.id rfl
theorem QOm (s ss v vs) : Qpg (s :: ss) (v :: vs) = QmQ s v :: Qpg ss vs := _root_.id rfl
theorem QFP (vs) : Qpg [] vs = vs := _root_.id rfl
theorem QJZ (m ds l) : QmP (.agg m) (.agg ds) l = (m == l) := _root_.id rfl
theorem QLm (j l) : QmP .one (.sl j) l = (l == 1) := _root_.id rfl
def QrP (ns : List Nat) (K : KS) (a : Option (KS × List AV)) (t : TK) (j o n i : Nat) (r : List (List AV)) (v : AV) (k : KS → Option β) (_ : Lk k) : Option β :=
 match a with
  | some (K1, ds) => if (kg K1 j).isSome = true ∧ QmP t v ds.length = true ∧ o + ds.length ≤ (QC r i).length then VY (K1.set j (some (.lst n (r.set i (putCells (QC r i) o (nz ns ds)))))) k () else none
  | none => none
theorem QLR (ns K K1 ds t j o n i r v) (k : KS → Option β) (l) : QrP ns K (some (K1, ds)) t j o n i r v k l = okB ((kg K1 j).isSome && (QmP t v ds.length && Nat.ble (o + ds.length) (QC r i).length)) (VY (K1.set j (some (.lst n (r.set i (putCells (QC r i) o (nz ns ds)))))) k ()) () :=
 QbM (by simp only [Bool.and_eq_true, QhT]) _ _
def QlN (r : List (List AV)) (i : Nat) : Bool := Nat.blt i r.length
theorem w_n (D : Orc) (f : Fr) (K : KS) (j i o q r v m rs) (k : AV → KS → Option β) (l) : onr D f K j i o q r (v, [some (.lst m rs)]) k l = Vb (v.flat && QlN r i) (VY (K.set j (some (.lst q (r.set i (putCells (QC r i) o [.own m rs])))) ++ [none]) (fun K' => k v K') ()) () := _root_.id rfl
theorem QA9 (x r) : QlN (x :: r) 0 = true := by simp [QlN, Nat.blt_eq]
theorem QBO (x r i) : QlN (x :: r) (i + 1) = QlN r i := by
 unfold QlN; rw [Bool.eq_iff_iff, Nat.blt_eq, Nat.blt_eq]; simp
theorem QDV (fl ns K n r t j i o v) (k : KS → Option β) (l) : QjR true fl ns K n r t j i o v k l = okB (QlN r i) (Qgm (QC r i) o t v AV.closed (fun r' => VY (K.set j (some (.lst n (r.set i r')))) k ()) ()) () :=
 QbM Qj7 _ _
theorem QA1 (ns K n r t j i o v) (k : KS → Option β) (l) : QjR false false ns K n r t j i o v k l = okB (QlN r i) (QrP ns K (Vh K (ZG v)) t j o n i r v k ()) () :=
 QbM Qj7 _ _
theorem QBY (cs o m ds ok) (k : List AV → Option β) (l) : Qgm cs o (.agg m) (.agg ds) ok k l = okB ((m == ds.length) && (Nat.ble (o + m) cs.length && ds.all ok)) (k (putCells cs o ds)) () :=
 QbM (by simp only [Bool.and_eq_true, beq_iff_eq, QhT]) _ _
theorem Qs8 (cs : List AV) (o : Nat) (v : AV) (ok : AV → Bool) (k : List AV → Option β) : (if o < cs.length ∧ ok v = true then k (cs.set o v) else none) = okB (Nat.blt o cs.length && ok v) (k (cs.set o v)) () :=
 QbM (by simp only [Bool.and_eq_true, Qj7]) _ _
theorem QDF (cs o x ok) (k : List AV → Option β) (l) : Qgm cs o .one (.b x) ok k l = okB (Nat.blt o cs.length && ok (.b x)) (k (cs.set o (.b x))) () := Qs8 ..
theorem QAT (cs o c x ok) (k : List AV → Option β) (l) : Qgm cs o .one (.i c x) ok k l = okB (Nat.blt o cs.length && ok (.i c x)) (k (cs.set o (.i c x))) () := Qs8 ..
theorem QCz (cs o x ok) (k : List AV → Option β) (l) : Qgm cs o .one (.s x) ok k l = okB (Nat.blt o cs.length && ok (.s x)) (k (cs.set o (.s x))) () := Qs8 ..
theorem QA0 (cs o ok) (k : List AV → Option β) (l) : Qgm cs o .one .nil ok k l = okB (Nat.blt o cs.length && ok .nil) (k (cs.set o .nil)) () := Qs8 ..
theorem QyM (cs o j ok) (k : List AV → Option β) (l) : Qgm cs o .one (.sl j) ok k l = okB (Nat.blt o cs.length && ok (.sl j)) (k (cs.set o (.sl j))) () := Qs8 ..
theorem Qwl (cs o n r ok) (k : List AV → Option β) (l) : Qgm cs o .one (.imm n r) ok k l = okB (Nat.blt o cs.length && ok (.imm n r)) (k (cs.set o (.imm n r))) () := Qs8 ..
theorem QPq (cs o ds) : putCells cs o ds = cs.take o ++ ds ++ cs.drop (o + ds.length) := _root_.id rfl
theorem QCZ (P z nr S rs f K) : Qjl P z nr S rs .normal f K = QlA P z S rs nr f K () := _root_.id rfl
theorem QDA (P z nr S rs f K) : Qjl P z nr S rs .ret f K = QlA P z S rs nr f K () := _root_.id rfl
theorem QGJ (P z S rs f K l) : QlA P z S rs none f K l = X9 (QbB f K P rs) (fun vs => Vb (rok (tkl z K).length (Qex vs) && (QgQ (tkl z K) && Nat.ble z.length (tkl z K).length)) (some (Qex vs, tkl z K)) ()) () := _root_.id rfl
theorem QGV (P z S rs r f K l) : QlA P z S rs (some r) f K l = X9 (QbB f K P rs) (fun vs => Qdi z [S] r (up f S (Qex vs)) K (fun f K => QiY (f S) (fun v => Vb (rok K.length v && (QgQ K && Nat.ble z.length K.length)) (some (v, K)) ()) ()) ()) () := _root_.id rfl
theorem QFK {α : Type} : (none : Option α).isSome = false := _root_.id rfl
theorem QIu {α : Type} (x : α) : (some x).isSome = true := _root_.id rfl
theorem QJO (K) : tkl [] K = [] := by cases K <;> rfl
theorem QIC (x z e K) : tkl (x :: z) (e :: K) = e :: tkl z K := _root_.id rfl
theorem Qzm (P sh rs f K) : QgU P sh rs .normal f K = X9 (QbB f K P rs) (fun vs => (Qa9 K (Qex vs)).map fun p => QlS sh p.2) () := _root_.id rfl
theorem Qy4 (P sh rs f K) : QgU P sh rs .ret f K = X9 (QbB f K P rs) (fun vs => (Qa9 K (Qex vs)).map fun p => QlS sh p.2) () := _root_.id rfl
theorem QJt (f K P) : QbB f K P [] = some [] := _root_.id rfl
theorem QGc (f K P t rs) : QbB f K P (.tmp t :: rs) = (QbB f K P rs).map (f t :: ·) := _root_.id rfl
theorem QAX (f K P x t rs) : QbB f K P (.cell x t :: rs) = X9 (Qgy (tk P t) (X4 K (f x)) some ()) (fun v => (QbB f K P rs).map (v :: ·)) () := _root_.id rfl
theorem QkW {α γ : Type} (g : α → γ) (x : α) : (some x).map g = some (g x) := _root_.id rfl
theorem Qqv {α γ : Type} (g : α → γ) : (none : Option α).map g = none := _root_.id rfl
theorem QGB (v) : Qex [v] = v := _root_.id rfl
theorem QJ9 (v w vs) : Qex (v :: w :: vs) = .tup (v :: w :: vs) := _root_.id rfl
theorem QBh : Qex [] = .tup [] := _root_.id rfl
theorem x_b (K x) : Qa9 K (.b x) = some (K, .b x) := _root_.id rfl
theorem x_i (K c x) : Qa9 K (.i c x) = some (K, .i c x) := _root_.id rfl
theorem x_s (K x) : Qa9 K (.s x) = some (K, .s x) := _root_.id rfl
theorem QLy (K) : Qa9 K .nil = some (K, .nil) := _root_.id rfl
theorem QLs (K n r) : Qa9 K (.imm n r) = none := by simp [Qa9]
theorem QEJ (K cs) : Qa9 K (.agg cs) = (Qdw K cs).map fun p => (p.1, .agg p.2) := by simp [Qa9]
theorem QFU (K cs) : Qa9 K (.tup cs) = (Qdw K cs).map fun p => (p.1, .tup p.2) := by simp [Qa9]
def QzZ (K : KS) (e : Option Ent) (j : Nat) : Option (KS × AV) := match e with | some (.lst n rows) => if Q1 rows = true then some (K.set j none, .own n rows) else none | _ => none
theorem QNj (K j) : Qa9 K (.sl j) = QzZ K (kg K j) j := by rw [Qa9]; rfl
theorem QEP (K n r j) : QzZ K (some (.lst n r)) j = cond (Q1 r) (some (K.set j none, .own n r)) none := QbM Iff.rfl _ _
theorem QBb (K) : Qdw K [] = some (K, []) := by simp [Qdw]
def QqP (e : Option (KS × AV)) (cs : List AV) : Option (KS × List AV) := match e with | some (K1, c') => (Qdw K1 cs).map fun p => (p.1, c' :: p.2) | none => none
theorem Qx5 (K c cs) : Qdw K (c :: cs) = QqP (Qa9 K c) cs := by rw [Qdw]; rfl
theorem QLS (K c cs) : QqP (some (K, c)) cs = (Qdw K cs).map fun p => (p.1, c :: p.2) := _root_.id rfl
theorem QOk (cs) : QqP none cs = none := _root_.id rfl
theorem QC8 (z sl rg f K) (k : Fr → KS → Option β) (l) : Qdi z sl rg f K k l = Vt rg f K [] (fun f K π => Vb (ndB π) (onz z π (VY (QyK K π) (fun K' => k (Qza f π sl) K') ()) ()) ()) () := _root_.id rfl
theorem QHw (π) (q : Option β) (l) : onz [] π q l = q := _root_.id rfl
theorem QJq (x z π) (q : Option β) (l) : onz (x :: z) π q l = Vb (pfx (x :: z) π) q () := _root_.id rfl
theorem QNq (π) : pfx [] π = true := _root_.id rfl
theorem QOv (x z y π) : pfx (x :: z) (y :: π) = ((x == y) && pfx z π) := by rw [← QiQ]; rfl
theorem QL3 (x : Nat) : ([] : List Nat).contains x = false := _root_.id rfl
theorem QOU (x y : Nat) (l : List Nat) : (y :: l).contains x = ((x == y) || l.contains x) := List.contains_cons
theorem QM2 (b : Bool) : (false || b) = b := by cases b <;> rfl
theorem QPP (b : Bool) : (true || b) = true := by cases b <;> rfl
theorem QAI (f K π) (k : Fr → KS → List Nat → Option β) (l) : Vt [] f K π k l = k f K π := _root_.id rfl
theorem n_r (i r f K π) (k : Fr → KS → List Nat → Option β) (l) : Vt (.r i :: r) f K π k l = Vt r f K (π ++ [i]) k () := _root_.id rfl
def QkJ (v : AV) (t n : Nat) (r : List Pt) (f : Fr) (K : KS) (π : List Nat) (k : Fr → KS → List Nat → Option β) (_ : Lk (f, k)) : Option β := match v with
  | .sl j => Vt r f K (π ++ [j]) k ()
  | .ptr j _ _ => Vt r f K (π ++ [j]) k ()
  | .nil => Vt r (up f t (.sl K.length)) (K ++ [some (.lst n [])]) (π ++ [K.length]) k ()
  | _ => none
theorem n_s (t n r f K π) (k : Fr → KS → List Nat → Option β) (l) : Vt (.s t n :: r) f K π k l = QkJ (f t) t n r f K π k () := by simp only [Vt, QkJ]; rfl
theorem QFf (j t n r f K π) (k : Fr → KS → List Nat → Option β) (l) : QkJ (.sl j) t n r f K π k l = Vt r f K (π ++ [j]) k () := _root_.id rfl
theorem QDR (j i o t n r f K π) (k : Fr → KS → List Nat → Option β) (l) : QkJ (.ptr j i o) t n r f K π k l = Vt r f K (π ++ [j]) k () := _root_.id rfl
theorem QCH (t n r f K π) (k : Fr → KS → List Nat → Option β) (l) : QkJ .nil t n r f K π k l = Vt r (up f t (.sl K.length)) (K ++ [some (.lst n [])]) (π ++ [K.length]) k () := _root_.id rfl
def Qka (c : Option AV) (r : List Pt) (f : Fr) (K : KS) (π : List Nat) (k : Fr → KS → List Nat → Option β) (_ : Lk (f, k)) : Option β := match c with
  | some (.sl i) => Vt r f K (π ++ [i]) k ()
  | some (.ptr i _ _) => Vt r f K (π ++ [i]) k ()
  | _ => none
def Qny (e : Option Ent) (o : Nat) (r : List Pt) (f : Fr) (K : KS) (π : List Nat) (k : Fr → KS → List Nat → Option β) (_ : Lk (f, k)) : Option β := match e with
  | some (.box cs) => Qka (cs[o]?) r f K π k ()
  | _ => none
def QpX (q : Option Nat) (o : Nat) (r : List Pt) (f : Fr) (K : KS) (π : List Nat) (k : Fr → KS → List Nat → Option β) (_ : Lk (f, k)) : Option β := match q with
  | some j => Qny (kg K j) o r f K π k ()
  | none => none
theorem n_c (q o n r f K π) (k : Fr → KS → List Nat → Option β) (l) : Vt (.c q o n :: r) f K π k l = QpX (π[q]?) o r f K π k () := by
 simp only [Vt, QpX, Qny, Qka]
 cases π[q]? with
 | none => rfl
 | some j =>
  simp only
  cases kg K j with
  | none => rfl
  | some e =>
   cases e with
   | box cs =>
    simp only
    cases cs[o]? with
    | none => rfl
    | some c => cases c <;> rfl
   | lst _ _ => rfl
theorem QHL (j o r f K π) (k : Fr → KS → List Nat → Option β) (l) : QpX (some j) o r f K π k l = Qny (kg K j) o r f K π k () := _root_.id rfl
theorem QG5 (cs o r f K π) (k : Fr → KS → List Nat → Option β) (l) : Qny (some (.box cs)) o r f K π k l = Qka (cs[o]?) r f K π k () := _root_.id rfl
theorem QFQ (i r f K π) (k : Fr → KS → List Nat → Option β) (l) : Qka (some (.sl i)) r f K π k l = Vt r f K (π ++ [i]) k () := _root_.id rfl
theorem QHA (i a b r f K π) (k : Fr → KS → List Nat → Option β) (l) : Qka (some (.ptr i a b)) r f K π k l = Vt r f K (π ++ [i]) k () := _root_.id rfl
def Qli (c : Option AV) (cs : List AV) (t o n : Nat) (r : List Pt) (f : Fr) (K : KS) (π : List Nat) (k : Fr → KS → List Nat → Option β) (_ : Lk (f, k)) : Option β := match c with
  | some (.sl j) => Vt r f K (π ++ [j]) k ()
  | some .nil => Vt r (up f t (.agg (cs.set o (.sl K.length)))) (K ++ [some (.lst n [])]) (π ++ [K.length]) k ()
  | _ => none
def Qqm (v : AV) (t o n : Nat) (r : List Pt) (f : Fr) (K : KS) (π : List Nat) (k : Fr → KS → List Nat → Option β) (_ : Lk (f, k)) : Option β := match v with
  | .agg cs => Qli (cs[o]?) cs t o n r f K π k ()
  | _ => none
theorem n_g (t o n r f K π) (k : Fr → KS → List Nat → Option β) (l) : Vt (.g t o n :: r) f K π k l = Qqm (f t) t o n r f K π k () := by
 simp only [Vt, Qqm, Qli]
 cases f t with
 | agg cs =>
  simp only
  cases cs[o]? with
  | none => rfl
  | some c => cases c <;> rfl
 | _ => rfl
theorem QFF (cs t o n r f K π) (k : Fr → KS → List Nat → Option β) (l) : Qqm (.agg cs) t o n r f K π k l = Qli (cs[o]?) cs t o n r f K π k () := _root_.id rfl
theorem QIx (j cs t o n r f K π) (k : Fr → KS → List Nat → Option β) (l) : Qli (some (.sl j)) cs t o n r f K π k l = Vt r f K (π ++ [j]) k () := _root_.id rfl
theorem QKc (cs t o n r f K π) (k : Fr → KS → List Nat → Option β) (l) : Qli (some .nil) cs t o n r f K π k l = Vt r (up f t (.agg (cs.set o (.sl K.length)))) (K ++ [some (.lst n [])]) (π ++ [K.length]) k () := _root_.id rfl
theorem QHI : ndB [] = true := _root_.id rfl
theorem QIn (x l) : ndB (x :: l) = (!l.contains x && ndB l) := _root_.id rfl
def krn (K : KS) (π : List Nat) (l : List Nat) : KS := l.map fun j => (kg K j).map (Qg6 π)
theorem QNQ (K π) : QyK K π = krn K π π := _root_.id rfl
theorem QAO (K π) : krn K π [] = [] := _root_.id rfl
theorem QEs (K π j l) : krn K π (j :: l) = (kg K j).map (Qg6 π) :: krn K π l := _root_.id rfl
theorem QKK (π cs) : Qg6 π (.box cs) = .box (Qdb π cs) := _root_.id rfl
theorem QFR (π n r) : Qg6 π (.lst n r) = .lst n r := _root_.id rfl
theorem QHE (π) : Qdb π [] = [] := by simp [Qdb]
theorem QHX (π c cs) : Qdb π (c :: cs) = ren π c :: Qdb π cs := by simp [Qdb]
def slO : Option Nat → AV | some i => .sl i | none => .u
def QDp (i o : Nat) : Option Nat → AV | some j => .ptr j i o | none => .u
theorem QGW (i) : slO (some i) = .sl i := _root_.id rfl
theorem QIO : slO none = .u := _root_.id rfl
theorem QB4 (i o j) : QDp i o (some j) = .ptr j i o := _root_.id rfl
theorem QBk (i o) : QDp i o none = .u := _root_.id rfl
theorem QCy (π j) : ren π (.sl j) = slO (Qju π j) := by simp only [ren]; rfl
theorem Qxg (π j i o) : ren π (.ptr j i o) = QDp i o (Qju π j) := by simp only [ren]; rfl
theorem Qxo (π cs) : ren π (.agg cs) = .agg (Qdb π cs) := by simp [ren]
theorem Qye (π cs) : ren π (.tup cs) = .tup (Qdb π cs) := by simp [ren]
theorem Qxx (π g cs) : ren π (.clo g cs) = .clo g (Qdb π cs) := by simp [ren]
theorem QCd (π x) : ren π (.b x) = .b x := by simp [ren]
theorem QLl (π c x) : ren π (.i c x) = .i c x := by simp [ren]
theorem QID (π x) : ren π (.s x) = .s x := by simp [ren]
theorem QKY (π) : ren π .nil = .nil := by simp [ren]
theorem QFL (π) : ren π .u = .u := by simp [ren]
theorem Qxp (π n r) : ren π (.imm n r) = .imm n r := by simp [ren]
theorem Qun (π n r i o) : ren π (.iptr n r i o) = .iptr n r i o := by simp [ren]
theorem QA7 (j) : Qju [] j = none := _root_.id rfl
theorem QDa (x l j) : Qju (x :: l) j = sel (x == j) (some 0) ((Qju l j).map (· + 1)) () := by
 rw [Qju]; exact QbM (by simp) _ _
theorem QBJ (f π l) : Qza f π l = frm (frl f π l) := _root_.id rfl
theorem QBx (f π) : frl f π [] = [] := _root_.id rfl
theorem QDl (f π t l) : frl f π (t :: l) = (t, ren π (f t)) :: frl f π l := _root_.id rfl
theorem QL1 (z la rt f K) : Qfv z la rt .normal f K = Qdi z la.sl la.rg f K (fun f K => some (.inl (f, K))) () := _root_.id rfl
theorem QOz (z la rt f K) : Qfv z la rt .ret f K = Qdi z rt.sl rt.rg f K (fun f K => some (.inr (.ret, f, K))) () := _root_.id rfl
theorem QMY (z la rt i f K) : Qfv z la rt (.exit i) f K = Qdi z la.xs la.xr f K (fun f K => some (.inr (.exit i, f, K))) () := _root_.id rfl
theorem QFq (t x y) : QH t (.seq x y) = (QH t x).or (QH t y) := _root_.id rfl
theorem QEd (t c x y) : QH t (.cond c x y) = (QH t x).or (QH t y) := _root_.id rfl
theorem Qy8 (t i x) : QH t (.block i x) = QH t x := _root_.id rfl
theorem QCX (t x) : QH t (.loop x) = sel (tag x == t) (some x) (QH t x) () := _root_.id rfl
theorem Qum (t i o d) : QH t (.region i o d) = none := _root_.id rfl
theorem QEp (t) : QH t .skip = none := _root_.id rfl
theorem QJ5 (t) : QH t .ret = none := _root_.id rfl
theorem QB0 (t i) : QH t (.exit i) = none := _root_.id rfl
theorem QAH (x : Option Code) : (none : Option Code).or x = x := by cases x <;> rfl
theorem QzQ (x : Code) (y : Option Code) : (some x).or y = some x := _root_.id rfl
theorem l_0 (K) : Qb6 K [] = [] := by simp [Qb6]
theorem l_s (K c cs) : Qb6 K (c :: cs) = Qaa K c :: Qb6 K cs := by simp [Qb6]
def QvG (e : Option Ent) : AV := match e with | some (.lst n rows) => .imm n (Qs rows) | _ => .u
theorem QOE (K j) : Qaa K (.sl j) = QvG (kg K j) := by simp only [Qaa]; rfl
theorem QH2 (n r) : QvG (some (.lst n r)) = .imm n (Qs r) := _root_.id rfl
theorem QG8 (K j) : Qmu K j = QvG (kg K j) := _root_.id rfl
def Qq3 (K : KS) (e : Option Ent) (i o : Nat) : AV := match e with
 | some (.lst n rows) => .iptr n (Qs rows) i o
 | some (.box cs) => .iptr cs.length [cs.map (QeO K)] i o
 | none => .u
theorem QKT (K j i o) : Qaa K (.ptr j i o) = Qq3 K (kg K j) i o := by simp only [Qaa]; rfl
theorem QBI (K cs i o) : Qq3 K (some (.box cs)) i o = .iptr cs.length [cs.map (QeO K)] i o := _root_.id rfl
theorem QDh (K n r i o) : Qq3 K (some (.lst n r)) i o = .iptr n (Qs r) i o := _root_.id rfl
theorem QBz (K n r i o) : Qaa K (.iptr n r i o) = .iptr n r i o := by simp [Qaa]
theorem QHP (K j) : QeO K (.sl j) = Qmu K j := _root_.id rfl
theorem QNR (K x) : QeO K (.b x) = .b x := _root_.id rfl
theorem QPm (K c x) : QeO K (.i c x) = .i c x := _root_.id rfl
theorem QNm (K x) : QeO K (.s x) = .s x := _root_.id rfl
theorem QPw (K) : QeO K .nil = .nil := _root_.id rfl
theorem QLF (K n r) : QeO K (.imm n r) = .imm n r := _root_.id rfl
theorem QDn (r : List AV) (rs) : QC (r :: rs) 0 = r := _root_.id rfl
theorem QIE (K cs) : Qaa K (.agg cs) = .agg (Qb6 K cs) := by simp [Qaa]
theorem QIr (K cs) : Qaa K (.tup cs) = .tup (Qb6 K cs) := by simp [Qaa]
theorem QKE (K g cs) : Qaa K (.clo g cs) = .clo g (Qb6 K cs) := by simp [Qaa]
theorem l_b (K x) : Qaa K (.b x) = .b x := by simp [Qaa]
theorem l_i (K c x) : Qaa K (.i c x) = .i c x := by simp [Qaa]
theorem QMa (K x) : Qaa K (.s x) = .s x := by simp [Qaa]
theorem l_n (K) : Qaa K .nil = .nil := by simp [Qaa]
theorem QFh (K n r) : Qaa K (.imm n r) = .imm n r := by simp [Qaa]
theorem Qzp : Qs [] = [] := by simp [Qs]
theorem QxV (r rs) : Qs (r :: rs) = Vn r :: Qs rs := by simp [Qs]
theorem QCu : Vn [] = [] := by simp [Vn]
theorem QDg (c cs) : Vn (c :: cs) = V6 c :: Vn cs := by simp [Vn]
theorem QLQ (x) : V6 (.b x) = .b x := by simp [V6]
theorem QMd (c x) : V6 (.i c x) = .i c x := by simp [V6]
theorem QMo (x) : V6 (.s x) = .s x := by simp [V6]
theorem QOF : V6 .nil = .nil := by simp [V6]
theorem QB5 (n r) : V6 (.imm n r) = .imm n r := by simp [V6]
theorem QA3 (n r) : V6 (.own n r) = .imm n (Qs r) := by simp [V6]
theorem QGa (m n r) : Vv m (.own n r) = (.sl m, [some (.lst n r)]) := by simp [Vv]
theorem QJg (m cs) : Vv m (.agg cs) = (.agg (QaZ m cs).1, (QaZ m cs).2) := by simp [Vv]
theorem QE7 (m cs) : Vv m (.tup cs) = (.tup (QaZ m cs).1, (QaZ m cs).2) := by simp [Vv]
theorem i_b (m x) : Vv m (.b x) = (.b x, []) := by simp [Vv]
theorem i_i (m c x) : Vv m (.i c x) = (.i c x, []) := by simp [Vv]
theorem QLM (m x) : Vv m (.s x) = (.s x, []) := by simp [Vv]
theorem i_n (m) : Vv m .nil = (.nil, []) := by simp [Vv]
theorem QMP (m) : QaZ m [] = ([], []) := by simp [QaZ]
theorem QPF (m c cs) : QaZ m (c :: cs) = ((Vv m c).1 :: (QaZ (m + (Vv m c).2.length) cs).1, (Vv m c).2 ++ (QaZ (m + (Vv m c).2.length) cs).2) := by simp [QaZ]
theorem QAl {α γ : Type} (x : α) (y : γ) : (x, y).1 = x := _root_.id rfl
theorem QHo {α γ : Type} (x : α) (y : γ) : (x, y).2 = y := _root_.id rfl
def QnJ (e : Option (List AV)) (k : AV → Option β) (_ : Lk k) : Option β := match e with | some cs => k (.agg cs) | none => none
theorem QKW (K z p ps l) : Qiq K (.st z p) ps k l = QnJ (Z9 K (p[·]?) z ps) k () := _root_.id rfl
theorem QBM (K z m ps l) : Qiq K (.arr z m) ps k l = QnJ (Z9 K (fun i => some (i * m, m)) z ps) k () := _root_.id rfl
theorem QJW (cs l) : QnJ (some cs) k l = k (.agg cs) := _root_.id rfl
def QAt (fl : Bool) (ns : List Nat) (e : Option (List AV)) (K : KS) (len m : Nat) (k : AV → KS → Option β) (_ : Lk k) : Option β := match e with
  | some cs => cond (yB fl cs) (match Vh K cs with
   | some (K1, cs) => VY (K1 ++ [some (.lst m ((Qaw m len cs).map (nz ns)))]) (fun K' => k (.sl K.length) K') ()
   | none => none) none
  | none => none
theorem QN0 (fl ns K e m z) (k : AV → KS → Option β) (l) : QfV fl ns K (some (e, m, z)) 0 [] k l = VY (K ++ [some (.lst m [])]) (fun K' => k (.sl K.length) K') () := _root_.id rfl
theorem s_b (fl ns K e m z len ps) (k : AV → KS → Option β) (l) : QfV fl ns K (some (e, m, z)) (len + 1) ps k l = okB (Nat.ble ((len + 1) * m) 16777216) (QAt fl ns (Z9 K (fun i => some (i * m, m)) (Qcq (len + 1) z) ps) K (len + 1) m k ()) () :=
 QbM QhT _ _
def QAb (ns : List Nat) (e : Option (KS × List AV)) (n len m : Nat) (k : AV → KS → Option β) (_ : Lk k) : Option β := match e with
   | some (K1, cs) => VY (K1 ++ [some (.lst m ((Qaw m len cs).map (nz ns)))]) (fun K' => k (.sl n) K') ()
   | none => none
theorem QOA (fl ns K cs len m) (k : AV → KS → Option β) (l) : QAt fl ns (some cs) K len m k l = cond (yB fl cs) (QAb ns (Vh K cs) K.length len m k ()) none := _root_.id rfl
theorem QMZ : zB [] = true := _root_.id rfl
theorem QOR (l : List Nat) : zB (0 :: l) = zB l := _root_.id rfl
theorem QMv (n : Nat) (l : List Nat) : zB ((n + 1) :: l) = false := _root_.id rfl
theorem QO4 (cs) : yB false cs = true := _root_.id rfl
theorem QNg (cs) : yB true cs = noS cs := _root_.id rfl
theorem QPd : noS [] = true := _root_.id rfl
theorem QMj (c n l) : noS (.i c n :: l) = noS l := _root_.id rfl
theorem QLP (x l) : noS (.b x :: l) = noS l := _root_.id rfl
theorem QOu (x l) : noS (.s x :: l) = noS l := _root_.id rfl
theorem QNV (l) : noS (.nil :: l) = noS l := _root_.id rfl
theorem QOy (n r l) : noS (.imm n r :: l) = noS l := _root_.id rfl
theorem QOT (j l) : noS (.sl j :: l) = false := _root_.id rfl
theorem QPb (ns K1 cs n len m) (k : AV → KS → Option β) (l) : QAb ns (some (K1, cs)) n len m k l = VY (K1 ++ [some (.lst m ((Qaw m len cs).map (nz ns)))]) (fun K' => k (.sl n) K') () := _root_.id rfl
theorem QMe (K p cs) : Z9 K p cs [] = some cs := _root_.id rfl
def Qus (K : KS) (place : Nat → Option (Nat × Nat)) (cs : List AV) (p : Option (Nat × Nat)) (d : Option (List AV)) (rest : List (Nat × AV)) : Option (List AV) := match p, d with
  | some (o, m), some ds => if ds.length = m ∧ o + m ≤ cs.length then Z9 K place (putCells cs o ds) rest else none
  | _, _ => none
theorem QNF (K p cs i v r) : Z9 K p cs ((i, v) :: r) = Qus K p cs (p i) (QbU K v) r := by simp only [Z9]; rfl
theorem QMF (K p cs o m ds r) : Qus K p cs (some (o, m)) (some ds) r = cond ((ds.length == m) && Nat.ble (o + m) cs.length) (Z9 K p (putCells cs o ds) r) none :=
 QbM (by simp only [Bool.and_eq_true, beq_iff_eq, QhT]) _ _
theorem QOd (K cs) : QbU K (.agg cs) = some cs := _root_.id rfl
theorem QMx (K x) : QbU K (.b x) = some [.b x] := _root_.id rfl
theorem QPa (K c x) : QbU K (.i c x) = some [.i c x] := _root_.id rfl
theorem QO6 (K x) : QbU K (.s x) = some [.s x] := _root_.id rfl
theorem QMg (K) : QbU K .nil = some [.nil] := _root_.id rfl
theorem QC9 (K n r) : QbU K (.imm n r) = some [.imm n r] := _root_.id rfl
theorem QF7 (K j) : QbU K (.sl j) = cond (kg K j).isSome (some [.sl j]) none := by
 show (if Zm K (.sl j) = true then some [AV.sl j] else none) = _; exact QbM Iff.rfl _ _
theorem QNz (z) : Qcq 0 z = [] := by simp [Qcq]
theorem QOY (n z) : Qcq (n + 1) z = z ++ Qcq n z := by simp [Qcq, List.replicate_succ]
theorem QFZ (K) : Vh K [] = some (K, []) := _root_.id rfl
theorem QHu (K x cs) : Vh K (.b x :: cs) = (Vh K cs).map fun p => (p.1, .b x :: p.2) := by simp [Vh, AV.closed]
theorem QIL (K c x cs) : Vh K (.i c x :: cs) = (Vh K cs).map fun p => (p.1, .i c x :: p.2) := by simp [Vh, AV.closed]
theorem QJT (K x cs) : Vh K (.s x :: cs) = (Vh K cs).map fun p => (p.1, .s x :: p.2) := by simp [Vh, AV.closed]
theorem QKI (K cs) : Vh K (.nil :: cs) = (Vh K cs).map fun p => (p.1, .nil :: p.2) := by simp [Vh, AV.closed]
theorem Qx0 (K n r cs) : Vh K (.imm n r :: cs) = (Vh K cs).map fun p => (p.1, .imm n r :: p.2) := by simp [Vh, AV.closed]
def QKk (e : Option Ent) (K : KS) (j : Nat) (cs : List AV) : Option (KS × List AV) := match e with
  | some (.lst n rows) => (Vh (K.set j none) cs).map fun p => (p.1, .own n rows :: p.2)
  | _ => none
theorem QC3 (K j cs) : Vh K (.sl j :: cs) = QKk (kg K j) K j cs := by simp only [Vh]; rfl
theorem QJU (K n r j cs) : QKk (some (.lst n r)) K j cs = (Vh (K.set j none) cs).map fun p => (p.1, .own n r :: p.2) := _root_.id rfl
theorem QFk (m cs) : Qaw m 0 cs = [] := _root_.id rfl
theorem QIb (m l cs) : Qaw m (l + 1) cs = cs.take m :: Qaw m l (cs.drop m) := _root_.id rfl
def Qsc (e : Option (List (List AV) × KS)) (n m b : Nat) (s : AV) (k : AV → KS → Option β) (_ : Lk k) : Option β := match e with
  | some (rows', K1) => match s with
   | .sl j => match kg K1 j with
    | some (.lst n' rows) => if n' = m then Vb (decide ((rows.length + rows'.length) * (b + 1) ≤ 140737488355328)) (VY (K1.set j none ++ [some (.lst m (rows ++ rows'))]) (fun K' => k (.sl n) K') ()) () else none
    | _ => none
   | .nil => Vb (decide (rows'.length * (b + 1) ≤ 140737488355328)) (VY (K1 ++ [some (.lst m rows')]) (fun K' => k (.sl n) K') ()) ()
   | _ => none
  | none => none
def QwB (e : Option Ent) (r : List (List AV)) (K1 : KS) (n m b j : Nat) (k : AV → KS → Option β) (_ : Lk k) : Option β := match e with
    | some (.lst n' rows) => if n' = m then Vb (decide ((rows.length + r.length) * (b + 1) ≤ 140737488355328)) (VY (K1.set j none ++ [some (.lst m (rows ++ r))]) (fun K' => k (.sl n) K') ()) () else none
    | _ => none
def QEj (K : KS) (t : Option (TypeId × Nat × List AV)) (bytes : Option Nat) (s x : AV) (k : AV → KS → Option β) (_ : Lk k) : Option β := Qj3 K t bytes s x k ()
def QxU (P : Program) (t : Option (TypeId × Nat × List AV)) : Option Nat := t.bind fun q => tb P q.1
theorem QIz {P : Program} {D : Orc} {f : Fr} {K : KS} (s x t tx ts) (k : AV → KS → Option β) (l) : oop P D (.call ⟨.builtin .append, List.toArray [s, x], List.toArray (t :: tx :: ts)⟩) f K k l = okB (Qal P tx && !(Qa2 s && QdZ (ev f x))) (QEj K (tse P t) (QxU P (tse P t)) (ev f s) (ev f x) k ()) () := by
 simp only [oop, okB, QEj, QxU]; cases Qal P tx <;> cases (Qa2 s && QdZ (ev f x)) <;> rfl
theorem QPA (d) : Qa2 (.tmp d) = false := _root_.id rfl
theorem QOx : Qa2 (.const (.slice none 0 0)) = true := _root_.id rfl
theorem QOf (n r) : QdZ (.imm n r) = false := _root_.id rfl
theorem QPi : QdZ .nil = false := _root_.id rfl
theorem QMz (j) : QdZ (.sl j) = true := _root_.id rfl
def Qui (ns : List Nat) (K : KS) (t : Option (TypeId × Nat × List AV)) (bytes : Option Nat) (l c : AV) (k : AV → KS → Option β) (_ : Lk k) : Option β := Qr9 ns K t bytes l c k ()
theorem QM6 {P : Program} {D : Orc} {f : Fr} {K : KS} (t x c) (k : AV → KS → Option β) (l) : oop P D (.makeSlice t x c) f K k l = Qui (Qdc P t) K (tse P t) (QxU P (tse P t)) (ev f x) (ev f c) k () := _root_.id rfl
theorem QJ2 (ns K e m z b i c) (k : AV → KS → Option β) (l) : Qui ns K (some (e, m, z)) (some (b + 1)) (.i .i64 i) (.i .i64 c) k l = Vb (decide (i = c)) (Vb (mkB i (b + 1)) (VY (K ++ [some (.lst m (List.replicate i.toNat (nz ns z)))]) (fun K' => k (.sl K.length) K') ()) ()) () := _root_.id rfl
theorem QOS (i : Int) : (i = i) = True := by simp
theorem QHt (P e m z) : QxU P (some (e, m, z)) = tb P e := _root_.id rfl
theorem a_1 (K e m z b s x) (k : AV → KS → Option β) (l) : QEj K (some (e, m, z)) (some (b + 1)) s x k l = Qsc (QbY K m x) K.length m b s k () := _root_.id rfl
theorem a_2 (r K1 n m b j) (k : AV → KS → Option β) (l) : Qsc (some (r, K1)) n m b (.sl j) k l = QwB (kg K1 j) r K1 n m b j k () := _root_.id rfl
theorem a_3 (r K1 n m b) (k : AV → KS → Option β) (l) : Qsc (some (r, K1)) n m b .nil k l = Vb (rm r.length (b + 1)) (VY (K1 ++ [some (.lst m r)]) (fun K' => k (.sl n) K') ()) () := by
 simp [Qsc, rm]
theorem a_4 (r' r K1 n m b j) (k : AV → KS → Option β) (l) : QwB (some (.lst m r')) r K1 n m b j k l = Vb (rm (r'.length + r.length) (b + 1)) (VY (K1.set j none ++ [some (.lst m (r' ++ r))]) (fun K' => k (.sl n) K') ()) () := by
 simp [QwB, rm]
theorem QOP (K m) : QbY K m .nil = some ([], K) := _root_.id rfl
theorem QL6 (K m r) : QbY K m (.imm m r) = some (r, K) := by simp [QbY]
def QCE (e : Option Ent) (K : KS) (m k : Nat) : Option (List (List AV) × KS) := match e with
  | some (.lst n rows) => if n = m then some (rows, K.set k none) else none
  | _ => none
theorem QPJ (K m j) : QbY K m (.sl j) = QCE (kg K j) K m j := _root_.id rfl
theorem QN5 (K m j r) : QCE (some (.lst m r)) K m j = some (r, K.set j none) := by simp [QCE]
end
section
variable (T : Tld)
theorem QGO (n h) : (orc T (n + 1) h).w = T.wt := _root_.id rfl
theorem QET (n h g) : (orc T n h).z g = (lk T.pz g).getD [] := by cases n <;> rfl
theorem QKd (n h) : (orc T (n + 1) h).v = T.vt := _root_.id rfl
theorem QIZ (n h) : (orc T n h).m = CM T n := by cases n <;> rfl
theorem QFH (n h) : (orc T n h).a = CA T n := by cases n <;> rfl
theorem QF6 (n h) : (orc T (n + 1) h).q = T.qt := _root_.id rfl
theorem QIk (n h) : (orc T (n + 1) h).s = T.st := _root_.id rfl
theorem QKg (n h) : (orc T n h).p = CP T n := by cases n <;> rfl
theorem QGd (n h) : (orc T n h).l = LP T n h := _root_.id rfl
noncomputable def cpF (T : Tld) (n g : Nat) (fn : Option Func) (a : Option Ann) (args : List AV) : Option AV := match a with
 | some a => match fn with
  | some f => cond (Nat.ble args.length f.ntmps) (Vz T.P (orc T n g) a (f.body.getD .skip) (QgU T.P a.sh f.results.toList) (VE args) [] ()) none
  | none => cond (Nat.ble args.length 0) (Vz T.P (orc T n g) a .skip (QgU T.P a.sh []) (VE args) [] ()) none
 | none => T.xt g args
noncomputable def caF (T : Tld) (n g : Nat) (fn : Option Func) (a : Option Ann) (K : KS) (args : List AV) : Option (AV × KS) := match a with
 | some a => match fn with
  | some f => cond (a.wr && (Nat.beq K.length a.ak.length && Nat.ble args.length f.ntmps)) (Vz T.P (orc T n g) a (f.body.getD .skip) (Qjl T.P a.ak a.nr f.ntmps f.results.toList) (VE args) K ()) none
  | none => cond (a.wr && (Nat.beq K.length a.ak.length && Nat.ble args.length 0)) (Vz T.P (orc T n g) a .skip (Qjl T.P a.ak a.nr 0 []) (VE args) K ()) none
 | none => none
theorem QbA (n g K args) : CA T (n + 1) g K args = caF T n g (T.P.funcs[g]?) (T.at g) K args := by
 show (match T.at g with | some a => cond _ _ _ | none => none) = _
 unfold caF body QjO ntm
 cases T.at g with
 | none => rfl
 | some a => cases T.P.funcs[g]? <;> rfl
theorem QwO (n g K args a) (x1 x2 x3 x4 x5 x6 m) (rs : List ResultVar) (c x7 x8 x9 x10 x11 x12 x13) : caF T n g (some ⟨x1, x2, x3, x4, x5, x6, m, List.toArray rs, some c, x7, x8, x9, x10, x11, x12, x13⟩) (some a) K args = cond ((a.nr.isSome || !a.ak.isEmpty) && ((K.length == a.ak.length) && Nat.ble args.length m)) (Vz T.P (orc T n g) a c (Qjl T.P a.ak a.nr m rs) (VE args) K ()) none := by rw [← QiQ]; rfl
theorem QEe {α : Type} (x : α) (l : List α) : (x :: l).isEmpty = false := _root_.id rfl
theorem QLN : (!false) = true := _root_.id rfl
noncomputable def cmF (T : Tld) (n g : Nat) (fn : Option Func) (a : Option Ann) (K : KS) (args : List AV) : Option AV := match a with
 | some a => cond (Nat.ble args.length (match fn with | some f => f.ntmps | none => 0)) (Vz T.P (orc T n g) a (match fn with | some f => f.body.getD .skip | none => .skip) (QgU T.P a.sh (match fn with | some f => f.results.toList | none => [])) (VE args) K ()) none
 | none => T.mt g K args
theorem QzN (n g K args) : CM T (n + 1) g K args = cmF T n g (T.P.funcs[g]?) (T.at g) K args := by
 show (match T.at g with | some a => _ | none => _) = _
 unfold cmF body QjO ntm
 cases T.at g with
 | none => rfl
 | some a => cases T.P.funcs[g]? <;> rfl
theorem Qw2 (n g K args a) (x1 x2 x3 x4 x5 x6 m) (rs : List ResultVar) (c x7 x8 x9 x10 x11 x12 x13) : cmF T n g (some ⟨x1, x2, x3, x4, x5, x6, m, List.toArray rs, some c, x7, x8, x9, x10, x11, x12, x13⟩) (some a) K args = cond (Nat.ble args.length m) (Vz T.P (orc T n g) a c (QgU T.P a.sh rs) (VE args) K ()) none := _root_.id rfl
theorem Qi (n g args) : CP T (n + 1) g args = cpF T n g (T.P.funcs[g]?) (T.at g) args := by
 show (match T.at g with | some a => cond _ _ _ | none => T.xt g args) = _
 unfold cpF body QjO ntm
 cases T.at g with
 | none => rfl
 | some a => cases T.P.funcs[g]? <;> rfl
theorem QvA (n g args a) (x1 x2 x3 x4 x5 x6 m) (rs : List ResultVar) (c x7 x8 x9 x10 x11 x12 x13) : cpF T n g (some ⟨x1, x2, x3, x4, x5, x6, m, List.toArray rs, some c, x7, x8, x9, x10, x11, x12, x13⟩) (some a) args = cond (Nat.ble args.length m) (Vz T.P (orc T n g) a c (QgU T.P a.sh rs) (VE args) [] ()) none := _root_.id rfl
noncomputable def lpG (T : Tld) (n h : Nat) (a : Ann) (c : Option Code) (la : Option LA) (f : Fr) (K : KS) : Option (XE × Fr × KS) := match c, la with
    | some c, some la => run (fun s => Vz T.P (orc T n h) a c (Qfv a.ak la a.rt) s.1 s.2 ()) (f, K)
    | _, _ => none
noncomputable def lpF (T : Tld) (n h t : Nat) (fn : Option Func) (a : Option Ann) (f : Fr) (K : KS) : Option (XE × Fr × KS) := match a with
 | some a => lpG T n h a (QH t (match fn with | some f => f.body.getD .skip | none => .skip)) (lk a.lp t) f K
 | none => none
theorem QA (n h t f K) : LP T (n + 1) h t f K = lpF T n h t (T.P.funcs[h]?) (T.at h) f K := by
 show (match T.at h with | some a => _ | none => none) = _
 unfold lpF
 cases T.at h <;> rfl
theorem Qt4 (n h t a f K) (x1 x2 x3 x4 x5 x6 m rs c x7 x8 x9 x10 x11 x12 x13) : lpF T n h t (some ⟨x1, x2, x3, x4, x5, x6, m, rs, some c, x7, x8, x9, x10, x11, x12, x13⟩) (some a) f K = lpG T n h a (QH t c) (lk a.lp t) f K := _root_.id rfl
theorem Qm (n h a c la f K) : lpG T n h a (some c) (some la) f K = run (fun s => Vz T.P (orc T n h) a c (Qfv a.ak la a.rt) s.1 s.2 ()) (f, K) := _root_.id rfl
theorem getD_some {α : Type} (x d : α) : (some x).getD d = x := _root_.id rfl
theorem Qiv {α : Type} (d : α) : (none : Option α).getD d = d := _root_.id rfl
end
end Go.Proofs.YtkbilciipmijjaaGreat.Am
namespace Go.Proofs.YtkbilciipmijjaaGreat.Am
open Go
set_option linter.unusedVariables false
set_option linter.unusedSimpArgs false
section
variable {α β γ : Type} {c : α → List AV}
theorem QnQ (xs : List α) (i) : inb (xs.map c) i = inb xs i := by simp [inb]
theorem QPo (xs : List α) : lnR (xs.map c) = ln xs := by simp [lnR, ln]
theorem Qob [Inhabited α] (xs : List α) (i : Int) (h : inb xs i = true) : QC (xs.map c) i.toNat = c (gt xs i) := by
 obtain ⟨h0, h1⟩ := QaK.1 h
 have h2 : i.toNat < xs.length := by omega
 simp [QC, gt, List.getD_eq_getElem?_getD, h2]
theorem QKH (xs : List α) (i : Int) (h : inb xs i = true) : QlN (xs.map c) i.toNat = true := by
 unfold QlN
 obtain ⟨h0, h1⟩ := QaK.1 h
 rw [Nat.blt_eq]; simp; omega
theorem QKe (xs : List α) (l h : Int) : cut (xs.map c) l h = (cut xs l h).map c := by simp [cut, List.map_take, List.map_drop]
theorem QFm (xs : List α) : (xs.map c).length = xs.length := by simp
theorem QwG (xs : List α) (n : Nat) (x : α) (i : Int) : inb (xs.set n x) i = inb xs i := by simp [inb]
theorem Qyx [Inhabited α] (xs : List α) (x : α) (i : Int) (h : inb xs i = true) : gt (xs.set i.toNat x) i = x := by
 obtain ⟨h0, h1⟩ := QaK.1 h
 have h2 : i.toNat < xs.length := by omega
 simp [gt, List.getD_eq_getElem?_getD, h2]
theorem QwH (xs : List α) (n : Nat) (x y : α) : (xs.set n x).set n y = xs.set n y := by simp
theorem Qtv (o : Option α) (g : β → γ) (f : α → Option β) : (o.bind f).map g = o.bind fun x => (f x).map g := by cases o <;> rfl
theorem Qta (b : Bool) (o : Option β) (g : β → γ) (l) : (Vb b o l).map g = Vb b (o.map g) () := by cases b <;> rfl
theorem QtI (b : Bool) (x y : Option β) (g : β → γ) : (cond b x y).map g = cond b (x.map g) (y.map g) := by cases b <;> rfl
theorem Qwi {ρ δ : Type} (p : ρ → Option β) (q : δ → Option β) (x) (g : β → γ) : (evO p q x).map g = evO (fun r => (p r).map g) (fun r => (q r).map g) x := by cases x <;> rfl
theorem Qo0 (x : α) (f : α → Option β) : (some x).bind f = f x := _root_.id rfl
theorem QoM (o : Option α) (f : α → Option β) (g : β → Option γ) : (o.bind f).bind g = o.bind fun x => (f x).bind g := by cases o <;> rfl
theorem QxM {α' β' : Type} (f : α → α') (g : β → β') (x) : Sum.map f g (.inl x) = .inl (f x) := _root_.id rfl
theorem Qy7 {α' β' : Type} (f : α → α') (g : β → β') (x) : Sum.map f g (.inr x) = .inr (g x) := _root_.id rfl
end
class EncR {α : Type} (c : α → List AV) (r : List AV) (x : outParam α) : Prop where
 eq : r = c x
class EncL {α : Type} (c : α → List AV) (R : List (List AV)) (xs : outParam (List α)) : Prop where
 eq : R = xs.map c
instance {α : Type} (c : α → List AV) (x : α) : EncR c (c x) x := ⟨rfl⟩
instance {α : Type} (c : α → List AV) (xs : List α) : EncL c (xs.map c) xs := ⟨rfl⟩
instance {α : Type} (c : α → List AV) : EncL c [] [] := ⟨rfl⟩
instance {α : Type} (c : α → List AV) (r R x xs) [h : EncR c r x] [H : EncL c R xs] : EncL c (r :: R) (x :: xs) := ⟨by rw [h.eq, H.eq]; rfl⟩
instance {α : Type} (c : α → List AV) (R S xs ys) [h : EncL c R xs] [H : EncL c S ys] : EncL c (R ++ S) (xs ++ ys) := ⟨by rw [h.eq, H.eq]; simp⟩
instance {α : Type} (c : α → List AV) (R xs) (i : Nat) (r x) [h : EncL c R xs] [H : EncR c r x] : EncL c (R.set i r) (xs.set i x) := ⟨by rw [h.eq, H.eq, List.map_set]⟩
instance {α : Type} (c : α → List AV) (n : Nat) (r x) [H : EncR c r x] : EncL c (List.replicate n r) (List.replicate n x) := ⟨by rw [H.eq, List.map_replicate]⟩
theorem QCU {α : Type} {c : α → List AV} (xs : List α) (R) {ys} [h : EncL c R ys] : xs.map c ++ R = (xs ++ ys).map c := by rw [h.eq]; simp
theorem QCL {α : Type} {c : α → List AV} (xs : List α) (n : Nat) (R) {x} [h : EncR c R x] : (xs.map c).set n R = (xs.set n x).map c := by rw [h.eq, List.map_set]
theorem J2 {α : Type} {c : α → List AV} (h : ∀ x, XP (c x) = true) (xs : List α) : Q1 (xs.map c) = true := by
 induction xs with
 | nil => simp [Q1]
 | cons x xs ih => simp [Q1, h, ih]
theorem Qkb {α : Type} {c : α → List AV} (h : ∀ x, (c x).all AV.scal = true) (xs : List α) : QaE (xs.map c) = true := by
 induction xs with
 | nil => rfl
 | cons x xs ih => unfold QaE at ih ⊢; rw [List.map_cons, List.all_cons, h, ih]; rfl
theorem Qak {α : Type} {c c' : α → List AV} (h : ∀ x, Vn (c x) = c' x) (xs : List α) : Qs (xs.map c) = xs.map c' := by
 induction xs with
 | nil => simp [Qs]
 | cons x xs ih => simp [Qs, h, ih]
theorem QCN {α : Type} {c : α → List AV} (xs : List α) (n b : Nat) (m) : Qjz (xs.map c).isEmpty (some (AV.own n [])) (Vb (rm (0 + xs.length) b) (some (AV.own n (xs.map c))) m) = Vb (rm (0 + xs.length) b) (some (AV.own n (xs.map c))) () := by
 cases xs with
 | nil => simp [Qjz, oeq, Vb, rm]
 | cons r R => rfl
set_option linter.defProp false
set_option maxRecDepth 100000
def evA := aI @QJB <| aI @QIP <| aI @QvV <| aI @QAf <| aI @Qv3 <| aI @QAq <| aI @QGZ <| aI @QLu <| aI @QCF <| aI @Qx6 <| aI @Qvd <| aI @QMA <| aI @QGR <| aI @QPp <| aI @QH8 <| aI @QyQ <| aI @QFJ <| aI @Qy2 <| aI @QC6 <| aI @Qyu <| aI @Qvc <| aI @QG3 <| aI @QJF <| aI @QA2 <| aI @QCW <| aI @QBS <| aI @QFj <| aI @Qzq <| aI @Qvi <| aI @QJi <| aI @QuM <| aI @QDb <| aI @QCO <| aI @QBn <| aI @QJk <| aI @QIV <| aI @QJ3 <| aI @QJa <| aI @QwZ <| aI @Qmg <| aI @QCn <| aI @QIf <| aI @QxX <| aI @Qvj <| aI @QCp <| aI @QBj <| aI @QFS <| aI @QJs <| aI @s_v <| aI @v_j <| aI @v_s <| aI @QEV <| aI @QF3 <| aI @Qw2 <| aI @QsR <| aI @n_c <| aI @QHL <| aI @QG5 <| aI @QFQ <| aI @QHA <| aI @n_g <| aI @QFF <| aI @QIx <| aI @QKc <| aI @QCT <| aI @QLC <| aI @QDT <| aI @QGP <| aI @QCC <| aI @Qy0 <| aI @QwE <| aI @QrV <| aI @Qrr <| aI @QsP <| aI @Qsb <| aI @QME <| aI @QOH <| aI @QzR <| aI @QHw <| aI @QJq <| aI @QCZ <| aI @QDA <| aI @QBG <| aI @Qzr <| aI @Qw7 <| aI @Qyz <| aI @QtV <| aI @QyI <| aI @Qvb <| aI @QHB <| aI @QEM <| aI @QCk <| aI @QBp <| aI @QCs <|  aI @Qx2 <| aI @Qmg <| aI @QHC <| aI @QHT <| aI @Qx7 <| aI @QEN <| aI @QIT <| aI @Qwb <| aI @QvW <| aI @Qua <| aI @QIi <| aI @Qv2 <| aI @QEx <| aI @QGG <|
 aI @Qw0 <| aI @QuP <| aI @QCr <| aI @QrO <| aI @QuQ <| aI @QwD <| aI @Quc <| aI @QxP <| aI @QyH <| aI @Qyk <|
 aI @QJX <| aI @QBR <| aI @Qyi <| aI @c_g <| aI @QMO <| aI @Qz1 <| aI @QAA <| aI @QzJ <|
 aI @QhB <| aI @QtQ <| aI @Qp5 <| aI @Qpd <| aI @QqY <|
 aI @QDz <| aI @Qu7 <| aI @QD9 <| aI @QxT <| aI @QEv <| aI @Qyw <| aI @Qu8 <| aI @QCK <| aI @Qy3 <| aI @QF4 <| aI @QBi <| aI @QCl <| aI @QBB <| aI @QB6 <| aI @QJP <| aI @QLx <| aI @QLn <| aI @QFa <| aI @QIH <| aI @QJz <| aI @QBC <| aI @QC4 <| aI @QCb <| aI @QNG <|
 aI @QOB <| aI @QPk <| aI @QHD <| aI @QLk <| aI @QFW <| aI @QHp <| aI @QDd <| aI @Qxl <| aI @QIz <| aI @QM6 <|
 aI @QKC <| aI @QBl <| aI @Qs7 <| aI @QqH <| aI @Qq2 <| aI @Qn3 <| aI @Qn4 <| aI @Qwx <| aI @Qqt <| aI @Qtj <|
 aI @Qof <| aI @Qol <| aI @VB <| aI @QhC <| aI @Qks <| aI @Qmb <|
 aI @Qzm <| aI @Qy4 <| aI @QC8 <| aI @QAI <| aI @n_r <| aI @n_s <| aI @QL1 <| aI @QOz <| aI @QMY <|
 aI @QFq <| aI @QEd <| aI @Qy8 <| aI @QCX <| aI @Qum <| aI @QEp <| aI @QJ5 <| aI @QB0 <| aI @QAH <| aI @QzQ <|
 aI @getD_some <| aI @Qiv <| aI @QvA <| aI @QwO <| aI @Qt4 @QAl
def evB := aI @Qni <| aI @Qm9 <| aI @QMR <| aI @QMI <| aI @QLZ <| aI @QOe <| aI @QM1 <| aI @QLV <| aI @QMZ <| aI @QOR <| aI @QMv <| aI @QO4 <| aI @QNg <| aI @QPd <| aI @QMj <| aI @QLP <| aI @QOu <| aI @QNV <| aI @QOy <| aI @QOT <| aI @QJB <| aI @QIP <| aI @QvV <| aI @QAf <| aI @Qv3 <| aI @QAq <| aI @QGZ <| aI @QLu <| aI @QIV <| aI @QJ3 <| aI @QJa <| aI @QO1 <| aI @c_K <| aI @QH8 <| aI @QLs <| aI @QOk <| aI @s_v <| aI @v_j <| aI @v_s <| aI @QEV <| aI @QF3 <| aI @Qw2 <| aI @p_0 <| aI @p_e <| aI @p_s <| aI @p_n <| aI @p_z <| aI @p_a <| aI @QPK <| aI @QOQ <| aI @QNP <| aI @QPx <| aI @QPr <| aI @QNC <| aI @QNo <| aI @QOD <| aI @QET <| aI @Qks <| aI @Qmb <| aI @Qiv <| aI @getD_some <| aI @n_c <| aI @QHL <| aI @QG5 <| aI @QFQ <| aI @QHA <| aI @n_g <| aI @QFF <| aI @QIx <| aI @QKc <| aI @QAI <| aI @n_r <| aI @n_s <| aI @Qzc <| aI @Qxz <| aI @QyF <| aI @Qof <| aI @Qol <| aI @VB <| aI @QhC <| aI @Qw0 <| aI @QuP <| aI @QrO <| aI @Qz1 <| aI @QAA <| aI @QAH <| aI @QzQ <| aI @getD_some <| aI @Qiv <| aI @Qwb <| aI @QvW <| aI @Qv2 <| aI @Qua <| aI @Xc <| aI @QEN <| aI @QIT <| aI @c_M <| aI @QPA <| aI @QOx <| aI @QOf <| aI @QPi <| aI @QMz <| aI @QHi <| aI @QJ7 <| aI @QDe <| aI @QDQ <| aI @Qzd <| aI @Qyf <| aI @QD2 <| aI @Qya <| aI @Qt1 <| aI @QLg <| aI @QKX <| aI @Qwq <| aI @QDP <| aI @QDB <| aI @QFy <| aI @QEn <| aI @QBV <| aI @Qu2 <| aI @Qvx <| aI @QrV <| aI @Qrr <| aI @QHw <| aI @QJq <| aI @QNq <| aI @QOv <| aI @QL3 <| aI @QOU <| aI @QM2 <| aI @QPP <| aI @s_w <| aI @w_j <| aI @w_s <| aI @QO7 <| aI @QNN <| aI @QKw <| aI @QBo <| aI @QPt <| aI @QLJ <| aI @QLw <| aI @QOl <| aI @QN6 <| aI @QMW <| aI @QNf <| aI @QLb <| aI @QCM <| aI @QN3 <| aI @QNT <| aI @QKo <| aI @QPn <| aI @QM5 <| aI @QNi <| aI @QO3 <| aI @QOC <| aI @QOw <| aI @QMN <| aI @QPh <| aI @QNK <| aI @QMJ <| aI @QM3 <| aI @QK2 <| aI @QHh <| aI @QN4 <| aI @QNa <| aI @QLW <| aI @QMc <| aI @QNn <| aI @QMu <| aI @QMl <| aI @QMh <| aI @QOV <| aI @QPz <| aI @QLT <| aI @QPu <| aI @QML <| aI @QNZ <| aI @QMT <| aI @QO0 <| aI @QMp <| aI @QEO <| aI @QGf <| aI @QIN <| aI @QLj <| aI @QNH <| aI @QNv <| aI @QPL <| aI @QNL <| aI @QPj <| aI @QMq <| aI @QN2 <| aI @QHO <| aI @QIU <| aI @QF9 <| aI @QIy <| aI @QO2 <| aI @QL0 <| aI @QOs <| aI @QND <| aI @QH0 <| aI @QOp <| aI @QPM <| aI @QHH <| aI @QHx <| aI @QNr <| aI @QOb <| aI @QIF <| aI @QGJ <| aI @QGV <| aI @QFK <| aI @QIu <| aI @Bool.true_or <| aI @Bool.false_or <| aI @QLY <| aI @QMf <| aI @QNl <| aI @QLK <| aI @QMs <| aI @QOt <| aI @QPe <| aI @QOX <| aI @w_p <| aI @QM9 <| aI @w_x <| aI @w_n <| aI @QzR <| aI @QJO <| aI @QIC <| aI @QwO <| aI @QEe <| aI @QLN <| aI @QsP <| aI @Qsb <| aI @s_t <| aI @s_q <| aI @s_f <| aI @QMB <| aI @QIo <| aI @QAN <| aI @QMn <| aI @QJu <| aI @QCh <| aI @Qp9 <| aI @QBa <| aI @QBu <| aI @QIl <| aI @QK8 <| aI @QHN <| aI @QDC <| aI @QLq <| aI @QGx <| aI @QGU <| aI @QsR <| aI @QvA <| aI @Qt4 <| aI @Qks <| aI @QhB <|
 aI @QGz <| aI @QEu <| aI @QOq <| aI @QOJ <| aI @QA9 <| aI @QBO <| aI @QD5 <| aI @QxC <| aI @Qs1 <| aI @Qwo <| aI @Qv6 <| aI @QuZ <| aI @QnP <| aI @QFp <| aI @QEw <| aI @QNX <| aI @QFw <|
 aI @QAC <| aI @QFg <| aI @QHm <| aI @QHz <| aI @QFo <| aI @QEK <| aI @QHy <| aI @QF0 <| aI @QJ1 <| aI @QGE <| aI @QKP <| aI @QHf <| aI @QH4 <| aI @QHs <| aI @QJr <| aI @QKJ <| aI @QKF <| aI @QJH <|
 aI @QIq <| aI @QGu <| aI @QKq <| aI @QGA <| aI @QLc <| aI @QCB <| aI @QDI <| aI @QBP <| aI @QEl <| aI @QFI <| aI @QEb <| aI @QEL <| aI @QG7 <| aI @QGH <| aI @QIJ <| aI @QDX <| aI @QDi <| aI @QCt <| aI @QDS <| aI @QDU <| aI @QDm <| aI @QD7 <| aI @QDE <| aI @QFn <| aI @QBs <|
 aI @Qy5 <| aI @QxN <| aI @QyO <| aI @QEQ <| aI @QxR <| aI @QF2 <| aI @QMU <| aI @QCJ <| aI @Qnr <| aI @QI5 <| aI @QLa <|
 aI @QFd <| aI @QJh <| aI @QDy <| aI @QB1 <| aI @QHJ <| aI @QBF <| aI @QAW <| aI @QBq <| aI @Qyc <| aI @Qxu <| aI @QyU <| aI @Qxt <|
 aI @QCo <| aI @QKm <| aI @QBA <| aI @QD4 <| aI @QDc <| aI @Qys <| aI @QKj <| aI @QBy <| aI @QEh <| aI @QAS <| aI @Qw1 <| aI @QwT <| aI @Qxf <| aI @Qvz <| aI @Qwt <| aI @QD6 <| aI @QGT <| aI @QEm <| aI @QDO <| aI @QE0 <| aI @QEc <|
 aI @QLH <| aI @m_c <| aI @QDN <| aI @QDr <| aI @QDL <| aI @QA6 <| aI @QHj <| aI @QIt <| aI @QFx <| aI @QyT <| aI @QzD <| aI @QzC <|
 aI @QxS <| aI @Qxb <| aI @QxQ <| aI @Qxq <| aI @QMH <| aI @QBN <| aI @QCw <| aI @QB9 <| aI @QDK <|
 aI @QGk <| aI @QH3 <| aI @QFT <| aI @QK3 <| aI @QxB <| aI @QxH <| aI @QDf <| aI @QxY <| aI @QNd <| aI @QI4 <| aI @QEC <| aI @QEI <| aI @QGr <| aI @Qxe <| aI @QKp <|
 aI @Qy6 <| aI @QwK <| aI @Qv7 <| aI @QDV <| aI @QA1 <| aI @QLR <| aI @QEU <| aI @QKV <| aI @QKi <| aI @QFN <| aI @QFc <| aI @QKA <| aI @QFe <| aI @QDG <| aI @QJD <| aI @QKf <| aI @QGI <| aI @QJm <| aI @QE1 <| aI @QPl <| aI @QMQ <| aI @QOL <| aI @QMm <| aI @QMG <| aI @QPH <| aI @QPg <| aI @QPs <| aI @QNJ <| aI @QM8 <| aI @QNM <| aI @QNY <| aI @QLG <| aI @QN8 <| aI @QOi <| aI @QOm <| aI @QFP <| aI @QJZ <| aI @QLm <| aI @QBY <| aI @QDF <| aI @QAT <| aI @QCz <| aI @QA0 <| aI @QyM <| aI @Qwl <| aI @QPq <|
 aI @QJt <| aI @QGc <| aI @QAX <| aI @QkW <| aI @Qqv <| aI @QGB <| aI @QJ9 <| aI @QBh <| aI @x_b <| aI @x_i <| aI @x_s <| aI @QLy <| aI @QEJ <| aI @QFU <| aI @QNj <| aI @QEP <| aI @QBb <| aI @Qx5 <| aI @QLS <|
 aI @QFf <| aI @QDR <| aI @QCH <| aI @QHI <| aI @QIn <| aI @QNQ <| aI @QAO <| aI @QEs <| aI @QKK <| aI @QFR <| aI @QHE <| aI @QHX <| aI @QGW <| aI @QIO <| aI @QB4 <| aI @QBk <|
 aI @QCy <| aI @Qxg <| aI @Qxo <| aI @Qye <| aI @Qxx <| aI @QCd <| aI @QLl <| aI @QID <| aI @QKY <| aI @QFL <| aI @Qxp <| aI @Qun <| aI @QA7 <| aI @QDa <| aI @QBJ <| aI @QBx <| aI @QDl <|
 aI @l_0 <| aI @l_s <| aI @QOE <| aI @QH2 <| aI @QG8 <| aI @QKT <| aI @QBI <| aI @QDh <| aI @QBz <| aI @QHP <| aI @QNR <| aI @QPm <| aI @QNm <| aI @QPw <| aI @QLF <| aI @QDn <| aI @QIE <| aI @QIr <| aI @QKE <| aI @l_b <| aI @l_i <| aI @QMa <| aI @l_n <| aI @QFh <| aI @Qzp <| aI @QxV <| aI @QCu <| aI @QDg <| aI @QLQ <| aI @QMd <| aI @QMo <| aI @QOF <| aI @QB5 <| aI @QA3 <|
 aI @QGa <| aI @QJg <| aI @QE7 <| aI @i_b <| aI @i_i <| aI @QLM <| aI @i_n <| aI @QMP <| aI @QPF <| aI @QAl <| aI @QHo <|
 aI @QKW <| aI @QBM <| aI @QJW <| aI @QN0 <| aI @s_b <| aI @QOA <| aI @QPb <| aI @QMe <| aI @QNF <| aI @QMF <| aI @QOd <| aI @QMx <| aI @QPa <| aI @QO6 <| aI @QMg <| aI @QC9 <| aI @QF7 <| aI @QNz <| aI @QOY <|
 aI @QFZ <| aI @QHu <| aI @QIL <| aI @QJT <| aI @QKI <| aI @Qx0 <| aI @QC3 <| aI @QJU <| aI @QFk <| aI @QIb <|
 aI @QHt <| aI @QJ2 <| aI @QOS <| aI @QzJ <| aI @a_1 <| aI @a_2 <| aI @a_3 <| aI @a_4 <| aI @QOP <| aI @QL6 <| aI @QPJ @QN5
def evT := aI @QnQ <| aI @QCN <| aI @QKe <| aI @QPo <| aI @Qob <| aI @QKH <| aI @QCL <| aI @QCU <| aI @QvH <| aI @QFm <| aI @QwG <| aI @Qyx <| aI @QwH <| aI @QuW <| aI @QG1 <| aI @Qtv <| aI @Qta <| aI @QtI <| aI @Qo0 <| aI @Qwi <| aI @QoM <| aI @QxM @Qy7
def evN := aI @VB <| aI @List.contains_nil <| aI @Bool.not_false <| aI @Bool.and_true <| aI @List.length_append <| aI @List.length_cons <| aI @List.length_nil <| aI @Nat.zero_add <| aI @VN <| @Xc
end Go.Proofs.YtkbilciipmijjaaGreat.Am
