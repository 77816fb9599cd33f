import Derived.Test.YtkbilciipmijjaaGreatEvA
namespace Go.Proofs.YtkbilciipmijjaaGreat.Am
open Go
set_option linter.unusedVariables false
set_option linter.unusedSimpArgs false
section
variable {β : Type}
theorem QbW {α : Type} {p : Prop} [Decidable p] {b : Bool} (h : b = true ↔ p) (x y : α) : (if p then x else y) = cond b x y := by
 cases b with
 | true => rw [if_pos (h.1 rfl)]; rfl
 | false => rw [if_neg (fun hp => by have := h.2 hp; cases this)]; rfl
theorem Qki {m n : Nat} : Nat.blt m n = true ↔ m < n := by rw [Nat.blt_eq]
theorem Qia {m n : Nat} : Nat.ble m n = true ↔ m ≤ n := by rw [Nat.ble_eq]
def sel {α : Type} (b : Bool) (x y : α) (_ : Lk (x, y)) : α := cond b x y
theorem Qyl {α : Type} (x y : α) (l) : sel true x y l = x := _root_.id rfl
theorem QzI {α : Type} (x y : α) (l) : sel false x y l = y := _root_.id rfl
theorem QDO (v) (k : AV → Option β) (l) : Qjq v k l = k v := _root_.id rfl
theorem Qzq (K) (k : KS → Option β) (l) : V0 K k l = k K := _root_.id rfl
theorem QKr (f : Fr) (d : Nat) (v : AV) (t : Nat) : up f d v t = sel (d == t) v (f t) () := by
 unfold up sel
 by_cases h : t = d
 ·simp [h]
 ·have : (d == t) = false := by simp; exact fun h' => h h'.symm
  simp [h, this]
theorem QJK (m n : Nat) : Nat.ble m n = decide (m ≤ n) := by rw [Bool.eq_iff_iff, Nat.ble_eq]; simp
theorem QHa (m n : Nat) : Nat.blt m n = decide (m < n) := by rw [Bool.eq_iff_iff, Nat.blt_eq]; simp
theorem QMc (h : Decidable True) : @decide True h = true := by simp
theorem QPe (h : Decidable False) : @decide False h = false := by simp
theorem QEq (m n : Nat) (f : Fr) (t : Nat) : Qt8 m n f t = sel (Nat.ble m t && Nat.blt t n) .u (f t) () := _root_.id rfl
theorem QtY (t : Nat) : frm [] t = .u := _root_.id rfl
theorem Qqh (d : Nat) (v : AV) (l : List (Nat × AV)) (t : Nat) : frm ((d, v) :: l) t = sel (d == t) v (frm l t) () := by
 show up (frm l) d v t = _; exact QKr _ _ _ _
theorem QqI (t : Nat) : VK [] t = .u := by simp [VK]
theorem QoV (v : AV) (l : List AV) : VK (v :: l) 0 = v := _root_.id rfl
theorem QoC (v : AV) (l : List AV) (t : Nat) : VK (v :: l) (t + 1) = VK l t := _root_.id rfl
theorem Qxm (f : Fr) (t : Tmp) : ev f (.tmp t) = f t := _root_.id rfl
theorem Qqp (f : Fr) (v : Value) : ev f (.const v) = cv v := _root_.id rfl
theorem Qti (f : Fr) (g : FuncId) : ev f (.func g) = .clo g [] := _root_.id rfl
theorem QtO (b : Bool) : cv (.bool b) = .b b := _root_.id rfl
theorem QuP (k : IntKind) (i : Int) : cv (.int k i) = .i k i := _root_.id rfl
theorem Qw8 (x : ByteArray) : cv (.string x) = .s x.data.toList := _root_.id rfl
theorem QuE : cv (.slice none 0 0) = .nil := _root_.id rfl
theorem QoQ {α : Type} (x y : α) : cond true x y = x := _root_.id rfl
theorem QoH {α : Type} (x y : α) : cond false x y = y := _root_.id rfl
theorem VG (q : Option β) (l) : Q7 true q l = q := _root_.id rfl
def J1 {ρ δ γ : Type} (o : Option (Fl ρ δ)) (p : ρ → γ) (q : δ → γ) : Option γ := o.map (evO p q)
theorem QnV {ρ δ γ : Type} (o : Option (Fl ρ δ)) (p : ρ → γ) (q : δ → γ) (k : γ → Option β) (l) : X6 (J1 o p q) k l = o.bind (evO (fun r => k (p r)) (fun r => k (q r))) := by
 cases o with
 | none => rfl
 | some o => cases o <;> rfl
theorem QiG {α : Type} (x : α) (k : α → Option β) (l) : X6 (some x) k l = k x := _root_.id rfl
theorem Qn1 {α : Type} (k : α → Option β) (l) : X6 (none : Option α) k l = none := _root_.id rfl
theorem QnW {α : Type} (b : Bool) (q : Option α) (k : α → Option β) (l) (l') : X6 (Q7 b q l') k l = Q7 b (X6 q k l) () := by cases b <;> rfl
theorem QpK {α γ : Type} (o : Option γ) (e : γ → α) (k : α → Option β) (l) : X6 (o.map e) k l = o.bind (fun r => k (e r)) := by cases o <;> rfl
theorem QlS {α : Type} (i) : lk ([] : List (Nat × α)) i = none := _root_.id rfl
theorem QmV {α : Type} (i) (x : α) (l j) : lk ((i, x) :: l) j = sel (i == j) (some x) (lk l j) () := _root_.id rfl
end
section
variable {β : Type} {P : Program} {D : Orc} {a : Ann} {f : Fr} {K : KS} {Q : KT β} {k : AV → KS → Option β}
theorem QBw (l) : VD P D a .skip Q f K l = Q .normal f K := _root_.id rfl
theorem QHP (l) : VD P D a .ret Q f K l = Q .ret f K := _root_.id rfl
theorem QD3 (id l) : VD P D a (.exit id) Q f K l = Q (.exit id) f K := _root_.id rfl
theorem QFm (x y l) : VD P D a (.seq x y) Q f K l = VD P D a x (QpC (fun f K => VD P D a y Q f K ()) Q) f K () := _root_.id rfl
def QK9 (v : AV) (x y : Option β) (_ : Lk (x, y)) : Option β := match v with | .b b => cond b x y | _ => none
theorem QBi (c x y l) : VD P D a (.cond c x y) Q f K l = QK9 (ev f c) (VD P D a x Q f K ()) (VD P D a y Q f K ()) () := _root_.id rfl
theorem QGw (b) (x y : Option β) (l) : QK9 (.b b) x y l = cond b x y := _root_.id rfl
theorem QzU (id c l) : VD P D a (.block id c) Q f K l = VD P D a c (Qtf id Q) f K () := _root_.id rfl
theorem Qxc (id ol l) : VD P D a (.region id (List.toArray ol) false) Q f K l = ofz (lk a.fz id) f K (fun f K => QhS P D a id (lk a.av id) (List.toArray ol) Q f K ()) () := _root_.id rfl
theorem QOq (f : Fr) (K : KS) (k : Fr → KS → Option β) (l) : ofz none f K k l = k f K := _root_.id rfl
theorem QLF (f : Fr) (K : KS) (ss) (k : Fr → KS → Option β) (l) : ofz (some ss) f K k l = Qo4 ss f K k () := _root_.id rfl
theorem QL1 (f : Fr) (K : KS) (k : Fr → KS → Option β) (l) : Qo4 [] f K k l = k f K := _root_.id rfl
theorem QPb (f : Fr) (K : KS) (s ss) (k : Fr → KS → Option β) (l) : Qo4 (s :: ss) f K k l = Qy2 s (f s) f K (fun f K => Qo4 ss f K k ()) () := _root_.id rfl
theorem QN0 (f : Fr) (K : KS) (s j) (k : Fr → KS → Option β) (l) : Qy2 s (.sl j) f K k l = QzV s j (kg K j) f K k () := _root_.id rfl
theorem QNV (f : Fr) (K : KS) (s j m rows) (k : Fr → KS → Option β) (l) : QzV s j (some (.lst m rows)) f K k l = Q7 (QaN rows) (k (up f s (.imm m rows)) (K.set j none)) () := _root_.id rfl
theorem QGT (id ol l) : QhS P D a id none (List.toArray ol) Q f K l = QpX P D a id (lk a.an id) (List.toArray ol) ol Q f K () := _root_.id rfl
theorem QGM (id vs ol l) : QhS P D a id (some vs) (List.toArray ol) Q f K l = Zw vs P D (List.toArray ol) ol f K (fun f K => Q .normal f K) () := _root_.id rfl
theorem QB0 (vs ops) (k : Fr → KS → Option β) (l) : Zw vs P D ops [] f K k l = k f K := _root_.id rfl
theorem QxI (vs ops d o t p af r) (k : Fr → KS → Option β) (l) : Zw vs P D ops (⟨some d, o, t, p, af, none⟩ :: r) f K k l = Qkb vs P D o f K (fun v K' => Qjq v (fun v => Zw vs P D ops r (up f d v) K' k ()) ()) () := _root_.id rfl
theorem Qwd (vs ops o t p af r) (k : Fr → KS → Option β) (l) : Zw vs P D ops (⟨none, o, t, p, af, none⟩ :: r) f K k l = Qkb vs P D o f K (fun v K' => Zw vs P D ops r f K' k ()) () := _root_.id rfl
theorem QOb (vs ops r) (k : Fr → KS → Option β) (d op t pos after j want l) : Zw vs P D ops (⟨some d, op, t, pos, after, some (j, want)⟩ :: r) f K k l =
  ogd ((ops[j]?).bind (·.dst)) want f (fun f => Qkb vs P D op f K (fun v K' => Qjq v (fun v => Zw vs P D ops r (up f d v) K' k ()) ()) ()) (fun f => Qjq (.tup []) (fun v => Zw vs P D ops r (up f d v) K k ()) ()) () := _root_.id rfl
theorem QIa (vs ops r) (k : Fr → KS → Option β) (op t pos after j want l) : Zw vs P D ops (⟨none, op, t, pos, after, some (j, want)⟩ :: r) f K k l =
  ogd ((ops[j]?).bind (·.dst)) want f (fun f => Qkb vs P D op f K (fun v K' => Zw vs P D ops r f K' k ()) ()) (fun f => Zw vs P D ops r f K k ()) () := _root_.id rfl
def Qdu : Op → Bool
 | .call ⟨.value (.func _), _, _⟩ => true
 | _ => false
theorem QPk (vs o l) (k : AV → KS → Option β) (h : Qdu o = false) : Qkb vs P D o f K k l = oop P D o f K k () := by
 unfold Qdu at h
 unfold Qkb
 split
 ·cases h
 ·rfl
theorem QLm (vs g args ts l) (k : AV → KS → Option β) : Qkb vs P D (.call ⟨.value (.func g), args, ts⟩) f K k l = cond (vs.contains g) (Qce P D (.call ⟨.value (.func g), args, ts⟩) f K k ()) (oop P D (.call ⟨.value (.func g), args, ts⟩) f K k ()) := _root_.id rfl
theorem QxQ (x args ts) : Qdu (.call ⟨.value (.tmp x), args, ts⟩) = false := _root_.id rfl
theorem QF2 (b args ts) : Qdu (.call ⟨.builtin b, args, ts⟩) = false := _root_.id rfl
theorem QxH (x) : Qdu (.move x) = false := _root_.id rfl
theorem QB2 (x) : Qdu (.assign x) = false := _root_.id rfl
theorem QxE (t x) : Qdu (.load t x) = false := _root_.id rfl
theorem QvH (t x y) : Qdu (.store t x y) = false := _root_.id rfl
theorem QJG (t x i) : Qdu (.fieldAddr t x i) = false := _root_.id rfl
theorem QJt (t x i) : Qdu (.indexAddr t x i) = false := _root_.id rfl
theorem QCZ (x i) : Qdu (.extract x i) = false := _root_.id rfl
theorem QBC (o t x y u) : Qdu (.binOp o t x y u) = false := _root_.id rfl
theorem QHC (o t x) : Qdu (.unOp o t x) = false := _root_.id rfl
theorem QC7 (x) : Qdu (.nilCheck x) = false := _root_.id rfl
theorem QyP (c x y) : Qdu (.pick c x y) = false := _root_.id rfl
theorem Qvd (t ps) : Qdu (.build t ps) = false := _root_.id rfl
theorem QHJ (t n ps) : Qdu (.buildSlice t n ps) = false := _root_.id rfl
theorem Qv1 (t) : Qdu (.alloc t) = false := _root_.id rfl
theorem QEp (t x) : Qdu (.box t x) = false := _root_.id rfl
theorem QDB (t x lo hi m) : Qdu (.slice t x lo hi m) = false := _root_.id rfl
theorem QCp (t x i) : Qdu (.index t x i) = false := _root_.id rfl
theorem QFQ (s t x) : Qdu (.convert s t x) = false := _root_.id rfl
theorem Qrt (id ops ol l) : QpX P D a id none ops ol Q f K l = QoU P D a id (lk a.ac id) ops ol Q f K () := _root_.id rfl
theorem QrD (id us ops ol l) : QpX P D a id (some us) ops ol Q f K l = QgS P D ops us ol f K (fun f K => Q .normal f K) () := _root_.id rfl
theorem QrG (id ops ol l) : QoU P D a id none ops ol Q f K l = Qlf P D a id ops ol Q f K () := _root_.id rfl
theorem Qsu (id x ops ol l) : QoU P D a id (some x) ops ol Q f K l = Qfg P D ops ol f K (fun f K => Q .normal f K) () := _root_.id rfl
theorem QEj (ops) (k : Fr → KS → Option β) (l) : Qfg P D ops [] f K k l = k f K := _root_.id rfl
theorem Qzy (ops d o t p af r) (k : Fr → KS → Option β) (l) : Qfg P D ops (⟨some d, o, t, p, af, none⟩ :: r) f K k l = Qce P D o f K (fun v K' => Qjq v (fun v => Qfg P D ops r (up f d v) K' k ()) ()) () := _root_.id rfl
theorem QvU (ops o t p af r) (k : Fr → KS → Option β) (l) : Qfg P D ops (⟨none, o, t, p, af, none⟩ :: r) f K k l = Qce P D o f K (fun v K' => Qfg P D ops r f K' k ()) () := _root_.id rfl
theorem QyC (x l) : Qce P D (.move x) f K k l = oop P D (.move x) f K k () := _root_.id rfl
theorem Qug (x l) : Qce P D (.assign x) f K k l = oop P D (.assign x) f K k () := _root_.id rfl
theorem QyA (t x l) : Qce P D (.load t x) f K k l = oop P D (.load t x) f K k () := _root_.id rfl
theorem QwR (t x y l) : Qce P D (.store t x y) f K k l = oop P D (.store t x y) f K k () := _root_.id rfl
theorem QHG (t x i l) : Qce P D (.fieldAddr t x i) f K k l = oop P D (.fieldAddr t x i) f K k () := _root_.id rfl
theorem QFF (t x i l) : Qce P D (.indexAddr t x i) f K k l = oop P D (.indexAddr t x i) f K k () := _root_.id rfl
theorem QBI (x i l) : Qce P D (.extract x i) f K k l = oop P D (.extract x i) f K k () := _root_.id rfl
theorem QDe (o t x y u l) : Qce P D (.binOp o t x y u) f K k l = oop P D (.binOp o t x y u) f K k () := _root_.id rfl
theorem QwA (t ps l) : Qce P D (.build t ps) f K k l = oop P D (.build t ps) f K k () := _root_.id rfl
theorem QHo (o t x l) : Qce P D (.unOp o t x) f K k l = oop P D (.unOp o t x) f K k () := _root_.id rfl
theorem QCP (x l) : Qce P D (.nilCheck x) f K k l = oop P D (.nilCheck x) f K k () := _root_.id rfl
theorem Qyo (c x y l) : Qce P D (.pick c x y) f K k l = oop P D (.pick c x y) f K k () := _root_.id rfl
theorem QuW (t l) : Qce P D (.alloc t) f K k l = oop P D (.alloc t) f K k () := _root_.id rfl
theorem QEm (t x lo hi m l) : Qce P D (.slice t x lo hi m) f K k l = oop P D (.slice t x lo hi m) f K k () := _root_.id rfl
theorem QDk (t x i l) : Qce P D (.index t x i) f K k l = oop P D (.index t x i) f K k () := _root_.id rfl
theorem QFR (b xs ts l) : Qce P D (.call ⟨.builtin b, xs, ts⟩) f K k l = oop P D (.call ⟨.builtin b, xs, ts⟩) f K k () := _root_.id rfl
theorem QKw (s t x l) : Qce P D (.convert s t x) f K k l = oop P D (.convert s t x) f K k () := _root_.id rfl
theorem QDT (t x l) : Qce P D (.box t x) f K k l = oop P D (.box t x) f K k () := _root_.id rfl
def QtW (b c d e : Bool) (D : Orc) (g : FuncId) (K : KS) (vs : List AV) (k : AV → KS → Option β) (_ : Lk (vs, k)) : Option β := cond b (Qmv K vs k ()) (cond c (QlF K vs k ()) (cond d (QiX D g K vs k ()) (cond e (Qhb D g K vs k ()) (Qe6 D g K vs k ()))))
theorem QyD (x xs ts l) : Qce P D (.call ⟨.value x, List.toArray xs, ts⟩) f K k l = Qqc (ev f x) (fun g caps => QtW (D.s g) (D.q g) (D.w g) (D.v g) D g K (xs.map (ev f) ++ caps) k ()) () := _root_.id rfl
theorem s_t (g c d e) (K : KS) (vs) (k : AV → KS → Option β) (l) : QtW true c d e D g K vs k l = Qmv K vs k () := _root_.id rfl
theorem s_q (g d e) (K : KS) (vs) (k : AV → KS → Option β) (l) : QtW false true d e D g K vs k l = QlF K vs k () := _root_.id rfl
theorem s_f (g) (K : KS) (vs) (k : AV → KS → Option β) (l) : QtW false false false false D g K vs k l = Qe6 D g K vs k () := _root_.id rfl
theorem s_w (g e) (K : KS) (vs) (k : AV → KS → Option β) (l) : QtW false false true e D g K vs k l = Qkk D g K (QdM vs) vs k () := _root_.id rfl
theorem w_j (g) (K : KS) (js vs) (k : AV → KS → Option β) (l) : Qkk D g K js vs k l = Q7 (ndB js) (Qkl D g K js (QbH js vs) k ()) () := _root_.id rfl
theorem w_s (g) (K : KS) (js cs) (k : AV → KS → Option β) (l) : Qkl D g K js (some cs) k l = Q7 (Qhs (X3 K js)) (X6 (D.a g (X3 K js) cs) (fun r => k (Qa2 js K.length r.1) (QcL K js r.2)) ()) () := _root_.id rfl
theorem s_v (g) (K : KS) (vs) (k : AV → KS → Option β) (l) : QtW false false false true D g K vs k l = Qkt D g K (QdM vs) vs k () := _root_.id rfl
theorem v_j (g) (K : KS) (js vs) (k : AV → KS → Option β) (l) : Qkt D g K js vs k l = Q7 (ndB js) (Qkd D g K js (QbH js vs) k ()) () := _root_.id rfl
theorem v_s (g) (K : KS) (js cs) (k : AV → KS → Option β) (l) : Qkd D g K js (some cs) k l = Q7 (QqD (X3 K js)) (X6 (D.m g (X3 K js) cs) (fun x => k (Vt K.length x).1 (JP K js (Qam js) ++ (Vt K.length x).2)) ()) () := _root_.id rfl
theorem QIB : Qam [] = [] := _root_.id rfl
theorem QGW (j js) : Qam (j :: js) = none :: Qam js := _root_.id rfl
theorem p_0 (vs) : Qmh [] vs = vs := by cases vs <;> rfl
theorem p_e (ss) : Qmh ss [] = [] := by cases ss <;> rfl
theorem p_s (s ss v vs) : Qmh (s :: ss) (v :: vs) = Qq1 s v :: Qmh ss vs := _root_.id rfl
theorem p_n (v) : Qq1 .n v = v := by cases v <;> rfl
theorem p_z (k v) : Qq1 (.z k) v = nic k v := by cases v <;> rfl
theorem p_a (ns cs) : Qq1 (.a ns) (.agg cs) = .agg (ni ns cs) := _root_.id rfl
theorem QM7 (cs) : ni [] cs = cs := by cases cs <;> rfl
theorem QPJ (n ns c cs) : ni (n :: ns) (c :: cs) = nic n c :: ni ns cs := _root_.id rfl
theorem QO1 (n) : nic (n + 1) .nil = .imm (n + 1) [] := _root_.id rfl
theorem QPi : nic 0 .nil = .nil := _root_.id rfl
theorem QM0 (n c x) : nic n (.i c x) = .i c x := _root_.id rfl
theorem QOI (n x) : nic n (.b x) = .b x := _root_.id rfl
theorem QNJ (n x) : nic n (.s x) = .s x := _root_.id rfl
theorem QMl (n m r) : nic n (.imm m r) = .imm m r := _root_.id rfl
theorem QL3 : QdM [] = [] := _root_.id rfl
theorem QMD (c cs) : QdM (c :: cs) = Qla c ++ QdM cs := _root_.id rfl
theorem QFy (j) : Qla (.sl j) = [j] := _root_.id rfl
theorem QIv (j a b) : Qla (.ptr j a b) = [j] := _root_.id rfl
theorem QIQ (js j a b) : QbX js (.ptr j a b) = (QaS js j).map fun i => .ptr i a b := _root_.id rfl
theorem QPc (K js es) : QcL K js es = JP K js es ++ QgV js es := _root_.id rfl
theorem QLT (es) : QgV [] es = es := _root_.id rfl
theorem QNN (j js e es) : QgV (j :: js) (e :: es) = QgV js es := _root_.id rfl
theorem QOP (k i) : rix [] k i = k + i := _root_.id rfl
theorem QPx (j js k) : rix (j :: js) k 0 = j := _root_.id rfl
theorem QO2 (j js k) : rix (j :: js) k 1 = rix js k 0 := _root_.id rfl
theorem QL4 (j js k) : rix (j :: js) k 2 = rix js k 1 := _root_.id rfl
theorem QMT (j js k) : rix (j :: js) k 3 = rix js k 2 := _root_.id rfl
theorem QN7 (j js k) : rix (j :: js) k 4 = rix js k 3 := _root_.id rfl
theorem QMA (j js k) : rix (j :: js) k 5 = rix js k 4 := _root_.id rfl
theorem QLU (j js k) : rix (j :: js) k 6 = rix js k 5 := _root_.id rfl
theorem QPI (j js k) : rix (j :: js) k 7 = rix js k 6 := _root_.id rfl
theorem QMj (js k c n) : Qa2 js k (.i c n) = .i c n := by simp [Qa2]
theorem QLB (js k x) : Qa2 js k (.b x) = .b x := by simp [Qa2]
theorem QOQ (js k x) : Qa2 js k (.s x) = .s x := by simp [Qa2]
theorem QNO (js k) : Qa2 js k .nil = .nil := by simp [Qa2]
theorem QMI (js k n r) : Qa2 js k (.imm n r) = .imm n r := by simp [Qa2]
theorem QFC (js k i) : Qa2 js k (.sl i) = .sl (rix js k i) := by simp [Qa2]
theorem QH8 (js k i a b) : Qa2 js k (.ptr i a b) = .ptr (rix js k i) a b := by simp [Qa2]
theorem QGq (js k cs) : Qa2 js k (.agg cs) = .agg (Qey js k cs) := by simp [Qa2]
theorem QF7 (js k cs) : Qa2 js k (.tup cs) = .tup (Qey js k cs) := by simp [Qa2]
theorem QM2 (js k) : Qey js k [] = [] := by simp [Qey]
theorem QN2 (js k c cs) : Qey js k (c :: cs) = Qa2 js k c :: Qey js k cs := by simp [Qey]
theorem QLR (m c n) : rok m (.i c n) = true := _root_.id rfl
theorem QNS (m x) : rok m (.b x) = true := _root_.id rfl
theorem QNo (m x) : rok m (.s x) = true := _root_.id rfl
theorem QOB (m) : rok m .nil = true := _root_.id rfl
theorem QN5 (m n r) : rok m (.imm n r) = true := _root_.id rfl
theorem QJv (m i) : rok m (.sl i) = Nat.ble (i + 1) m := _root_.id rfl
theorem QGs (m i a b) : rok m (.ptr i a b) = Nat.ble (i + 1) m := _root_.id rfl
theorem QG1 (m cs) : rok m (.agg cs) = Qmf m cs := _root_.id rfl
theorem QJZ (m cs) : rok m (.tup cs) = Qmf m cs := _root_.id rfl
theorem QO6 (m) : Qmf m [] = true := _root_.id rfl
theorem QPn (m c cs) : Qmf m (c :: cs) = (rok m c && Qmf m cs) := _root_.id rfl
theorem QMg (c n) : clc (.i c n) = true := _root_.id rfl
theorem QNi (x) : clc (.b x) = true := _root_.id rfl
theorem QLq (x) : clc (.s x) = true := _root_.id rfl
theorem QN9 : clc .nil = true := _root_.id rfl
theorem QNR (n r) : clc (.imm n r) = true := _root_.id rfl
theorem QKC : QnN [] = true := _root_.id rfl
theorem QHD (c cs) : QnN (c :: cs) = (clc c && QnN cs) := _root_.id rfl
theorem QN6 : Qhs [] = true := _root_.id rfl
theorem QMp (n r K) : Qhs (some (.lst n r) :: K) = Qhs K := _root_.id rfl
theorem QHW (cs K) : Qhs (some (.box cs) :: K) = (QnN cs && Qhs K) := _root_.id rfl
theorem QCF (cs) : Qla (.agg cs) = QdM cs := _root_.id rfl
theorem QPf (c n) : Qla (.i c n) = [] := _root_.id rfl
theorem QN1 (x) : Qla (.b x) = [] := _root_.id rfl
theorem QIE (x) : Qla (.s x) = [] := _root_.id rfl
theorem QPC : Qla .nil = [] := _root_.id rfl
theorem QN4 (n r) : Qla (.imm n r) = [] := _root_.id rfl
theorem QM4 (g l) : Qla (.clo g l) = [] := _root_.id rfl
theorem QMi (js) : QbH js [] = some [] := _root_.id rfl
theorem QOH (js c cs) : QbH js (c :: cs) = (QbX js c).bind fun c' => (QbH js cs).map (c' :: ·) := _root_.id rfl
theorem QHw (js j) : QbX js (.sl j) = (QaS js j).map .sl := _root_.id rfl
theorem QBe (js cs) : QbX js (.agg cs) = (QbH js cs).map .agg := _root_.id rfl
theorem QOA (js c n) : QbX js (.i c n) = some (.i c n) := _root_.id rfl
theorem QOm (js x) : QbX js (.b x) = some (.b x) := _root_.id rfl
theorem QJO (js x) : QbX js (.s x) = some (.s x) := _root_.id rfl
theorem QOk (js) : QbX js .nil = some .nil := _root_.id rfl
theorem QNx (js n r) : QbX js (.imm n r) = some (.imm n r) := _root_.id rfl
theorem QOL (js g) : QbX js (.clo g []) = some (.clo g []) := _root_.id rfl
theorem Qi5 (x y : Nat) : Nat.beq x y = (x == y) := by rw [Bool.eq_iff_iff]; simp
theorem QM5 (x l j) : QaS (x :: l) j = sel (x == j) (some 0) ((QaS l j).map (· + 1)) () := by rw [← Qi5]; rfl
theorem QOx (K) : X3 K [] = [] := _root_.id rfl
theorem QPD (K j js) : X3 K (j :: js) = kg K j :: X3 K js := _root_.id rfl
theorem QMq (K es) : JP K [] es = K := by cases es <;> rfl
theorem QNg (K j js e es) : JP K (j :: js) (e :: es) = JP (K.set j e) js es := _root_.id rfl
theorem QNL : QqD [] = true := _root_.id rfl
theorem QPd (n r K) : QqD (some (.lst n r) :: K) = QqD K := _root_.id rfl
theorem QMP (c n) : AV.scal (.i c n) = true := _root_.id rfl
theorem QO4 (x) : AV.scal (.b x) = true := _root_.id rfl
theorem QMR (x) : AV.scal (.s x) = true := _root_.id rfl
theorem QLC (c n) : AV.flat (.i c n) = true := _root_.id rfl
theorem QOe (x) : AV.flat (.b x) = true := _root_.id rfl
theorem QNc (x) : AV.flat (.s x) = true := _root_.id rfl
theorem QL8 : AV.flat (.tup []) = true := _root_.id rfl
theorem QNv : Qwx .one = true := _root_.id rfl
theorem w_p (x g j i o) (k : AV → KS → Option β) (l) : onp D f K (.ptr j i o) x g k l = onj D f K x g j i o (kg K j) k () := _root_.id rfl
theorem QMB (x g j i o q r) (k : AV → KS → Option β) (l) : onj D f K x g j i o (some (.lst q r)) k l = onx D f K x g j i o q r ((Qy r i).drop o) k () := _root_.id rfl
theorem w_x (x g j i o q r m rs cs) (k : AV → KS → Option β) (l) : onx D f K x g j i o q r (.own m rs :: cs) k l = Q7 x.scal (X6 (D.a g [some (.lst m rs)] [.sl 0, x]) (fun s => onr D f K j i o q r s k ()) ()) () := _root_.id rfl
theorem QMf (u us ops d o t p af r) (k : Fr → KS → Option β) (l) : QgS P D ops (u :: us) (⟨some d, o, t, p, af, none⟩ :: r) f K k l = oop P D o f K (fun v K' => Qjq v (fun v => QgS P D ops us r (up f d v) K' k ()) ()) () := _root_.id rfl
def QAc (d : Option Tmp) (v : AV) (f : Fr) (k : Fr → Option β) (_ : Lk (f, k)) : Option β := match d with
 | some d => Qjq v (fun v => k (up f d v)) ()
 | none => k f
theorem Qz2 (d v f) (k : Fr → Option β) (l) : QAc (some d) v f k l = Qjq v (fun v => k (up f d v)) () := _root_.id rfl
theorem QNm (ops d t p y1 p1 a1 e x y2 p2 a2 dst g d' e' ts y3 p3 a3 r) (k : Fr → KS → Option β) (l) : QgS P D ops [] (⟨some d, .load t p, y1, p1, a1, none⟩ :: ⟨some e, .move x, y2, p2, a2, none⟩ :: ⟨dst, .call ⟨.value (.func g), List.toArray [.tmp d', .tmp e'], ts⟩, y3, p3, a3, none⟩ :: r) f K k l =
  Q7 (Qwx (tk P t) && ((d == d') && ((e == e') && !(d == e)))) (onp D f K (ev f p) (ev (up f d (.sl K.length)) x) g (fun v K' => QAc dst v (up (up f d (.sl K.length)) e (ev (up f d (.sl K.length)) x)) (fun f => Qfg P D ops r f K' k ()) ()) ()) () := by rw [← Qi5, ← Qi5, ← Qi5]; cases dst <;> rfl
theorem QEN (a b l) : oop P D (.makeInterface a b) f K k l = none := _root_.id rfl
theorem QGZ (a l) : oop P D (.panic a) f K k l = none := _root_.id rfl
theorem QmP (t len ps l) : Qce P D (.buildSlice t len ps) f K k l = oop P D (.buildSlice t len ps) f K k () := _root_.id rfl
def Qqx (o : Option (List Int)) (K : KS) (j : Nat) (k : AV → KS → Option β) (_ : Lk k) : Option β := match o with
 | some xs => Q7 (decide (xs.length < 4611686018427387904)) (V0 (K.set j none ++ [some (.lst 1 ((XG xs).map cI))]) (fun K' => k (.sl K.length) K') ()) ()
 | none => none
def QvJ (e : Option Ent) (K : KS) (j : Nat) (k : AV → KS → Option β) (_ : Lk k) : Option β := match e with
 | some (.lst 1 rows) => Qqx (QbM rows) K j k ()
 | _ => none
theorem QLK (K : KS) (j) (k : AV → KS → Option β) (l) : QlF K [.sl j] k l = QvJ (kg K j) K j k () := _root_.id rfl
theorem QHZ (r) (K : KS) (j) (k : AV → KS → Option β) (l) : QvJ (some (.lst 1 r)) K j k l = Qqx (QbM r) K j k () := _root_.id rfl
theorem QDn (xs) (K : KS) (j) (k : AV → KS → Option β) (l) : Qqx (some xs) K j k l = Q7 (decide (xs.length < 4611686018427387904)) (V0 (K.set j none ++ [some (.lst 1 ((XG xs).map cI))]) (fun K' => k (.sl K.length) K') ()) () := _root_.id rfl
def Qq5 (o : Option (List Int)) (K : KS) (j : Nat) (k : AV → KS → Option β) (_ : Lk k) : Option β := match o with
 | some xs => Q7 (decide (xs.length < 4611686018427387904)) (V0 (K.set j (some (.lst 1 ((Je xs).map cI)))) (fun K => k (.tup []) K) ()) ()
 | none => none
def Qut (e : Option Ent) (K : KS) (j : Nat) (k : AV → KS → Option β) (_ : Lk k) : Option β := match e with
 | some (.lst 1 rows) => Qq5 (QbM rows) K j k ()
 | _ => none
theorem QOy (K : KS) (j) (k : AV → KS → Option β) (l) : Qmv K [.sl j] k l = Qut (kg K j) K j k () := _root_.id rfl
theorem QIW (r) (K : KS) (j) (k : AV → KS → Option β) (l) : Qut (some (.lst 1 r)) K j k l = Qq5 (QbM r) K j k () := _root_.id rfl
theorem QDo (xs) (K : KS) (j) (k : AV → KS → Option β) (l) : Qq5 (some xs) K j k l = Q7 (decide (xs.length < 4611686018427387904)) (V0 (K.set j (some (.lst 1 ((Je xs).map cI)))) (fun K => k (.tup []) K) ()) () := _root_.id rfl
theorem QqK : ∀ xs : List Int, QbM (xs.map fun x => [.i .i64 x]) = some xs
 | [] => rfl
 | x :: xs => by rw [List.map_cons, QbM, QqK xs]; rfl
noncomputable def Qwz (P : Program) (D : Orc) (a : Ann) (id : Nat) (ops : Array Oper) (o : Option (List Nat)) (Q : KT β) (f : Fr) (K : KS) (_ : Lk (ops, Q, f)) : Option β := Qlf P D a id ops (QoA ops o) Q f K ()
theorem QyQ (id ol l) : VD P D a (.region id (List.toArray ol) true) Q f K l = ofz (lk a.fz id) f K (fun f K => QhX P D a id (lk a.av id) (List.toArray ol) Q f K ()) () := _root_.id rfl
theorem QKf (id ol l) : QhX P D a id none (List.toArray ol) Q f K l = QpD P D a id (lk a.eb id) (List.toArray ol) Q f K () := _root_.id rfl
theorem QLi (id vs ol l) : QhX P D a id (some vs) (List.toArray ol) Q f K l = Qo2 vs P D a id (lk a.ot id) (List.toArray ol) Q f K () := _root_.id rfl
theorem QEX (id vs ol l) : Qo2 vs P D a id none (List.toArray ol) Q f K l = Qsf vs P D (List.toArray ol) (lk a.ord id) Q f K () := _root_.id rfl
theorem QIT (id vs t ops l) : Qo2 vs P D a id (some t) ops Q f K l = Qa9 vs P D ops t f K (fun f K => Q .normal f K) () := _root_.id rfl
theorem QE8 (vs ol l) : Qsf vs P D (List.toArray ol) none Q f K l = Zw vs P D (List.toArray ol) ol f K (fun f K => Q .normal f K) () := _root_.id rfl
theorem QJa (id ops l) : QpD P D a id none ops Q f K l = Qfu P D a id ops (lk a.ot id) Q f K () := _root_.id rfl
noncomputable def QAV (P : Program) (D : Orc) (a : Ann) (id : Nat) (ol : List Oper) (Q : KT β) (f : Fr) (K : KS) (_ : Lk (Q, f)) : Option β := Qfu P D a id (List.toArray ol) (lk a.ot id) Q f K ()
theorem QFo (id ds ol l) : QpD P D a id (some ds) (List.toArray ol) Q f K l = QAV P D a id (ol.map (XU ds)) Q f K () := by
 show Qfu P D a id ((List.toArray ol).map (XU ds)) (lk a.ot id) Q f K () = Qfu P D a id (List.toArray (ol.map (XU ds))) (lk a.ot id) Q f K ()
 rw [List.map_toArray]
theorem c_M (id o r l) : QAV P D a id (o :: r) Q f K l = Qfu P D a id (List.toArray (o :: r)) (lk a.ot id) Q f K () := _root_.id rfl
theorem QKz (ds d t y p e g) : XU ds ⟨d, .buildSlice t 0 (List.toArray []), y, p, e, g⟩ = ⟨d, .move (.const (.slice none 0 0)), y, p, e, g⟩ := _root_.id rfl
theorem QK6 (ds d t m ps y p e g) : XU ds ⟨d, .buildSlice t (m + 1) ps, y, p, e, g⟩ = ⟨d, .buildSlice t (m + 1) ps, y, p, e, g⟩ := _root_.id rfl
theorem QDu (ds d s x ts y p e g) : XU ds ⟨d, .call ⟨.builtin .append, List.toArray [.tmp s, x], ts⟩, y, p, e, g⟩ = cond (ds.contains s) ⟨d, .call ⟨.builtin .append, List.toArray [.const (.slice none 0 0), x], ts⟩, y, p, e, g⟩ ⟨d, .call ⟨.builtin .append, List.toArray [.tmp s, x], ts⟩, y, p, e, g⟩ := _root_.id rfl
theorem QDh (ds d xs ts y p e g) : XU ds ⟨d, .call ⟨.builtin .len, xs, ts⟩, y, p, e, g⟩ = ⟨d, .call ⟨.builtin .len, xs, ts⟩, y, p, e, g⟩ := _root_.id rfl
theorem QzH (ds d v xs ts y p e g) : XU ds ⟨d, .call ⟨.value v, xs, ts⟩, y, p, e, g⟩ = ⟨d, .call ⟨.value v, xs, ts⟩, y, p, e, g⟩ := _root_.id rfl
theorem Qx3 (ds d x y p e g) : XU ds ⟨d, .move x, y, p, e, g⟩ = ⟨d, .move x, y, p, e, g⟩ := _root_.id rfl
theorem QBY (ds d x y p e g) : XU ds ⟨d, .assign x, y, p, e, g⟩ = ⟨d, .assign x, y, p, e, g⟩ := _root_.id rfl
theorem Qxx (ds d t x y p e g) : XU ds ⟨d, .load t x, y, p, e, g⟩ = ⟨d, .load t x, y, p, e, g⟩ := _root_.id rfl
theorem QuC (ds d t x z y p e g) : XU ds ⟨d, .store t x z, y, p, e, g⟩ = ⟨d, .store t x z, y, p, e, g⟩ := _root_.id rfl
theorem QLx (ds d t x i y p e g) : XU ds ⟨d, .fieldAddr t x i, y, p, e, g⟩ = ⟨d, .fieldAddr t x i, y, p, e, g⟩ := _root_.id rfl
theorem QJR (ds d t x i y p e g) : XU ds ⟨d, .indexAddr t x i, y, p, e, g⟩ = ⟨d, .indexAddr t x i, y, p, e, g⟩ := _root_.id rfl
theorem Qwe (ds d t ps y p e g) : XU ds ⟨d, .build t ps, y, p, e, g⟩ = ⟨d, .build t ps, y, p, e, g⟩ := _root_.id rfl
theorem QDG (ds d o t x z u y p e g) : XU ds ⟨d, .binOp o t x z u, y, p, e, g⟩ = ⟨d, .binOp o t x z u, y, p, e, g⟩ := _root_.id rfl
theorem QBB (ds d x y p e g) : XU ds ⟨d, .nilCheck x, y, p, e, g⟩ = ⟨d, .nilCheck x, y, p, e, g⟩ := _root_.id rfl
theorem QER (ds d o t x y p e g) : XU ds ⟨d, .unOp o t x, y, p, e, g⟩ = ⟨d, .unOp o t x, y, p, e, g⟩ := _root_.id rfl
theorem QBn (ds d x i y p e g) : XU ds ⟨d, .extract x i, y, p, e, g⟩ = ⟨d, .extract x i, y, p, e, g⟩ := _root_.id rfl
theorem QBh (ds d t x y p e g) : XU ds ⟨d, .box t x, y, p, e, g⟩ = ⟨d, .box t x, y, p, e, g⟩ := _root_.id rfl
theorem QvK (ds d t y p e g) : XU ds ⟨d, .alloc t, y, p, e, g⟩ = ⟨d, .alloc t, y, p, e, g⟩ := _root_.id rfl
theorem Qv3 (ds d t x lo hi mx y p e g) : XU ds ⟨d, .slice t x lo hi mx, y, p, e, g⟩ = ⟨d, .slice t x lo hi mx, y, p, e, g⟩ := _root_.id rfl
theorem Qvo (id ol l) : Qfu P D a id (List.toArray ol) none Q f K l = Qwz P D a id (List.toArray ol) (lk a.ord id) Q f K () := _root_.id rfl
theorem Qxo (id ops t l) : Qfu P D a id ops (some t) Q f K l = QcY P D ops t f K (fun f K => Q .normal f K) () := _root_.id rfl
noncomputable def Qqo (P : Program) (D : Orc) (ops : Array Oper) (o : Option Oper) (t : OT) (f : Fr) (K : KS) (k : Fr → KS → Option β) (_ : Lk (ops, f, k)) : Option β := match o with
 | some o => Qcr P D ops [o] f K (fun f K => QcY P D ops t f K k ()) ()
 | none => none
theorem Qv8 (ops) (k : Fr → KS → Option β) (l) : QcY P D ops .done f K k l = k f K := _root_.id rfl
theorem QIq (ol i t) (k : Fr → KS → Option β) (l) : QcY P D (List.toArray ol) (.one i t) f K k l = Qqo P D (List.toArray ol) (ol[i]?) t f K k () := by
 have : (List.toArray ol)[i]? = ol[i]? := by simp
 unfold QcY Qqo
 rw [this]
 cases ol[i]? <;> rfl
theorem Quu (ops o t) (k : Fr → KS → Option β) (l) : Qqo P D ops (some o) t f K k l = Qcr P D ops [o] f K (fun f K => QcY P D ops t f K k ()) () := _root_.id rfl
theorem QvV (vs ops) (k : Fr → KS → Option β) (l) : Qa9 vs P D ops .done f K k l = k f K := _root_.id rfl
noncomputable def Qn2 (vs : List Nat) (P : Program) (D : Orc) (ops : Array Oper) (o : Option Oper) (t : OT) (f : Fr) (K : KS) (k : Fr → KS → Option β) (_ : Lk (ops, f, k)) : Option β := match o with
 | some o => Zw vs P D ops [o] f K (fun f K => Qa9 vs P D ops t f K k ()) ()
 | none => none
theorem QAM (vs ol i t) (k : Fr → KS → Option β) (l) : Qa9 vs P D (List.toArray ol) (.one i t) f K k l = Qn2 vs P D (List.toArray ol) (ol[i]?) t f K k () := by
 have : (List.toArray ol)[i]? = ol[i]? := by simp
 unfold Qa9 Qn2
 rw [this]
 cases ol[i]? <;> rfl
theorem Qxf (vs ops o t) (k : Fr → KS → Option β) (l) : Qn2 vs P D ops (some o) t f K k l = Zw vs P D ops [o] f K (fun f K => Qa9 vs P D ops t f K k ()) () := _root_.id rfl
theorem QAj (vs ops a b) (k : Fr → KS → Option β) (l) : Qa9 vs P D ops (.alt a b) f K k l = oeq (Qa9 vs P D ops a f K k ()) (Qa9 vs P D ops b f K k ()) := _root_.id rfl
theorem QE3 (ops a b) (k : Fr → KS → Option β) (l) : QcY P D ops (.alt a b) f K k l = oeq (QcY P D ops a f K k ()) (QcY P D ops b f K k ()) := _root_.id rfl
theorem Xj (x : Option β) : oeq x x = x := by simp [oeq]
theorem VT (p q : Bool) (x : Option β) (l l' : Unit) : Q7 p (Q7 q x l) l' = Q7 q (Q7 p x l) l' := by cases p <;> cases q <;> rfl
theorem QCE (id ol l) : Qwz P D a id (List.toArray ol) none Q f K l = Qlf P D a id (List.toArray ol) ol Q f K () := _root_.id rfl
def pk : List Oper → List Nat → List Oper
 | _, [] => []
 | ol, i :: is => match ol[i]? with | some o => o :: pk ol is | none => pk ol is
noncomputable def QAE (P : Program) (D : Orc) (a : Ann) (id : Nat) (ops : Array Oper) (l : List Oper) (Q : KT β) (f : Fr) (K : KS) (_ : Lk (ops, Q, f)) : Option β := Qlf P D a id ops l Q f K ()
theorem QmL (ol is) : QoA (List.toArray ol) (some is) = pk ol is := by
 show is.filterMap (fun i => (List.toArray ol)[i]?) = _
 induction is with
 | nil => rfl
 | cons i is ih =>
  rw [pk, List.filterMap_cons]
  have : (List.toArray ol)[i]? = ol[i]? := by simp
  rw [this]
  cases ol[i]? with
  | none => simpa using ih
  | some o => rw [← ih]
theorem QEb (id ol is l) : Qwz P D a id (List.toArray ol) (some is) Q f K l = QAE P D a id (List.toArray ol) (pk ol is) Q f K () := by
 show Qlf P D a id _ (QoA _ _) Q f K () = _
 rw [QmL]; rfl
noncomputable def QAT (vs : List Nat) (P : Program) (D : Orc) (ops : Array Oper) (l : List Oper) (Q : KT β) (f : Fr) (K : KS) (_ : Lk (ops, Q, f)) : Option β := Zw vs P D ops l f K (fun f K => Q .normal f K) ()
theorem QO0 (vs ol is l) : Qsf vs P D (List.toArray ol) (some is) Q f K l = QAT vs P D (List.toArray ol) (pk ol is) Q f K () := by
 show Zw vs P D _ (QoA _ _) f K _ () = _
 rw [QmL]; rfl
theorem c_K (vs ops o r l) : QAT vs P D ops (o :: r) Q f K l = Zw vs P D ops (o :: r) f K (fun f K => Q .normal f K) () := _root_.id rfl
theorem QFD (ol) : pk ol [] = [] := _root_.id rfl
def pkO (o : Option Oper) (l : List Oper) : List Oper := match o with | some o => o :: l | none => l
theorem QGf (ol i is) : pk ol (i :: is) = pkO (ol[i]?) (pk ol is) := by rw [pk]; cases ol[i]? <;> rfl
theorem QKm (o l) : pkO (some o) l = o :: l := _root_.id rfl
theorem QBr (id ops o r l) : QAE P D a id ops (o :: r) Q f K l = Qlf P D a id ops (o :: r) Q f K () := _root_.id rfl
theorem QLe {α : Type} (x : α) (l : List α) : (x :: l)[0]? = some x := _root_.id rfl
theorem QLA {α : Type} (x : α) (l : List α) (i : Nat) : (x :: l)[i + 1]? = l[i]? := _root_.id rfl
theorem QFI {α : Type} (l : List α) (i : Nat) : (List.toArray l)[i]? = l[i]? := by simp
theorem QsV {α γ : Type} (x : α) (g : α → Option γ) : (some x).bind g = g x := _root_.id rfl
noncomputable def Qvb (P : Program) (D : Orc) (j : Option (Nat × Nat × Nat)) (ops : Array Oper) (l : List Oper) (Q : KT β) (f : Fr) (K : KS) (_ : Lk (l, Q, f)) : Option β :=
 match j with
 | none => Qcr P D ops l f K (fun f K => Q .normal f K) ()
 | some (s, lo, hi) => Qmz (Qcr P D ops l f K (fun f _ => asB (f s)) ()) (fun c => Q .normal (up (Qt8 lo hi f) s (.b c)) K) ()
theorem QF6 (id ops ol l) : Qlf P D a id ops ol Q f K l = Qvb P D (lk a.jn id) ops ol Q f K () := _root_.id rfl
theorem Qvk (ops ol l) : Qvb P D none ops ol Q f K l = Qcr P D ops ol f K (fun f K => Q .normal f K) () := _root_.id rfl
theorem Qu8 (s lo hi ops ol l) : Qvb P D (some (s, lo, hi)) ops ol Q f K l = Qmz (Qcr P D ops ol f K (fun f _ => asB (f s)) ()) (fun c => Q .normal (up (Qt8 lo hi f) s (.b c)) K) () := _root_.id rfl
theorem QzB (o) (k : Bool → Option β) (l) : Qmz o k l = o.bind k := _root_.id rfl
theorem QJj (b) (k : Bool → Option β) (l) : Qmz (QjL b) k l = k b := _root_.id rfl
theorem QyZ (b x y) : cond b (QjL x) (QjL y) = QjL (cond b x y) := by cases b <;> rfl
theorem QLZ (b) : QjL b = some b := _root_.id rfl
theorem QJg (a b : Bool) : cond a b false = (a && b) := by cases a <;> rfl
theorem QPz (a b : Bool) : cond a true b = (a || b) := by cases a <;> rfl
theorem QEg (a b : Bool) : cond a false b = (!a && b) := by cases a <;> rfl
theorem QKE (b) : asB (.b b) = QjL b := _root_.id rfl
def QAh (D : Orc) (t : Nat) (z : List Nat) (la : Option LA) (Q : KT β) (f : Fr) (K : KS) (_ : Lk Q) : Option β :=
 match la with
 | some la => QdF z la.sl la.rg f K (fun f K => X6 (D.l t f K) (fun o => Q o.1 o.2.1 o.2.2) ()) ()
 | none => none
theorem QBk (c l) : VD P D a (.loop c) Q f K l = QAh D (tag c) a.ak (lk a.lp (tag c)) Q f K () := _root_.id rfl
theorem QrU (t z la l) : QAh D t z (some la) Q f K l = QdF z la.sl la.rg f K (fun f K => X6 (D.l t f K) (fun o => Q o.1 o.2.1 o.2.2) ()) () := _root_.id rfl
theorem Qh2 (id o d) : tag (.region id o d) = id := _root_.id rfl
theorem QtL (x y) : tag (.seq x y) = tag x := _root_.id rfl
theorem QqU (c x y) : tag (.cond c x y) = tag x := _root_.id rfl
theorem Qoz (i x) : tag (.block i x) = tag x := _root_.id rfl
theorem Qq9 (x) : tag (.loop x) = tag x := _root_.id rfl
theorem Qvl (k : Fr → KS → Option β) (Q f K) : QpC k Q .normal f K = k f K := _root_.id rfl
theorem Quy (k : Fr → KS → Option β) (Q f K) : QpC k Q .ret f K = Q .ret f K := _root_.id rfl
theorem QuA (k : Fr → KS → Option β) (Q id f K) : QpC k Q (.exit id) f K = Q (.exit id) f K := _root_.id rfl
theorem Qyb (i f K) : Qtf i Q .normal f K = Q .normal f K := _root_.id rfl
theorem Qyi (i f K) : Qtf i Q .ret f K = Q .ret f K := _root_.id rfl
theorem QxX (i j f K) : Qtf i Q (.exit j) f K = sel (j == i) (Q .normal f K) (Q (.exit j) f K) () := _root_.id rfl
theorem QIk (ops) (k : Fr → KS → Option β) (l) : Qcr P D ops [] f K k l = k f K := _root_.id rfl
theorem QDf (ops r) (k : Fr → KS → Option β) (d op t pos after l) : Qcr P D ops (⟨some d, op, t, pos, after, none⟩ :: r) f K k l = oop P D op f K (fun v K' => Qjq v (fun v => Qcr P D ops r (up f d v) K' k ()) ()) () := _root_.id rfl
theorem Qym (ops r) (k : Fr → KS → Option β) (op t pos after l) : Qcr P D ops (⟨none, op, t, pos, after, none⟩ :: r) f K k l = oop P D op f K (fun v K' => Qcr P D ops r f K' k ()) () := _root_.id rfl
theorem c_g (ops r) (k : Fr → KS → Option β) (d op t pos after j want l) : Qcr P D ops (⟨some d, op, t, pos, after, some (j, want)⟩ :: r) f K k l =
  ogd ((ops[j]?).bind (·.dst)) want f (fun f => oop P D op f K (fun v K' => Qjq v (fun v => Qcr P D ops r (up f d v) K' k ()) ()) ()) (fun f => Qjq (.tup []) (fun v => Qcr P D ops r (up f d v) K k ()) ()) () := _root_.id rfl
theorem QM1 (ops r) (k : Fr → KS → Option β) (op t pos after j want l) : Qcr P D ops (⟨none, op, t, pos, after, some (j, want)⟩ :: r) f K k l =
  ogd ((ops[j]?).bind (·.dst)) want f (fun f => oop P D op f K (fun v K' => Qcr P D ops r f K' k ()) ()) (fun f => Qcr P D ops r f K k ()) () := _root_.id rfl
def QzL (v : AV) (d : Nat) (want : Bool) (f : Fr) (yes no : Fr → Option β) (_ : Lk (f, yes, no)) : Option β :=
 match v with
 | .b x => cond x (cond want (yes (up f d (.b true))) (no (up f d (.b true)))) (cond want (no (up f d (.b false))) (yes (up f d (.b false))))
 | .tup [] => no f
 | _ => none
theorem QOM (d want) (yes no : Fr → Option β) (l) : ogd (some d) want f yes no l = QzL (f d) d want f yes no () := by
 cases want <;> rfl
theorem QAB (b d) (yes no : Fr → Option β) (l) : QzL (.b b) d true f yes no l = cond b (yes (up f d (.b true))) (no (up f d (.b false))) := _root_.id rfl
theorem QAF (b d) (yes no : Fr → Option β) (l) : QzL (.b b) d false f yes no l = cond b (no (up f d (.b true))) (yes (up f d (.b false))) := _root_.id rfl
theorem QzZ (d w) (yes no : Fr → Option β) (l) : QzL (.tup []) d w f yes no l = no f := _root_.id rfl
theorem QDA (x l) : oop P D (.move x) f K k l = k (ev f x) K := _root_.id rfl
theorem QuN (x l) : oop P D (.assign x) f K k l = k (ev f x) K := _root_.id rfl
theorem QBp (c x y l) : oop P D (.pick c x y) f K k l = QkN (ev f c) (ev f x) (ev f y) (fun v => k v K) () := _root_.id rfl
theorem Qy6 (t l) : oop P D (.alloc t) f K k l = Qlu K (tzc P t) k () := _root_.id rfl
theorem QFB (t v l) : oop P D (.box t v) f K k l = QqO K (ev f v) k () := _root_.id rfl
theorem QyT (t ps l) : oop P D (.build t (List.toArray ps)) f K k l = Qi3 K (tbd P t) (ps.map fun p => (p.1, ev f p.2)) (fun v => k v K) () := _root_.id rfl
theorem Qun (t len ps l) : oop P D (.buildSlice t len (List.toArray ps)) f K k l = Qgq (zB (Qdi P t)) (Qdi P t) K (tse P t) len (ps.map fun p => (p.1, ev f p.2)) k () := _root_.id rfl
theorem QB8 (t x l) : oop P D (.load t x) f K k l = QgR (tk P t) (XZ K (ev f x)) (fun v => k v K) () := _root_.id rfl
theorem Qzj (t p v l) : oop P D (.store t p v) f K k l = QhI (flT P t) (slz P 9 t) K (tk P t) (ev f p) (ev f v) (fun K => k .u K) () := _root_.id rfl
theorem QGH (op t x y s l) : oop P D (.binOp op t x (.tmp y) s) f K k l = JD (QjN P t) op (ev f x) (ev f (.tmp y)) (fun v => k v K) () := _root_.id rfl
theorem QD1 (op t x c n s l) : oop P D (.binOp op t x (.const (.int c n)) s) f K k l = JD (QjN P t) op (ev f x) (ev f (.const (.int c n))) (fun v => k v K) () := _root_.id rfl
theorem QBs (op t x c s l) : oop P D (.binOp op t x (.const (.bool c)) s) f K k l = JD (QjN P t) op (ev f x) (ev f (.const (.bool c))) (fun v => k v K) () := _root_.id rfl
theorem QBL (op t x c s l) : oop P D (.binOp op t x (.const (.string c)) s) f K k l = JD (QjN P t) op (ev f x) (ev f (.const (.string c))) (fun v => k v K) () := _root_.id rfl
theorem QBQ (op t x s l) (h : QkL P t = true) : oop P D (.binOp op t x (.const (.slice none 0 0)) s) f K k l = QiM op (ev f x) (fun v => k v K) () := by simp [oop, Qbb, h]
theorem QFW (g caps l) : oop P D (.makeFunc (.func g) (List.toArray []) (List.toArray caps)) f K k l = k (.clo g (caps.map (ev f))) K := by simp [oop]
theorem QKM (s t x l) (h : bsl P s = true) : oop P D (.convert s t x) f K k l = Qow K (ti P t) (ev f x) (fun v => k v K) () := by simp [oop, h]
theorem QIF (s t x l) (h : bsl P s = false) (h2 : tok P s = true) : oop P D (.convert s t x) f K k l = QpU (ti P t) (ev f x) (fun v => k v K) () := by simp [oop, h, h2]
theorem QJw (t x lo hi l) : oop P D (.slice t x lo hi none) f K k l = QgB (ti P t) (ev f x) (lo.map (ev f)) (hi.map (ev f)) (fun v => k v K) () := _root_.id rfl
theorem QGJ (t x i l) : oop P D (.index t x i) f K k l = Qus (ti P t) (ev f x) (ev f i) (fun v => k v K) () := _root_.id rfl
theorem QKq (x l) : oop P D (.nilCheck x) f K k l = QwW K (ev f x) (fun v => k v K) () := _root_.id rfl
theorem QLP (op t x l) : oop P D (.unOp op t x) f K k l = oun op (ev f x) (fun v => k v K) () := _root_.id rfl
theorem QOV (t x fl l) : oop P D (.fieldAddr t x fl) f K k l = Quj K (ev f x) (tfo P t fl) (fun v => k v K) () := _root_.id rfl
theorem QMw (t x i l) : oop P D (.indexAddr t x i) f K k l = Qp3 K (ti P t) (ev f x) (ev f i) (fun v => k v K) () := _root_.id rfl
theorem QLz (x i l) : oop P D (.extract x i) f K k l = QuG (ev f x) i (fun v => k v K) () := _root_.id rfl
theorem QIY (x t ts l) : oop P D (.call ⟨.builtin .len, List.toArray [x], List.toArray (t :: ts)⟩) f K k l = QoL K (ti P t) (ev f x) (fun v => k v K) () := _root_.id rfl
theorem QHI (x y ts l) : oop P D (.call ⟨.builtin .min, List.toArray [x, y], ts⟩) f K k l = Qxr (ev f x) (ev f y) (fun v => k v K) () := _root_.id rfl
theorem QHL (x y ts l) : oop P D (.call ⟨.builtin .max, List.toArray [x, y], ts⟩) f K k l = Quq (ev f x) (ev f y) (fun v => k v K) () := _root_.id rfl
theorem QCL (g args ts l) : oop P D (.call ⟨.value g, List.toArray args, ts⟩) f K k l = Qqc (ev f g) (fun g caps => Qe6 D g K (args.map (ev f) ++ caps) k ()) () := _root_.id rfl
theorem QIA (g caps) (k : FuncId → List AV → Option β) (l) : Qqc (.clo g caps) k l = k g caps := _root_.id rfl
theorem QzX (g vs l) : Qe6 D g K vs k l = X6 (D.p g (Qmh (D.z g) (Qci K vs))) (fun x => k (Vt K.length x).1 (K ++ (Vt K.length x).2)) () := _root_.id rfl
end
def QCG {β : Type} (o : Option Bool) (k : Bool → Option β) (_ : Lk k) : Option β := match o with | some b => k b | none => none
section
variable {β : Type} {k : AV → Option β} {c : IntKind} {a b : Int} {te : Option (List CK)}
theorem QD0 (K j i o l) : QwW K (.ptr j i o) k l = QsR (kg K j) (.ptr j i o) k () := _root_.id rfl
theorem QDz (e x l) : QsR (some e) x k l = k x := _root_.id rfl
theorem QBW (K n r i o l) : QwW K (.iptr n r i o) k l = k (.iptr n r i o) := _root_.id rfl
theorem QAx (l) : JD te .and (.i c a) (.i c b) k l = k (.i c (Qd3 .and c a b)) := by simp [JD, Qfn]
theorem QFS (l) : JD te .or (.i c a) (.i c b) k l = k (.i c (Qd3 .or c a b)) := by simp [JD, Qfn]
theorem QH1 (l) : JD te .xor (.i c a) (.i c b) k l = k (.i c (Qd3 .xor c a b)) := by simp [JD, Qfn]
theorem QJE (d l) : JD te .shl (.i c a) (.i d b) k l = Q7 (decide (0 ≤ b)) (k (.i c (shI .shl c a b))) () := by simp [JD, Qfn]
theorem QGx (d l) : JD te .shr (.i c a) (.i d b) k l = Q7 (decide (0 ≤ b)) (k (.i c (shI .shr c a b))) () := by simp [JD, Qfn]
theorem QKI (l) : JD te .add (.i c a) (.i c b) k l = k (.i c (c.wrap (a + b))) := by simp [JD, Qfn]
theorem QHN (l) : JD te .sub (.i c a) (.i c b) k l = k (.i c (c.wrap (a - b))) := by simp [JD, Qfn]
theorem QFP (l) : JD te .mul (.i c a) (.i c b) k l = k (.i c (c.wrap (a * b))) := by simp [JD, Qfn]
theorem QK3 (l) : JD te .quo (.i c a) (.i c b) k l = Q7 (!decide (b = 0)) (k (.i c (c.wrap (a.tdiv b)))) () := by simp [JD, Qfn]
theorem QG6 (l) : JD te .rem (.i c a) (.i c b) k l = Q7 (!decide (b = 0)) (k (.i c (a.tmod b))) () := by simp [JD, Qfn]
theorem QGC (l) : JD te .eql (.i c a) (.i c b) k l = k (.b (decide (a = b))) := by simp [JD, Qfn]
theorem QFp (l) : JD te .neq (.i c a) (.i c b) k l = k (.b (!decide (a = b))) := by simp [JD, Qfn]
theorem QEM (l) : JD te .lss (.i c a) (.i c b) k l = k (.b (decide (a < b))) := by simp [JD, Qfn]
theorem QFx (l) : JD te .leq (.i c a) (.i c b) k l = k (.b (decide (a ≤ b))) := by simp [JD, Qfn]
theorem QHR (l) : JD te .gtr (.i c a) (.i c b) k l = k (.b (decide (b < a))) := by simp [JD, Qfn]
theorem QJp (l) : JD te .geq (.i c a) (.i c b) k l = k (.b (decide (b ≤ a))) := by simp [JD, Qfn]
theorem QE7 (ks xs ys l) : JD (some ks) .eql (.agg xs) (.agg ys) k l = QCG (QH ks xs ys) (fun b => k (.b b)) () := _root_.id rfl
theorem QGh (ks xs ys l) : JD (some ks) .neq (.agg xs) (.agg ys) k l = QCG (QH ks xs ys) (fun b => k (.b (!b))) () := _root_.id rfl
theorem QJ1 (x y l) : JD (some [.t]) .eql (.b x) (.b y) k l = k (.b (decide (x = y))) := _root_.id rfl
theorem QGr (x y l) : JD (some [.t]) .neq (.b x) (.b y) k l = k (.b (!decide (x = y))) := _root_.id rfl
theorem QEU (b) (k : Bool → Option β) (l) : QCG (some b) k l = k b := _root_.id rfl
theorem QBE (x y l) : JD te .add (.s x) (.s y) k l = Q7 (QHB x y) (k (.s (QFY x y))) () := by simp [JD, QHB, QFY]
theorem QCr (x y l) : JD te .eql (.s x) (.s y) k l = k (.b (decide (x = y))) := by simp [JD]
theorem QEk (x y l) : JD te .neq (.s x) (.s y) k l = k (.b (!decide (x = y))) := by simp [JD]
def QAe (o : Option AV) (k : AV → Option β) (_ : Lk k) : Option β := match o with | some c => k c | none => none
theorem QIb (cs i l) : QuG (.tup cs) i k l = QAe (cs[i]?) k () := _root_.id rfl
theorem QBg (c l) : QAe (some c) k l = k c := _root_.id rfl
theorem QE1 : QH [] [] [] = some true := _root_.id rfl
theorem QLl (ks c x y xs ys) : QH (.i :: ks) (.i c x :: xs) (.i c y :: ys) = (QH ks xs ys).map (decide (x = y) && ·) := by simp [QH]
theorem QGy (ks x y xs ys) : QH (.b :: ks) (.b x :: xs) (.b y :: ys) = (QH ks xs ys).map (decide (x = y) && ·) := _root_.id rfl
theorem QHu (ks x y xs ys) : QH (.s :: ks) (.s x :: xs) (.s y :: ys) = (QH ks xs ys).map (decide (x = y) && ·) := _root_.id rfl
theorem QGP (x l) : oun .not (.b x) k l = k (.b (!x)) := _root_.id rfl
theorem QJe (l) : oun .neg (.i c a) k l = k (.i c (c.wrap (-a))) := _root_.id rfl
theorem Qxw (x y : AV) (l) : QkN (.b true) x y k l = k x := _root_.id rfl
theorem Qye (x y : AV) (l) : QkN (.b false) x y k l = k y := _root_.id rfl
theorem QyM (x y : Bool) (c : Bool) (l) : QkN (.b c) (.b x) (.b y) k l = k (.b (cond c x y)) := by cases c <;> rfl
theorem QJ3 (l) : Qxr (.i c a) (.i c b) k l = k (.i c (if b < a then b else a)) := _root_.id rfl
theorem QI9 (l) : Quq (.i c a) (.i c b) k l = k (.i c (if a < b then b else a)) := _root_.id rfl
theorem QI2 (e : Option Ent) (K : KS) : kg (e :: K) 0 = e := _root_.id rfl
theorem QHU (e : Option Ent) (K : KS) (j : Nat) : kg (e :: K) (j + 1) = kg K j := _root_.id rfl
theorem QCh {α : Type} (e e' : α) (K : List α) : (e :: K).set 0 e' = e' :: K := _root_.id rfl
theorem QBo {α : Type} (e e' : α) (K : List α) (j : Nat) : (e :: K).set (j + 1) e' = e :: K.set j e' := _root_.id rfl
theorem QJd {α : Type} (e : α) (K L : List α) : (e :: K) ++ L = e :: (K ++ L) := _root_.id rfl
theorem QA9 {α : Type} (L : List α) : [] ++ L = L := _root_.id rfl
theorem QDX {α : Type} : ([] : List α).length = 0 := _root_.id rfl
theorem QC3 {α : Type} (e : α) (K : List α) : (e :: K).length = K.length + 1 := _root_.id rfl
theorem QzE {α : Type} (K : List α) : K.drop 0 = K := _root_.id rfl
theorem Qyn {α : Type} (e : α) (K : List α) (n : Nat) : (e :: K).drop (n + 1) = K.drop n := _root_.id rfl
theorem Qyp {α : Type} (K : List α) : K.take 0 = [] := by simp
theorem Qzg {α : Type} (e : α) (K : List α) (n : Nat) : (e :: K).take (n + 1) = e :: K.take n := _root_.id rfl
def lnR (r : List (List AV)) : Int := r.length
theorem Qwk (K e m n r l) : QoL K (.sl e m) (.imm n r) k l = k (.i .i64 (lnR r)) := _root_.id rfl
theorem QEC (n r) (k : AV → Option β) (l) : QiM .eql (.imm n r) k l = QjY r.isEmpty (k (.b true)) (k (.b false)) := _root_.id rfl
theorem QEe (n r) (k : AV → Option β) (l) : QiM .neq (.imm n r) k l = QjY r.isEmpty (k (.b false)) (k (.b true)) := _root_.id rfl
theorem QA8 (x : Option β) (b) : QjY b x x = x := by cases b <;> simp [QjY, oeq]
theorem QC1 (n : Nat) (R : List (List AV)) (b : Nat) (m) : QjY R.isEmpty (some (AV.own n [])) (Q7 (decide (R.length * b ≤ 140737488355328)) (some (AV.own n R)) m) = Q7 (decide (R.length * b ≤ 140737488355328)) (some (AV.own n R)) () := by
 cases R with
 | nil => simp [QjY, oeq, Q7]
 | cons r R => rfl
theorem QuR (K e m l) : QoL K (.sl e m) .nil k l = k (.i .i64 0) := _root_.id rfl
def QAu (e : Option Ent) (k : AV → Option β) (_ : Lk k) : Option β := match e with | some e => k (.i .i64 (lnR e.rows)) | none => none
theorem QDW (c d a l) : QpU (.int c) (.i d a) k l = k (.i c (c.wrap a)) := _root_.id rfl
def QqY (o : Option (List UInt8)) (k : AV → Option β) (_ : Lk k) : Option β := match o with | some s => k (.s s) | none => none
def QwC (e : Option Ent) (k : AV → Option β) (_ : Lk k) : Option β := match e with | some (.lst 1 rows) => QqY (Qbs rows) k () | _ => none
theorem QHk (K j l) : Qow K .str (.sl j) k l = QwC (kg K j) k () := _root_.id rfl
theorem QBz (r l) : QwC (some (.lst 1 r)) k l = QqY (Qbs r) k () := _root_.id rfl
theorem QDs (s l) : QqY (some s) k l = k (.s s) := _root_.id rfl
theorem QCl : Qbs [] = some [] := _root_.id rfl
theorem Qy4 (n r) : Qbs ([.i .u8 n] :: r) = (Qbs r).map (UInt8.ofNat n.toNat :: ·) := by
 show (match QnQ [.i .u8 n], Qbs r with | some x, some xs => some (x :: xs) | _, _ => none) = _
 simp only [QnQ]
 cases Qbs r <;> rfl
theorem QyG (K e m j l) : QoL K (.sl e m) (.sl j) k l = QAu (kg K j) k () := _root_.id rfl
theorem Qu2 (n r l) : QAu (some (.lst n r)) k l = k (.i .i64 (lnR r)) := _root_.id rfl
theorem Qxe (K x l) : QoL K .str (.s x) k l = k (.i .i64 (ln x)) := _root_.id rfl
theorem QCO (K n r i p o t l) : Quj K (.iptr n r i p) (some (o, t)) k l = k (.iptr n r i (p + o)) := _root_.id rfl
def QAy (e : Option Ent) (v : AV) (k : AV → Option β) (_ : Lk k) : Option β := match e with | some _ => k v | none => none
theorem QGz (K j i p o t l) : Quj K (.ptr j i p) (some (o, t)) k l = QAy (kg K j) (.ptr j i (p + o)) k () := _root_.id rfl
theorem QD7 (e v l) : QAy (some e) v k l = k v := _root_.id rfl
theorem QEn (K e m r kd i l) : Qp3 K (.sl e m) (.imm m r) (.i kd i) k l = Q7 (inb r i) (k (.iptr m r i.toNat 0)) () := by simp [Qp3]
def QuK (e : Option Ent) (m : Nat) (j : Nat) (i : Int) (k : AV → Option β) (_ : Lk k) : Option β := match e with | some e => if m = e.n then Q7 (inb e.rows i) (k (.ptr j i.toNat 0)) () else none | none => none
theorem QLo (K e m j kd i l) : Qp3 K (.sl e m) (.sl j) (.i kd i) k l = QuK (kg K j) m j i k () := _root_.id rfl
theorem QDP (m r j i l) : QuK (some (.lst m r)) m j i k l = Q7 (inb r i) (k (.ptr j i.toNat 0)) () := by simp [QuK, Ent.n, Ent.rows]
def Qz8 (e : Option Ent) (n : Nat) (i : Int) (p : AV) (k : AV → Option β) (_ : Lk k) : Option β := match e with | some _ => Q7 (Qth n i) (k p) () | none => none
theorem QC9 (K e n m j r o kd i l) : Qp3 K (.arr n e m) (.ptr j r o) (.i kd i) k l = Qz8 (kg K j) n i (.ptr j r (o + i.toNat * m)) k () := _root_.id rfl
theorem QCk (e n i p l) : Qz8 (some e) n i p k l = Q7 (Qth n i) (k p) () := _root_.id rfl
theorem QCs (e m r h c l) : QgB (.sl e m) (.imm m r) none (some (.i c h)) k l = Q7 (slB 0 h (lnR r)) (k (.imm m (cut r 0 h))) () := by simp [QgB, bd, lnR]
theorem QDU (e m r h c l) : QgB (.sl e m) (.imm m r) (some (.i c h)) none k l = Q7 (slB h (lnR r) (lnR r)) (k (.imm m (cut r h (lnR r)))) () := by simp [QgB, bd, lnR]
theorem QB6 (e m r h h' c c' l) : QgB (.sl e m) (.imm m r) (some (.i c h)) (some (.i c' h')) k l = Q7 (slB h h' (lnR r)) (k (.imm m (cut r h h'))) () := by simp [QgB, bd, lnR]
theorem QBR (r h c l) : QgB .str (.s r) none (some (.i c h)) k l = Q7 (slB 0 h (ln r)) (k (.s (cut r 0 h))) () := by simp [QgB, bd, ln]
theorem QD5 (r h c l) : QgB .str (.s r) (some (.i c h)) none k l = Q7 (slB h (ln r) (ln r)) (k (.s (cut r h (ln r)))) () := by simp [QgB, bd, ln]
theorem QBq (r h h' c c' l) : QgB .str (.s r) (some (.i c h)) (some (.i c' h')) k l = Q7 (slB h h' (ln r)) (k (.s (cut r h h'))) () := by simp [QgB, bd, ln]
theorem QHz (r i c l) : Qus .str (.s r) (.i c i) k l = Q7 (inb r i) (k (.i .u8 ((gt r i).toNat : Int))) () := _root_.id rfl
class Strs (cs : List AV) (xs : outParam (List (List UInt8))) : Prop where
 eq : cs = xs.map AV.s
instance : Strs [] [] := ⟨rfl⟩
instance (x cs xs) [h : Strs cs xs] : Strs (.s x :: cs) (x :: xs) := ⟨by rw [h.eq]; rfl⟩
theorem QD9 {cs : List AV} {xs : List (List UInt8)} [h : Strs cs xs] (i : Int) (hi : Qth cs.length i = true) (l) : QgR .one (cs.drop (0 + i.toNat * 1)) k l = k (.s (gt xs i)) := by
 have hcs := h.eq
 subst hcs
 simp [Qth] at hi
 have h2 : i.toNat < xs.length := by omega
 rw [Nat.zero_add, Nat.mul_one, List.drop_eq_getElem_cons (by simpa using h2)]
 simp [QgR, gt, List.getD_eq_getElem?_getD, h2]
theorem QL7 (K n r i o) : XZ K (.iptr n r i o) = ((Qy r i).drop o).map ld := _root_.id rfl
def Qrh (e : Option Ent) (i o : Nat) : List AV := match e with | some (.box cs) => if i = 0 then cs.drop o else [] | some (.lst _ rows) => ((Qy rows i).drop o).map ld | none => []
theorem m_c (K j i o) : XZ K (.ptr j i o) = Qrh (kg K j) i o := _root_.id rfl
theorem QEh (cs o) : Qrh (some (.box cs)) 0 o = cs.drop o := _root_.id rfl
theorem QBA (n r i o) : Qrh (some (.lst n r)) i o = ((Qy r i).drop o).map ld := _root_.id rfl
theorem QC2 {α γ : Type} (g : α → γ) : [].map g = [] := _root_.id rfl
theorem QCU {α γ : Type} (g : α → γ) (x l) : (x :: l).map g = g x :: l.map g := _root_.id rfl
theorem QG2 (x) : ld (.b x) = .b x := _root_.id rfl
theorem QEG (c x) : ld (.i c x) = .i c x := _root_.id rfl
theorem QEP (x) : ld (.s x) = .s x := _root_.id rfl
theorem Qzv (n x) : ld (.imm n x) = .imm n x := _root_.id rfl
theorem Qzo : ld .nil = .nil := _root_.id rfl
theorem QyY (n x) : ld (.own n x) = .u := _root_.id rfl
theorem QzN (c cs l) : QgR .one (c :: cs) k l = k c := _root_.id rfl
def QvQ (b : Bool) (v : AV) (k : AV → Option β) (_ : Lk k) : Option β := cond b (k v) none
theorem Qza (m cs l) : QgR (.agg m) cs k l = QvQ (Nat.blt 0 m && Nat.ble m cs.length) (.agg (cs.take m)) k () :=
 QbW (by simp only [Bool.and_eq_true, Qki, Qia]) _ _
theorem Qzn (v l) : QvQ true v k l = k v := _root_.id rfl
theorem QxJ (K cs) (k : AV → KS → Option β) (l) : Qlu K (some cs) k l = V0 (K ++ [some (.box cs)]) (fun K' => k (.ptr K.length 0 0) K') () := _root_.id rfl
def okB (b : Bool) (x : Option β) (_ : Lk x) : Option β := cond b x none
theorem QNr (x : Option β) (l) : okB true x l = x := _root_.id rfl
theorem QDF (K cs) (k : AV → KS → Option β) (l) : QqO K (.agg cs) k l = okB (cs.all (Zp K)) (V0 (K ++ [some (.box cs)]) (fun K' => k (.ptr K.length 0 0) K') ()) () := by
 simp only [QqO, okB]; cases cs.all (Zp K) <;> rfl
theorem QBd (K c x) (k : AV → KS → Option β) (l) : QqO K (.i c x) k l = V0 (K ++ [some (.box [.i c x])]) (fun K' => k (.ptr K.length 0 0) K') () := _root_.id rfl
theorem QCD {α : Type} (p : α → Bool) : [].all p = true := _root_.id rfl
theorem QCW {α : Type} (p : α → Bool) (x l) : (x :: l).all p = (p x && l.all p) := _root_.id rfl
theorem QLc (K x) : Zp K (.b x) = true := _root_.id rfl
theorem QJ2 (K c x) : Zp K (.i c x) = true := _root_.id rfl
theorem QEK (K x) : Zp K (.s x) = true := _root_.id rfl
theorem QKO (K) : Zp K .nil = true := _root_.id rfl
theorem Qx6 (K n r) : Zp K (.imm n r) = true := _root_.id rfl
theorem QyK (K n r) : Zp K (.clo n r) = true := _root_.id rfl
theorem QB7 (K j) : Zp K (.sl j) = (kg K j).isSome := _root_.id rfl
theorem Qy8 (K j i o) : Zp K (.ptr j i o) = (kg K j).isSome := _root_.id rfl
theorem QNM {α : Type} (x : α) : (some x).isSome = true := _root_.id rfl
theorem QJI (x) : AV.closed (.b x) = true := _root_.id rfl
theorem QKs (c x) : AV.closed (.i c x) = true := _root_.id rfl
theorem QKl (x) : AV.closed (.s x) = true := _root_.id rfl
theorem QGu : AV.closed .nil = true := _root_.id rfl
theorem Qyg (n r) : AV.closed (.imm n r) = true := _root_.id rfl
theorem QCB (x : Bool) : (false && x) = false := _root_.id rfl
theorem QKx (x : Bool) : (true && x) = x := _root_.id rfl
def Qga (fl : Bool) (ns : List Nat) (K : KS) (e : Option Ent) (t : TK) (j i o : Nat) (v : AV) (k : KS → Option β) (_ : Lk k) : Option β :=
 match e with
  | some (.box cs) => if i = 0 then QgI cs o t v (Zp K) (fun cs => V0 (K.set j (some (.box cs))) k ()) () else none
  | some (.lst n rows) => if (ZJ v).all clq = true then (if i < rows.length then QgI (Qy rows i) o t v AV.closed (fun r => V0 (K.set j (some (.lst n (rows.set i r)))) k ()) () else none) else if fl = false then QhY ns K t j i o n rows v k () else none
  | none => none
theorem Qzl (fl ns K t j i o v) (k : KS → Option β) (l) : QhI fl ns K t (.ptr j i o) v k l = Qga fl ns K (kg K j) t j i o v k () := by
 show (match kg K j with | some (.lst n rows) => _ | _ => _) = _
 cases h : kg K j with
 | none => simp [Qga, Qi6, h]
 | some e => cases e <;> simp [Qga, Qi6, h]
theorem QvR (fl ns K cs t j o v) (k : KS → Option β) (l) : Qga fl ns K (some (.box cs)) t j 0 o v k l = QgI cs o t v (Zp K) (fun cs => V0 (K.set j (some (.box cs))) k ()) () := _root_.id rfl
def Qkn (b fl : Bool) (ns : List Nat) (K : KS) (n : Nat) (r : List (List AV)) (t : TK) (j i o : Nat) (v : AV) (k : KS → Option β) (_ : Lk k) : Option β :=
 cond b (if i < r.length then QgI (Qy r i) o t v AV.closed (fun r' => V0 (K.set j (some (.lst n (r.set i r')))) k ()) () else none) (if fl = false then QhY ns K t j i o n r v k () else none)
theorem Qvp (fl ns K n r t j i o v) (k : KS → Option β) (l) : Qga fl ns K (some (.lst n r)) t j i o v k l = Qkn ((ZJ v).all clq) fl ns K n r t j i o v k () := by
 simp only [Qga, Qkn]
 cases (ZJ v).all clq <;> rfl
theorem QKQ (ds) : ZJ (.agg ds) = ds := _root_.id rfl
theorem QIK (c x) : ZJ (.i c x) = [.i c x] := _root_.id rfl
theorem QHg (x) : ZJ (.b x) = [.b x] := _root_.id rfl
theorem QLs (x) : ZJ (.s x) = [.s x] := _root_.id rfl
theorem QJc : ZJ .nil = [.nil] := _root_.id rfl
theorem QJf (n r) : ZJ (.imm n r) = [.imm n r] := _root_.id rfl
theorem QLt (j) : ZJ (.sl j) = [.sl j] := _root_.id rfl
theorem QDr (j) : clq (.sl j) = false := _root_.id rfl
theorem QH2 (x) : clq (.b x) = true := _root_.id rfl
theorem QFg (c x) : clq (.i c x) = true := _root_.id rfl
theorem QG8 (x) : clq (.s x) = true := _root_.id rfl
theorem QFn : clq .nil = false := _root_.id rfl
theorem QEH (n r) : clq (.imm n r) = true := _root_.id rfl
theorem QPp (cs) : nz [] cs = cs := by cases cs <;> rfl
theorem QPF (ns) : nz ns [] = [] := by cases ns <;> rfl
theorem QNP (n ns c cs) : nz (n :: ns) (c :: cs) = nzc n c :: nz ns cs := _root_.id rfl
theorem QNA (n x) : nzc n (.b x) = .b x := _root_.id rfl
theorem QOh (n c x) : nzc n (.i c x) = .i c x := _root_.id rfl
theorem QPl (n x) : nzc n (.s x) = .s x := _root_.id rfl
theorem QMx (n) : nzc n .nil = .own n [] := _root_.id rfl
theorem QLG (n m r) : nzc n (.own m r) = .own m r := _root_.id rfl
theorem QOt (n m r) : nzc n (.imm m r) = .imm m r := _root_.id rfl
theorem QPq (k v) : Qnp (.z k) v = nzc k v := _root_.id rfl
theorem QOK (v) : Qnp .n v = v := _root_.id rfl
theorem QLJ (ns cs) : Qnp (.a ns) (.agg cs) = .agg (nz ns cs) := _root_.id rfl
theorem QNj (v) : Ql3 [] v = v := _root_.id rfl
theorem QL0 (s v) : Ql3 [s] v = Qnp s v := _root_.id rfl
theorem QPw (s s' ss vs) : Ql3 (s :: s' :: ss) (.tup vs) = .tup (Qoq (s :: s' :: ss) vs) := _root_.id rfl
theorem QNn (s ss v vs) : Qoq (s :: ss) (v :: vs) = Qnp s v :: Qoq ss vs := _root_.id rfl
theorem QJX (vs) : Qoq [] vs = vs := _root_.id rfl
theorem QKL (m ds l) : QnX (.agg m) (.agg ds) l = (m == l) := _root_.id rfl
theorem QGa (j l) : QnX .one (.sl j) l = (l == 1) := _root_.id rfl
def Qrq (ns : List Nat) (K : KS) (a : Option (KS × List AV)) (t : TK) (j o n i : Nat) (r : List (List AV)) (v : AV) (k : KS → Option β) (_ : Lk k) : Option β :=
 match a with
  | some (K1, ds) => if (kg K1 j).isSome = true ∧ QnX t v ds.length = true ∧ o + ds.length ≤ (Qy r i).length then V0 (K1.set j (some (.lst n (r.set i (putCells (Qy r i) o (nz ns ds)))))) k () else none
  | none => none
theorem QN3 (ns K K1 ds t j o n i r v) (k : KS → Option β) (l) : Qrq ns K (some (K1, ds)) t j o n i r v k l = okB ((kg K1 j).isSome && (QnX t v ds.length && Nat.ble (o + ds.length) (Qy r i).length)) (V0 (K1.set j (some (.lst n (r.set i (putCells (Qy r i) o (nz ns ds)))))) k ()) () :=
 QbW (by simp only [Bool.and_eq_true, Qia]) _ _
def Qmj (r : List (List AV)) (i : Nat) : Bool := Nat.blt i r.length
theorem w_n (D : Orc) (f : Fr) (K : KS) (j i o q r v m rs) (k : AV → KS → Option β) (l) : onr D f K j i o q r (v, [some (.lst m rs)]) k l = Q7 (v.flat && Qmj r i) (V0 (K.set j (some (.lst q (r.set i (putCells (Qy r i) o [.own m rs])))) ++ [none]) (fun K' => k v K') ()) () := _root_.id rfl
theorem QDJ (x r) : Qmj (x :: r) 0 = true := by simp [Qmj, Nat.blt_eq]
theorem QDl (x r i) : Qmj (x :: r) (i + 1) = Qmj r i := by
 unfold Qmj; rw [Bool.eq_iff_iff, Nat.blt_eq, Nat.blt_eq]; simp
theorem QB4 (fl ns K n r t j i o v) (k : KS → Option β) (l) : Qkn true fl ns K n r t j i o v k l = okB (Qmj r i) (QgI (Qy r i) o t v AV.closed (fun r' => V0 (K.set j (some (.lst n (r.set i r')))) k ()) ()) () :=
 QbW Qki _ _
theorem QDK (ns K n r t j i o v) (k : KS → Option β) (l) : Qkn false false ns K n r t j i o v k l = okB (Qmj r i) (Qrq ns K (Ve K (ZJ v)) t j o n i r v k ()) () :=
 QbW Qki _ _
theorem QBT (cs o m ds ok) (k : List AV → Option β) (l) : QgI cs o (.agg m) (.agg ds) ok k l = okB ((m == ds.length) && (Nat.ble (o + m) cs.length && ds.all ok)) (k (putCells cs o ds)) () :=
 QbW (by simp only [Bool.and_eq_true, beq_iff_eq, Qia]) _ _
theorem Quk (cs : List AV) (o : Nat) (v : AV) (ok : AV → Bool) (k : List AV → Option β) : (if o < cs.length ∧ ok v = true then k (cs.set o v) else none) = okB (Nat.blt o cs.length && ok v) (k (cs.set o v)) () :=
 QbW (by simp only [Bool.and_eq_true, Qki]) _ _
theorem QDg (cs o x ok) (k : List AV → Option β) (l) : QgI cs o .one (.b x) ok k l = okB (Nat.blt o cs.length && ok (.b x)) (k (cs.set o (.b x))) () := Quk ..
theorem QEr (cs o c x ok) (k : List AV → Option β) (l) : QgI cs o .one (.i c x) ok k l = okB (Nat.blt o cs.length && ok (.i c x)) (k (cs.set o (.i c x))) () := Quk ..
theorem QBv (cs o x ok) (k : List AV → Option β) (l) : QgI cs o .one (.s x) ok k l = okB (Nat.blt o cs.length && ok (.s x)) (k (cs.set o (.s x))) () := Quk ..
theorem QCo (cs o ok) (k : List AV → Option β) (l) : QgI cs o .one .nil ok k l = okB (Nat.blt o cs.length && ok .nil) (k (cs.set o .nil)) () := Quk ..
theorem Qxz (cs o j ok) (k : List AV → Option β) (l) : QgI cs o .one (.sl j) ok k l = okB (Nat.blt o cs.length && ok (.sl j)) (k (cs.set o (.sl j))) () := Quk ..
theorem QuB (cs o n r ok) (k : List AV → Option β) (l) : QgI cs o .one (.imm n r) ok k l = okB (Nat.blt o cs.length && ok (.imm n r)) (k (cs.set o (.imm n r))) () := Quk ..
theorem QNW (cs o ds) : putCells cs o ds = cs.take o ++ ds ++ cs.drop (o + ds.length) := _root_.id rfl
theorem QDw (P z nr S rs f K) : QjB P z nr S rs .normal f K = Qld P z S rs nr f K () := _root_.id rfl
theorem QDy (P z nr S rs f K) : QjB P z nr S rs .ret f K = Qld P z S rs nr f K () := _root_.id rfl
theorem QHy (P z S rs f K l) : Qld P z S rs none f K l = X6 (QbI f K P rs) (fun vs => Q7 (rok (tkl z K).length (QeT vs) && (Qhs (tkl z K) && Nat.ble z.length (tkl z K).length)) (some (QeT vs, tkl z K)) ()) () := _root_.id rfl
theorem QHi (P z S rs r f K l) : Qld P z S rs (some r) f K l = X6 (QbI f K P rs) (fun vs => QdF z [S] r (up f S (QeT vs)) K (fun f K => Qjq (f S) (fun v => Q7 (rok K.length v && (Qhs K && Nat.ble z.length K.length)) (some (v, K)) ()) ()) ()) () := _root_.id rfl
theorem QKj {α : Type} : (none : Option α).isSome = false := _root_.id rfl
theorem QJ6 {α : Type} (x : α) : (some x).isSome = true := _root_.id rfl
theorem QIN (K) : tkl [] K = [] := by cases K <;> rfl
theorem QLy (x z e K) : tkl (x :: z) (e :: K) = e :: tkl z K := _root_.id rfl
theorem QxM (P sh rs f K) : Qg9 P sh rs .normal f K = X6 (QbI f K P rs) (fun vs => (Qbm K (QeT vs)).map fun p => Ql3 sh p.2) () := _root_.id rfl
theorem QxB (P sh rs f K) : Qg9 P sh rs .ret f K = X6 (QbI f K P rs) (fun vs => (Qbm K (QeT vs)).map fun p => Ql3 sh p.2) () := _root_.id rfl
theorem QED (f K P) : QbI f K P [] = some [] := _root_.id rfl
theorem QHM (f K P t rs) : QbI f K P (.tmp t :: rs) = (QbI f K P rs).map (f t :: ·) := _root_.id rfl
theorem QDj (f K P x t rs) : QbI f K P (.cell x t :: rs) = X6 (QgR (tk P t) (XZ K (f x)) some ()) (fun v => (QbI f K P rs).map (v :: ·)) () := _root_.id rfl
theorem Qls {α γ : Type} (g : α → γ) (x : α) : (some x).map g = some (g x) := _root_.id rfl
theorem QqG {α γ : Type} (g : α → γ) : (none : Option α).map g = none := _root_.id rfl
theorem QLn (v) : QeT [v] = v := _root_.id rfl
theorem QH9 (v w vs) : QeT (v :: w :: vs) = .tup (v :: w :: vs) := _root_.id rfl
theorem QB9 : QeT [] = .tup [] := _root_.id rfl
theorem x_b (K x) : Qbm K (.b x) = some (K, .b x) := _root_.id rfl
theorem x_i (K c x) : Qbm K (.i c x) = some (K, .i c x) := _root_.id rfl
theorem x_s (K x) : Qbm K (.s x) = some (K, .s x) := _root_.id rfl
theorem QLf (K) : Qbm K .nil = some (K, .nil) := _root_.id rfl
theorem QEV (K n r) : Qbm K (.imm n r) = none := by simp [Qbm]
theorem QGo (K cs) : Qbm K (.agg cs) = (QdN K cs).map fun p => (p.1, .agg p.2) := by simp [Qbm]
theorem QEz (K cs) : Qbm K (.tup cs) = (QdN K cs).map fun p => (p.1, .tup p.2) := by simp [Qbm]
def QAp (K : KS) (e : Option Ent) (j : Nat) : Option (KS × AV) := match e with | some (.lst n rows) => if QX rows = true then some (K.set j none, .own n rows) else none | _ => none
theorem QLM (K j) : Qbm K (.sl j) = QAp K (kg K j) j := by rw [Qbm]; rfl
theorem QHE (K n r j) : QAp K (some (.lst n r)) j = cond (QX r) (some (K.set j none, .own n r)) none := QbW Iff.rfl _ _
theorem QCI (K) : QdN K [] = some (K, []) := by simp [QdN]
def QqM (e : Option (KS × AV)) (cs : List AV) : Option (KS × List AV) := match e with | some (K1, c') => (QdN K1 cs).map fun p => (p.1, c' :: p.2) | none => none
theorem Qyu (K c cs) : QdN K (c :: cs) = QqM (Qbm K c) cs := by rw [QdN]; rfl
theorem QMU (K c cs) : QqM (some (K, c)) cs = (QdN K cs).map fun p => (p.1, c :: p.2) := _root_.id rfl
theorem QMO (cs) : QqM none cs = none := _root_.id rfl
theorem QCd (z sl rg f K) (k : Fr → KS → Option β) (l) : QdF z sl rg f K k l = Vq rg f K [] (fun f K π => Q7 (ndB π) (onz z π (V0 (Qy3 K π) (fun K' => k (QxW f π sl) K') ()) ()) ()) () := _root_.id rfl
theorem QKH (π) (q : Option β) (l) : onz [] π q l = q := _root_.id rfl
theorem QJF (x z π) (q : Option β) (l) : onz (x :: z) π q l = Q7 (pfx (x :: z) π) q () := _root_.id rfl
theorem QMh (π) : pfx [] π = true := _root_.id rfl
theorem QL6 (x z y π) : pfx (x :: z) (y :: π) = ((x == y) && pfx z π) := by rw [← Qi5]; rfl
theorem QMX (x : Nat) : ([] : List Nat).contains x = false := _root_.id rfl
theorem QOr (x y : Nat) (l : List Nat) : (y :: l).contains x = ((x == y) || l.contains x) := List.contains_cons
theorem QNe (b : Bool) : (false || b) = b := by cases b <;> rfl
theorem QMM (b : Bool) : (true || b) = true := by cases b <;> rfl
theorem QAl (f K π) (k : Fr → KS → List Nat → Option β) (l) : Vq [] f K π k l = k f K π := _root_.id rfl
theorem n_r (i r f K π) (k : Fr → KS → List Nat → Option β) (l) : Vq (.r i :: r) f K π k l = Vq r f K (π ++ [i]) k () := _root_.id rfl
def Qk1 (v : AV) (t n : Nat) (r : List Pt) (f : Fr) (K : KS) (π : List Nat) (k : Fr → KS → List Nat → Option β) (_ : Lk (f, k)) : Option β := match v with
  | .sl j => Vq r f K (π ++ [j]) k ()
  | .ptr j _ _ => Vq r f K (π ++ [j]) k ()
  | .nil => Vq r (up f t (.sl K.length)) (K ++ [some (.lst n [])]) (π ++ [K.length]) k ()
  | _ => none
theorem n_s (t n r f K π) (k : Fr → KS → List Nat → Option β) (l) : Vq (.s t n :: r) f K π k l = Qk1 (f t) t n r f K π k () := by simp only [Vq, Qk1]; rfl
theorem QLa (j t n r f K π) (k : Fr → KS → List Nat → Option β) (l) : Qk1 (.sl j) t n r f K π k l = Vq r f K (π ++ [j]) k () := _root_.id rfl
theorem QBl (j i o t n r f K π) (k : Fr → KS → List Nat → Option β) (l) : Qk1 (.ptr j i o) t n r f K π k l = Vq r f K (π ++ [j]) k () := _root_.id rfl
theorem QBj (t n r f K π) (k : Fr → KS → List Nat → Option β) (l) : Qk1 .nil t n r f K π k l = Vq r (up f t (.sl K.length)) (K ++ [some (.lst n [])]) (π ++ [K.length]) k () := _root_.id rfl
def Qlw (c : Option AV) (r : List Pt) (f : Fr) (K : KS) (π : List Nat) (k : Fr → KS → List Nat → Option β) (_ : Lk (f, k)) : Option β := match c with
  | some (.sl i) => Vq r f K (π ++ [i]) k ()
  | some (.ptr i _ _) => Vq r f K (π ++ [i]) k ()
  | _ => none
def QnG (e : Option Ent) (o : Nat) (r : List Pt) (f : Fr) (K : KS) (π : List Nat) (k : Fr → KS → List Nat → Option β) (_ : Lk (f, k)) : Option β := match e with
  | some (.box cs) => Qlw (cs[o]?) r f K π k ()
  | _ => none
def Qqk (q : Option Nat) (o : Nat) (r : List Pt) (f : Fr) (K : KS) (π : List Nat) (k : Fr → KS → List Nat → Option β) (_ : Lk (f, k)) : Option β := match q with
  | some j => QnG (kg K j) o r f K π k ()
  | none => none
theorem n_c (q o n r f K π) (k : Fr → KS → List Nat → Option β) (l) : Vq (.c q o n :: r) f K π k l = Qqk (π[q]?) o r f K π k () := by
 simp only [Vq, Qqk, QnG, Qlw]
 cases π[q]? with
 | none => rfl
 | some j =>
  simp only
  cases kg K j with
  | none => rfl
  | some e =>
   cases e with
   | box cs =>
    simp only
    cases cs[o]? with
    | none => rfl
    | some c => cases c <;> rfl
   | lst _ _ => rfl
theorem QJk (j o r f K π) (k : Fr → KS → List Nat → Option β) (l) : Qqk (some j) o r f K π k l = QnG (kg K j) o r f K π k () := _root_.id rfl
theorem QEv (cs o r f K π) (k : Fr → KS → List Nat → Option β) (l) : QnG (some (.box cs)) o r f K π k l = Qlw (cs[o]?) r f K π k () := _root_.id rfl
theorem QHm (i r f K π) (k : Fr → KS → List Nat → Option β) (l) : Qlw (some (.sl i)) r f K π k l = Vq r f K (π ++ [i]) k () := _root_.id rfl
theorem QGp (i a b r f K π) (k : Fr → KS → List Nat → Option β) (l) : Qlw (some (.ptr i a b)) r f K π k l = Vq r f K (π ++ [i]) k () := _root_.id rfl
def Ql0 (c : Option AV) (cs : List AV) (t o n : Nat) (r : List Pt) (f : Fr) (K : KS) (π : List Nat) (k : Fr → KS → List Nat → Option β) (_ : Lk (f, k)) : Option β := match c with
  | some (.sl j) => Vq r f K (π ++ [j]) k ()
  | some .nil => Vq r (up f t (.agg (cs.set o (.sl K.length)))) (K ++ [some (.lst n [])]) (π ++ [K.length]) k ()
  | _ => none
def Qq6 (v : AV) (t o n : Nat) (r : List Pt) (f : Fr) (K : KS) (π : List Nat) (k : Fr → KS → List Nat → Option β) (_ : Lk (f, k)) : Option β := match v with
  | .agg cs => Ql0 (cs[o]?) cs t o n r f K π k ()
  | _ => none
theorem n_g (t o n r f K π) (k : Fr → KS → List Nat → Option β) (l) : Vq (.g t o n :: r) f K π k l = Qq6 (f t) t o n r f K π k () := by
 simp only [Vq, Qq6, Ql0]
 cases f t with
 | agg cs =>
  simp only
  cases cs[o]? with
  | none => rfl
  | some c => cases c <;> rfl
 | _ => rfl
theorem QKU (cs t o n r f K π) (k : Fr → KS → List Nat → Option β) (l) : Qq6 (.agg cs) t o n r f K π k l = Ql0 (cs[o]?) cs t o n r f K π k () := _root_.id rfl
theorem QKy (j cs t o n r f K π) (k : Fr → KS → List Nat → Option β) (l) : Ql0 (some (.sl j)) cs t o n r f K π k l = Vq r f K (π ++ [j]) k () := _root_.id rfl
theorem QGQ (cs t o n r f K π) (k : Fr → KS → List Nat → Option β) (l) : Ql0 (some .nil) cs t o n r f K π k l = Vq r (up f t (.agg (cs.set o (.sl K.length)))) (K ++ [some (.lst n [])]) (π ++ [K.length]) k () := _root_.id rfl
theorem QH6 : ndB [] = true := _root_.id rfl
theorem QKt (x l) : ndB (x :: l) = (!l.contains x && ndB l) := _root_.id rfl
def krn (K : KS) (π : List Nat) (l : List Nat) : KS := l.map fun j => (kg K j).map (Qhn π)
theorem QOU (K π) : Qy3 K π = krn K π π := _root_.id rfl
theorem QC6 (K π) : krn K π [] = [] := _root_.id rfl
theorem QDI (K π j l) : krn K π (j :: l) = (kg K j).map (Qhn π) :: krn K π l := _root_.id rfl
theorem QKJ (π cs) : Qhn π (.box cs) = .box (Qdr π cs) := _root_.id rfl
theorem QEx (π n r) : Qhn π (.lst n r) = .lst n r := _root_.id rfl
theorem QJh (π) : Qdr π [] = [] := by simp [Qdr]
theorem QId (π c cs) : Qdr π (c :: cs) = ren π c :: Qdr π cs := by simp [Qdr]
def slO : Option Nat → AV | some i => .sl i | none => .u
def QBM (i o : Nat) : Option Nat → AV | some j => .ptr j i o | none => .u
theorem QE9 (i) : slO (some i) = .sl i := _root_.id rfl
theorem QI7 : slO none = .u := _root_.id rfl
theorem QB5 (i o j) : QBM i o (some j) = .ptr j i o := _root_.id rfl
theorem QBS (i o) : QBM i o none = .u := _root_.id rfl
theorem QEd (π j) : ren π (.sl j) = slO (Qj3 π j) := by simp only [ren]; rfl
theorem Qzd (π j i o) : ren π (.ptr j i o) = QBM i o (Qj3 π j) := by simp only [ren]; rfl
theorem Qyw (π cs) : ren π (.agg cs) = .agg (Qdr π cs) := by simp [ren]
theorem QzJ (π cs) : ren π (.tup cs) = .tup (Qdr π cs) := by simp [ren]
theorem Qys (π g cs) : ren π (.clo g cs) = .clo g (Qdr π cs) := by simp [ren]
theorem QDb (π x) : ren π (.b x) = .b x := by simp [ren]
theorem QJs (π c x) : ren π (.i c x) = .i c x := by simp [ren]
theorem QJN (π x) : ren π (.s x) = .s x := by simp [ren]
theorem QGi (π) : ren π .nil = .nil := by simp [ren]
theorem QGv (π) : ren π .u = .u := by simp [ren]
theorem Qyk (π n r) : ren π (.imm n r) = .imm n r := by simp [ren]
theorem Qvs (π n r i o) : ren π (.iptr n r i o) = .iptr n r i o := by simp [ren]
theorem QBV (j) : Qj3 [] j = none := _root_.id rfl
theorem QDC (x l j) : Qj3 (x :: l) j = sel (x == j) (some 0) ((Qj3 l j).map (· + 1)) () := by
 rw [Qj3]; exact QbW (by simp) _ _
theorem QCw (f π l) : QxW f π l = frm (frl f π l) := _root_.id rfl
theorem QBa (f π) : frl f π [] = [] := _root_.id rfl
theorem QDa (f π t l) : frl f π (t :: l) = (t, ren π (f t)) :: frl f π l := _root_.id rfl
theorem QMr (z la rt f K) : QfY z la rt .normal f K = QdF z la.sl la.rg f K (fun f K => some (.inl (f, K))) () := _root_.id rfl
theorem QNG (z la rt f K) : QfY z la rt .ret f K = QdF z rt.sl rt.rg f K (fun f K => some (.inr (.ret, f, K))) () := _root_.id rfl
theorem QNZ (z la rt i f K) : QfY z la rt (.exit i) f K = QdF z la.xs la.xr f K (fun f K => some (.inr (.exit i, f, K))) () := _root_.id rfl
theorem QGX (t x y) : QF t (.seq x y) = (QF t x).or (QF t y) := _root_.id rfl
theorem QBb (t c x y) : QF t (.cond c x y) = (QF t x).or (QF t y) := _root_.id rfl
theorem Qzm (t i x) : QF t (.block i x) = QF t x := _root_.id rfl
theorem QDD (t x) : QF t (.loop x) = sel (tag x == t) (some x) (QF t x) () := _root_.id rfl
theorem Qw4 (t i o d) : QF t (.region i o d) = none := _root_.id rfl
theorem QCN (t) : QF t .skip = none := _root_.id rfl
theorem QIf (t) : QF t .ret = none := _root_.id rfl
theorem QCV (t i) : QF t (.exit i) = none := _root_.id rfl
theorem QAS (x : Option Code) : (none : Option Code).or x = x := by cases x <;> rfl
theorem QA4 (x : Code) (y : Option Code) : (some x).or y = some x := _root_.id rfl
theorem l_0 (K) : Qci K [] = [] := by simp [Qci]
theorem l_s (K c cs) : Qci K (c :: cs) = Qaq K c :: Qci K cs := by simp [Qci]
def QuO (e : Option Ent) : AV := match e with | some (.lst n rows) => .imm n (Qt rows) | _ => .u
theorem QO8 (K j) : Qaq K (.sl j) = QuO (kg K j) := by simp only [Qaq]; rfl
theorem QHc (n r) : QuO (some (.lst n r)) = .imm n (Qt r) := _root_.id rfl
theorem QFG (K j) : QmA K j = QuO (kg K j) := _root_.id rfl
def Qqt (K : KS) (e : Option Ent) (i o : Nat) : AV := match e with
 | some (.lst n rows) => .iptr n (Qt rows) i o
 | some (.box cs) => .iptr cs.length [cs.map (Qfi K)] i o
 | none => .u
theorem QFZ (K j i o) : Qaq K (.ptr j i o) = Qqt K (kg K j) i o := by simp only [Qaq]; rfl
theorem QBK (K cs i o) : Qqt K (some (.box cs)) i o = .iptr cs.length [cs.map (Qfi K)] i o := _root_.id rfl
theorem QDN (K n r i o) : Qqt K (some (.lst n r)) i o = .iptr n (Qt r) i o := _root_.id rfl
theorem QCm (K n r i o) : Qaq K (.iptr n r i o) = .iptr n r i o := by simp [Qaq]
theorem QKG (K j) : Qfi K (.sl j) = QmA K j := _root_.id rfl
theorem QMs (K x) : Qfi K (.b x) = .b x := _root_.id rfl
theorem QOo (K c x) : Qfi K (.i c x) = .i c x := _root_.id rfl
theorem QMo (K x) : Qfi K (.s x) = .s x := _root_.id rfl
theorem QOX (K) : Qfi K .nil = .nil := _root_.id rfl
theorem QO9 (K n r) : Qfi K (.imm n r) = .imm n r := _root_.id rfl
theorem QDZ (r : List AV) (rs) : Qy (r :: rs) 0 = r := _root_.id rfl
theorem QKp (K cs) : Qaq K (.agg cs) = .agg (Qci K cs) := by simp [Qaq]
theorem QHt (K cs) : Qaq K (.tup cs) = .tup (Qci K cs) := by simp [Qaq]
theorem QIi (K g cs) : Qaq K (.clo g cs) = .clo g (Qci K cs) := by simp [Qaq]
theorem l_b (K x) : Qaq K (.b x) = .b x := by simp [Qaq]
theorem l_i (K c x) : Qaq K (.i c x) = .i c x := by simp [Qaq]
theorem QOC (K x) : Qaq K (.s x) = .s x := by simp [Qaq]
theorem l_n (K) : Qaq K .nil = .nil := by simp [Qaq]
theorem QJL (K n r) : Qaq K (.imm n r) = .imm n r := by simp [Qaq]
theorem Qzu : Qt [] = [] := by simp [Qt]
theorem Qxv (r rs) : Qt (r :: rs) = Vi r :: Qt rs := by simp [Qt]
theorem QB1 : Vi [] = [] := by simp [Vi]
theorem QCi (c cs) : Vi (c :: cs) = V9 c :: Vi cs := by simp [Vi]
theorem QM3 (x) : V9 (.b x) = .b x := by simp [V9]
theorem QMV (c x) : V9 (.i c x) = .i c x := by simp [V9]
theorem QOu (x) : V9 (.s x) = .s x := by simp [V9]
theorem QNH : V9 .nil = .nil := by simp [V9]
theorem QDv (n r) : V9 (.imm n r) = .imm n r := by simp [V9]
theorem QEi (n r) : V9 (.own n r) = .imm n (Qt r) := by simp [V9]
theorem QEY (m n r) : Vt m (.own n r) = (.sl m, [some (.lst n r)]) := by simp [Vt]
theorem QG4 (m cs) : Vt m (.agg cs) = (.agg (Qa7 m cs).1, (Qa7 m cs).2) := by simp [Vt]
theorem QJT (m cs) : Vt m (.tup cs) = (.tup (Qa7 m cs).1, (Qa7 m cs).2) := by simp [Vt]
theorem i_b (m x) : Vt m (.b x) = (.b x, []) := by simp [Vt]
theorem i_i (m c x) : Vt m (.i c x) = (.i c x, []) := by simp [Vt]
theorem QPr (m x) : Vt m (.s x) = (.s x, []) := by simp [Vt]
theorem i_n (m) : Vt m .nil = (.nil, []) := by simp [Vt]
theorem QML (m) : Qa7 m [] = ([], []) := by simp [Qa7]
theorem QLW (m c cs) : Qa7 m (c :: cs) = ((Vt m c).1 :: (Qa7 (m + (Vt m c).2.length) cs).1, (Vt m c).2 ++ (Qa7 (m + (Vt m c).2.length) cs).2) := by simp [Qa7]
theorem QAP {α γ : Type} (x : α) (y : γ) : (x, y).1 = x := _root_.id rfl
theorem QJW {α γ : Type} (x : α) (y : γ) : (x, y).2 = y := _root_.id rfl
def QnB (e : Option (List AV)) (k : AV → Option β) (_ : Lk k) : Option β := match e with | some cs => k (.agg cs) | none => none
theorem QG5 (K z p ps l) : Qi3 K (.st z p) ps k l = QnB (Qap K (p[·]?) z ps) k () := _root_.id rfl
theorem QDS (K z m ps l) : Qi3 K (.arr z m) ps k l = QnB (Qap K (fun i => some (i * m, m)) z ps) k () := _root_.id rfl
theorem QH4 (cs l) : QnB (some cs) k l = k (.agg cs) := _root_.id rfl
def QAR (fl : Bool) (ns : List Nat) (e : Option (List AV)) (K : KS) (len m : Nat) (k : AV → KS → Option β) (_ : Lk k) : Option β := match e with
  | some cs => cond (yB fl cs) (match Ve K cs with
   | some (K1, cs) => V0 (K1 ++ [some (.lst m ((QaG m len cs).map (nz ns)))]) (fun K' => k (.sl K.length) K') ()
   | none => none) none
  | none => none
theorem QMF (fl ns K e m z) (k : AV → KS → Option β) (l) : Qgq fl ns K (some (e, m, z)) 0 [] k l = V0 (K ++ [some (.lst m [])]) (fun K' => k (.sl K.length) K') () := _root_.id rfl
theorem s_b (fl ns K e m z len ps) (k : AV → KS → Option β) (l) : Qgq fl ns K (some (e, m, z)) (len + 1) ps k l = okB (Nat.ble ((len + 1) * m) 16777216) (QAR fl ns (Qap K (fun i => some (i * m, m)) (QcA (len + 1) z) ps) K (len + 1) m k ()) () :=
 QbW Qia _ _
def QA7 (ns : List Nat) (e : Option (KS × List AV)) (n len m : Nat) (k : AV → KS → Option β) (_ : Lk k) : Option β := match e with
   | some (K1, cs) => V0 (K1 ++ [some (.lst m ((QaG m len cs).map (nz ns)))]) (fun K' => k (.sl n) K') ()
   | none => none
theorem QLL (fl ns K cs len m) (k : AV → KS → Option β) (l) : QAR fl ns (some cs) K len m k l = cond (yB fl cs) (QA7 ns (Ve K cs) K.length len m k ()) none := _root_.id rfl
theorem QMn : zB [] = true := _root_.id rfl
theorem QNy (l : List Nat) : zB (0 :: l) = zB l := _root_.id rfl
theorem QMJ (n : Nat) (l : List Nat) : zB ((n + 1) :: l) = false := _root_.id rfl
theorem QOa (cs) : yB false cs = true := _root_.id rfl
theorem QOn (cs) : yB true cs = noS cs := _root_.id rfl
theorem QMy : noS [] = true := _root_.id rfl
theorem QPH (c n l) : noS (.i c n :: l) = noS l := _root_.id rfl
theorem QNf (x l) : noS (.b x :: l) = noS l := _root_.id rfl
theorem QPu (x l) : noS (.s x :: l) = noS l := _root_.id rfl
theorem QNQ (l) : noS (.nil :: l) = noS l := _root_.id rfl
theorem QPG (n r l) : noS (.imm n r :: l) = noS l := _root_.id rfl
theorem QPg (j l) : noS (.sl j :: l) = false := _root_.id rfl
theorem QOp (ns K1 cs n len m) (k : AV → KS → Option β) (l) : QA7 ns (some (K1, cs)) n len m k l = V0 (K1 ++ [some (.lst m ((QaG m len cs).map (nz ns)))]) (fun K' => k (.sl n) K') () := _root_.id rfl
theorem QMv (K p cs) : Qap K p cs [] = some cs := _root_.id rfl
def Qu6 (K : KS) (place : Nat → Option (Nat × Nat)) (cs : List AV) (p : Option (Nat × Nat)) (d : Option (List AV)) (rest : List (Nat × AV)) : Option (List AV) := match p, d with
  | some (o, m), some ds => if ds.length = m ∧ o + m ≤ cs.length then Qap K place (putCells cs o ds) rest else none
  | _, _ => none
theorem QOO (K p cs i v r) : Qap K p cs ((i, v) :: r) = Qu6 K p cs (p i) (Qcb K v) r := by simp only [Qap]; rfl
theorem QLY (K p cs o m ds r) : Qu6 K p cs (some (o, m)) (some ds) r = cond ((ds.length == m) && Nat.ble (o + m) cs.length) (Qap K p (putCells cs o ds) r) none :=
 QbW (by simp only [Bool.and_eq_true, beq_iff_eq, Qia]) _ _
theorem QMC (K cs) : Qcb K (.agg cs) = some cs := _root_.id rfl
theorem QOw (K x) : Qcb K (.b x) = some [.b x] := _root_.id rfl
theorem QOF (K c x) : Qcb K (.i c x) = some [.i c x] := _root_.id rfl
theorem QON (K x) : Qcb K (.s x) = some [.s x] := _root_.id rfl
theorem QNt (K) : Qcb K .nil = some [.nil] := _root_.id rfl
theorem QCK (K n r) : Qcb K (.imm n r) = some [.imm n r] := _root_.id rfl
theorem QE5 (K j) : Qcb K (.sl j) = cond (kg K j).isSome (some [.sl j]) none := by
 show (if Zp K (.sl j) = true then some [AV.sl j] else none) = _; exact QbW Iff.rfl _ _
theorem QPE (z) : QcA 0 z = [] := by simp [QcA]
theorem QMk (n z) : QcA (n + 1) z = z ++ QcA n z := by simp [QcA, List.replicate_succ]
theorem QKA (K) : Ve K [] = some (K, []) := _root_.id rfl
theorem QH7 (K x cs) : Ve K (.b x :: cs) = (Ve K cs).map fun p => (p.1, .b x :: p.2) := by simp [Ve, AV.closed]
theorem QI0 (K c x cs) : Ve K (.i c x :: cs) = (Ve K cs).map fun p => (p.1, .i c x :: p.2) := by simp [Ve, AV.closed]
theorem QF8 (K x cs) : Ve K (.s x :: cs) = (Ve K cs).map fun p => (p.1, .s x :: p.2) := by simp [Ve, AV.closed]
theorem QKN (K cs) : Ve K (.nil :: cs) = (Ve K cs).map fun p => (p.1, .nil :: p.2) := by simp [Ve, AV.closed]
theorem QxG (K n r cs) : Ve K (.imm n r :: cs) = (Ve K cs).map fun p => (p.1, .imm n r :: p.2) := by simp [Ve, AV.closed]
def QGS (e : Option Ent) (K : KS) (j : Nat) (cs : List AV) : Option (KS × List AV) := match e with
  | some (.lst n rows) => (Ve (K.set j none) cs).map fun p => (p.1, .own n rows :: p.2)
  | _ => none
theorem QEa (K j cs) : Ve K (.sl j :: cs) = QGS (kg K j) K j cs := by simp only [Ve]; rfl
theorem QLr (K n r j cs) : QGS (some (.lst n r)) K j cs = (Ve (K.set j none) cs).map fun p => (p.1, .own n r :: p.2) := _root_.id rfl
theorem QEA (m cs) : QaG m 0 cs = [] := _root_.id rfl
theorem QHS (m l cs) : QaG m (l + 1) cs = cs.take m :: QaG m l (cs.drop m) := _root_.id rfl
def Qsx (e : Option (List (List AV) × KS)) (n m b : Nat) (s : AV) (k : AV → KS → Option β) (_ : Lk k) : Option β := match e with
  | some (rows', K1) => match s with
   | .sl j => match kg K1 j with
    | some (.lst n' rows) => if n' = m then Q7 (decide ((rows.length + rows'.length) * (b + 1) ≤ 140737488355328)) (V0 (K1.set j none ++ [some (.lst m (rows ++ rows'))]) (fun K' => k (.sl n) K') ()) () else none
    | _ => none
   | .nil => Q7 (decide (rows'.length * (b + 1) ≤ 140737488355328)) (V0 (K1 ++ [some (.lst m rows')]) (fun K' => k (.sl n) K') ()) ()
   | _ => none
  | none => none
def QvO (e : Option Ent) (r : List (List AV)) (K1 : KS) (n m b j : Nat) (k : AV → KS → Option β) (_ : Lk k) : Option β := match e with
    | some (.lst n' rows) => if n' = m then Q7 (decide ((rows.length + r.length) * (b + 1) ≤ 140737488355328)) (V0 (K1.set j none ++ [some (.lst m (rows ++ r))]) (fun K' => k (.sl n) K') ()) () else none
    | _ => none
def QDM (K : KS) (t : Option (TypeId × Nat × List AV)) (bytes : Option Nat) (s x : AV) (k : AV → KS → Option β) (_ : Lk k) : Option β := Qkr K t bytes s x k ()
def QyU (P : Program) (t : Option (TypeId × Nat × List AV)) : Option Nat := t.bind fun q => tb P q.1
theorem QFA {P : Program} {D : Orc} {f : Fr} {K : KS} (s x t tx ts) (k : AV → KS → Option β) (l) : oop P D (.call ⟨.builtin .append, List.toArray [s, x], List.toArray (t :: tx :: ts)⟩) f K k l = okB (Qax P tx && !(Qbb s && Qen (ev f x))) (QDM K (tse P t) (QyU P (tse P t)) (ev f s) (ev f x) k ()) () := by
 simp only [oop, okB, QDM, QyU]; cases Qax P tx <;> cases (Qbb s && Qen (ev f x)) <;> rfl
theorem QNI (d) : Qbb (.tmp d) = false := _root_.id rfl
theorem QMe : Qbb (.const (.slice none 0 0)) = true := _root_.id rfl
theorem QNp (n r) : Qen (.imm n r) = false := _root_.id rfl
theorem QM6 : Qen .nil = false := _root_.id rfl
theorem QLD (j) : Qen (.sl j) = true := _root_.id rfl
def Qw7 (ns : List Nat) (K : KS) (t : Option (TypeId × Nat × List AV)) (bytes : Option Nat) (l c : AV) (k : AV → KS → Option β) (_ : Lk k) : Option β := QsX ns K t bytes l c k ()
theorem QNF {P : Program} {D : Orc} {f : Fr} {K : KS} (t x c) (k : AV → KS → Option β) (l) : oop P D (.makeSlice t x c) f K k l = Qw7 (Qdi P t) K (tse P t) (QyU P (tse P t)) (ev f x) (ev f c) k () := _root_.id rfl
theorem QFf (ns K e m z b i c) (k : AV → KS → Option β) (l) : Qw7 ns K (some (e, m, z)) (some (b + 1)) (.i .i64 i) (.i .i64 c) k l = Q7 (decide (i = c)) (Q7 (mkB i (b + 1)) (V0 (K ++ [some (.lst m (List.replicate i.toNat (nz ns z)))]) (fun K' => k (.sl K.length) K') ()) ()) () := _root_.id rfl
theorem QOT (i : Int) : (i = i) = True := by simp
theorem QIt (P e m z) : QyU P (some (e, m, z)) = tb P e := _root_.id rfl
theorem a_1 (K e m z b s x) (k : AV → KS → Option β) (l) : QDM K (some (e, m, z)) (some (b + 1)) s x k l = Qsx (Qb8 K m x) K.length m b s k () := _root_.id rfl
theorem a_2 (r K1 n m b j) (k : AV → KS → Option β) (l) : Qsx (some (r, K1)) n m b (.sl j) k l = QvO (kg K1 j) r K1 n m b j k () := _root_.id rfl
theorem a_3 (r K1 n m b) (k : AV → KS → Option β) (l) : Qsx (some (r, K1)) n m b .nil k l = Q7 (rm r.length (b + 1)) (V0 (K1 ++ [some (.lst m r)]) (fun K' => k (.sl n) K') ()) () := by
 simp [Qsx, rm]
theorem a_4 (r' r K1 n m b j) (k : AV → KS → Option β) (l) : QvO (some (.lst m r')) r K1 n m b j k l = Q7 (rm (r'.length + r.length) (b + 1)) (V0 (K1.set j none ++ [some (.lst m (r' ++ r))]) (fun K' => k (.sl n) K') ()) () := by
 simp [QvO, rm]
theorem QOl (K m) : Qb8 K m .nil = some ([], K) := _root_.id rfl
theorem QNh (K m r) : Qb8 K m (.imm m r) = some (r, K) := by simp [Qb8]
def QCQ (e : Option Ent) (K : KS) (m k : Nat) : Option (List (List AV) × KS) := match e with
  | some (.lst n rows) => if n = m then some (rows, K.set k none) else none
  | _ => none
theorem QNC (K m j) : Qb8 K m (.sl j) = QCQ (kg K j) K m j := _root_.id rfl
theorem QMH (K m j r) : QCQ (some (.lst m r)) K m j = some (r, K.set j none) := by simp [QCQ]
end
section
variable (T : Tld)
theorem QJ9 (n h) : (orc T (n + 1) h).w = T.wt := _root_.id rfl
theorem QFX (n h g) : (orc T n h).z g = (lk T.pz g).getD [] := by cases n <;> rfl
theorem QKV (n h) : (orc T (n + 1) h).v = T.vt := _root_.id rfl
theorem QKT (n h) : (orc T n h).m = CM T n := by cases n <;> rfl
theorem QKZ (n h) : (orc T n h).a = CA T n := by cases n <;> rfl
theorem QHV (n h) : (orc T (n + 1) h).q = T.qt := _root_.id rfl
theorem QJ5 (n h) : (orc T (n + 1) h).s = T.st := _root_.id rfl
theorem QI1 (n h) : (orc T n h).p = CP T n := by cases n <;> rfl
theorem QIe (n h) : (orc T n h).l = LP T n h := _root_.id rfl
noncomputable def cpF (T : Tld) (n g : Nat) (fn : Option Func) (a : Option Ann) (args : List AV) : Option AV := match a with
 | some a => match fn with
  | some f => cond (Nat.ble args.length f.ntmps) (VD T.P (orc T n g) a (f.body.getD .skip) (Qg9 T.P a.sh f.results.toList) (VK args) [] ()) none
  | none => cond (Nat.ble args.length 0) (VD T.P (orc T n g) a .skip (Qg9 T.P a.sh []) (VK args) [] ()) none
 | none => T.xt g args
noncomputable def caF (T : Tld) (n g : Nat) (fn : Option Func) (a : Option Ann) (K : KS) (args : List AV) : Option (AV × KS) := match a with
 | some a => match fn with
  | some f => cond (a.wr && (Nat.beq K.length a.ak.length && Nat.ble args.length f.ntmps)) (VD T.P (orc T n g) a (f.body.getD .skip) (QjB T.P a.ak a.nr f.ntmps f.results.toList) (VK args) K ()) none
  | none => cond (a.wr && (Nat.beq K.length a.ak.length && Nat.ble args.length 0)) (VD T.P (orc T n g) a .skip (QjB T.P a.ak a.nr 0 []) (VK args) K ()) none
 | none => none
theorem Qer (n g K args) : CA T (n + 1) g K args = caF T n g (T.P.funcs[g]?) (T.at g) K args := by
 show (match T.at g with | some a => cond _ _ _ | none => none) = _
 unfold caF body Qj0 ntm
 cases T.at g with
 | none => rfl
 | some a => cases T.P.funcs[g]? <;> rfl
theorem QwH (n g K args a) (x1 x2 x3 x4 x5 x6 m) (rs : List ResultVar) (c x7 x8 x9 x10 x11 x12 x13) : caF T n g (some ⟨x1, x2, x3, x4, x5, x6, m, List.toArray rs, some c, x7, x8, x9, x10, x11, x12, x13⟩) (some a) K args = cond ((a.nr.isSome || !a.ak.isEmpty) && ((K.length == a.ak.length) && Nat.ble args.length m)) (VD T.P (orc T n g) a c (QjB T.P a.ak a.nr m rs) (VK args) K ()) none := by rw [← Qi5]; rfl
theorem QDt {α : Type} (x : α) (l : List α) : (x :: l).isEmpty = false := _root_.id rfl
theorem QM9 : (!false) = true := _root_.id rfl
noncomputable def cmF (T : Tld) (n g : Nat) (fn : Option Func) (a : Option Ann) (K : KS) (args : List AV) : Option AV := match a with
 | some a => cond (Nat.ble args.length (match fn with | some f => f.ntmps | none => 0)) (VD T.P (orc T n g) a (match fn with | some f => f.body.getD .skip | none => .skip) (Qg9 T.P a.sh (match fn with | some f => f.results.toList | none => [])) (VK args) K ()) none
 | none => T.mt g K args
theorem Qz3 (n g K args) : CM T (n + 1) g K args = cmF T n g (T.P.funcs[g]?) (T.at g) K args := by
 show (match T.at g with | some a => _ | none => _) = _
 unfold cmF body Qj0 ntm
 cases T.at g with
 | none => rfl
 | some a => cases T.P.funcs[g]? <;> rfl
theorem Qvv (n g K args a) (x1 x2 x3 x4 x5 x6 m) (rs : List ResultVar) (c x7 x8 x9 x10 x11 x12 x13) : cmF T n g (some ⟨x1, x2, x3, x4, x5, x6, m, List.toArray rs, some c, x7, x8, x9, x10, x11, x12, x13⟩) (some a) K args = cond (Nat.ble args.length m) (VD T.P (orc T n g) a c (Qg9 T.P a.sh rs) (VK args) K ()) none := _root_.id rfl
theorem Qg (n g args) : CP T (n + 1) g args = cpF T n g (T.P.funcs[g]?) (T.at g) args := by
 show (match T.at g with | some a => cond _ _ _ | none => T.xt g args) = _
 unfold cpF body Qj0 ntm
 cases T.at g with
 | none => rfl
 | some a => cases T.P.funcs[g]? <;> rfl
theorem QOc (n g args) (h : T.at g = none) : CP T (n + 1) g args = T.xt g args := by rw [Qg, h]; rfl
theorem Qw9 (n g args a) (x1 x2 x3 x4 x5 x6 m) (rs : List ResultVar) (c x7 x8 x9 x10 x11 x12 x13) : cpF T n g (some ⟨x1, x2, x3, x4, x5, x6, m, List.toArray rs, some c, x7, x8, x9, x10, x11, x12, x13⟩) (some a) args = cond (Nat.ble args.length m) (VD T.P (orc T n g) a c (Qg9 T.P a.sh rs) (VK args) [] ()) none := _root_.id rfl
noncomputable def lpG (T : Tld) (n h : Nat) (a : Ann) (c : Option Code) (la : Option LA) (f : Fr) (K : KS) : Option (XE × Fr × KS) := match c, la with
    | some c, some la => run (fun s => VD T.P (orc T n h) a c (QfY a.ak la a.rt) s.1 s.2 ()) (f, K)
    | _, _ => none
noncomputable def lpF (T : Tld) (n h t : Nat) (fn : Option Func) (a : Option Ann) (f : Fr) (K : KS) : Option (XE × Fr × KS) := match a with
 | some a => lpG T n h a (QF t (match fn with | some f => f.body.getD .skip | none => .skip)) (lk a.lp t) f K
 | none => none
theorem QB (n h t f K) : LP T (n + 1) h t f K = lpF T n h t (T.P.funcs[h]?) (T.at h) f K := by
 show (match T.at h with | some a => _ | none => none) = _
 unfold lpF
 cases T.at h <;> rfl
theorem QwL (n h t a f K) (x1 x2 x3 x4 x5 x6 m rs c x7 x8 x9 x10 x11 x12 x13) : lpF T n h t (some ⟨x1, x2, x3, x4, x5, x6, m, rs, some c, x7, x8, x9, x10, x11, x12, x13⟩) (some a) f K = lpG T n h a (QF t c) (lk a.lp t) f K := _root_.id rfl
theorem Qm (n h a c la f K) : lpG T n h a (some c) (some la) f K = run (fun s => VD T.P (orc T n h) a c (QfY a.ak la a.rt) s.1 s.2 ()) (f, K) := _root_.id rfl
theorem getD_some {α : Type} (x d : α) : (some x).getD d = x := _root_.id rfl
theorem Qi4 {α : Type} (d : α) : (none : Option α).getD d = d := _root_.id rfl
end
end Go.Proofs.YtkbilciipmijjaaGreat.Am
namespace Go.Proofs.YtkbilciipmijjaaGreat.Am
open Go
set_option linter.unusedVariables false
set_option linter.unusedSimpArgs false
section
variable {α β γ : Type} {c : α → List AV}
theorem Qmq (xs : List α) (i) : inb (xs.map c) i = inb xs i := by simp [inb]
theorem QMu (xs : List α) : lnR (xs.map c) = ln xs := by simp [lnR, ln]
theorem Qm0 [Inhabited α] (xs : List α) (i : Int) (h : inb xs i = true) : Qy (xs.map c) i.toNat = c (gt xs i) := by
 obtain ⟨h0, h1⟩ := Qcx.1 h
 have h2 : i.toNat < xs.length := by omega
 simp [Qy, gt, List.getD_eq_getElem?_getD, h2]
theorem QGd (xs : List α) (i : Int) (h : inb xs i = true) : Qmj (xs.map c) i.toNat = true := by
 unfold Qmj
 obtain ⟨h0, h1⟩ := Qcx.1 h
 rw [Nat.blt_eq]; simp; omega
theorem QFk (xs : List α) (l h : Int) : cut (xs.map c) l h = (cut xs l h).map c := by simp [cut, List.map_take, List.map_drop]
theorem QGb (xs : List α) : (xs.map c).length = xs.length := by simp
theorem QuH (xs : List α) (n : Nat) (x : α) (i : Int) : inb (xs.set n x) i = inb xs i := by simp [inb]
theorem QzF [Inhabited α] (xs : List α) (x : α) (i : Int) (h : inb xs i = true) : gt (xs.set i.toNat x) i = x := by
 obtain ⟨h0, h1⟩ := Qcx.1 h
 have h2 : i.toNat < xs.length := by omega
 simp [gt, List.getD_eq_getElem?_getD, h2]
theorem QwQ (xs : List α) (n : Nat) (x y : α) : (xs.set n x).set n y = xs.set n y := by simp
theorem Qtv (o : Option α) (g : β → γ) (f : α → Option β) : (o.bind f).map g = o.bind fun x => (f x).map g := by cases o <;> rfl
theorem Qty (b : Bool) (o : Option β) (g : β → γ) (l) : (Q7 b o l).map g = Q7 b (o.map g) () := by cases b <;> rfl
theorem QtA (b : Bool) (x y : Option β) (g : β → γ) : (cond b x y).map g = cond b (x.map g) (y.map g) := by cases b <;> rfl
theorem QwU {ρ δ : Type} (p : ρ → Option β) (q : δ → Option β) (x) (g : β → γ) : (evO p q x).map g = evO (fun r => (p r).map g) (fun r => (q r).map g) x := by cases x <;> rfl
theorem QpJ (x : α) (f : α → Option β) : (some x).bind f = f x := _root_.id rfl
theorem Qph (o : Option α) (f : α → Option β) (g : β → Option γ) : (o.bind f).bind g = o.bind fun x => (f x).bind g := by cases o <;> rfl
theorem Qyd {α' β' : Type} (f : α → α') (g : β → β') (x) : Sum.map f g (.inl x) = .inl (f x) := _root_.id rfl
theorem QyH {α' β' : Type} (f : α → α') (g : β → β') (x) : Sum.map f g (.inr x) = .inr (g x) := _root_.id rfl
end
class EncR {α : Type} (c : α → List AV) (r : List AV) (x : outParam α) : Prop where
 eq : r = c x
class EncL {α : Type} (c : α → List AV) (R : List (List AV)) (xs : outParam (List α)) : Prop where
 eq : R = xs.map c
instance {α : Type} (c : α → List AV) (x : α) : EncR c (c x) x := ⟨rfl⟩
instance {α : Type} (c : α → List AV) (xs : List α) : EncL c (xs.map c) xs := ⟨rfl⟩
instance {α : Type} (c : α → List AV) : EncL c [] [] := ⟨rfl⟩
instance {α : Type} (c : α → List AV) (r R x xs) [h : EncR c r x] [H : EncL c R xs] : EncL c (r :: R) (x :: xs) := ⟨by rw [h.eq, H.eq]; rfl⟩
instance {α : Type} (c : α → List AV) (R S xs ys) [h : EncL c R xs] [H : EncL c S ys] : EncL c (R ++ S) (xs ++ ys) := ⟨by rw [h.eq, H.eq]; simp⟩
instance {α : Type} (c : α → List AV) (R xs) (i : Nat) (r x) [h : EncL c R xs] [H : EncR c r x] : EncL c (R.set i r) (xs.set i x) := ⟨by rw [h.eq, H.eq, List.map_set]⟩
instance {α : Type} (c : α → List AV) (n : Nat) (r x) [H : EncR c r x] : EncL c (List.replicate n r) (List.replicate n x) := ⟨by rw [H.eq, List.map_replicate]⟩
theorem QBy {α : Type} {c : α → List AV} (xs : List α) (R) {ys} [h : EncL c R ys] : xs.map c ++ R = (xs ++ ys).map c := by rw [h.eq]; simp
theorem QEs {α : Type} {c : α → List AV} (xs : List α) (n : Nat) (R) {x} [h : EncR c R x] : (xs.map c).set n R = (xs.set n x).map c := by rw [h.eq, List.map_set]
theorem J0 {α : Type} {c : α → List AV} (h : ∀ x, XP (c x) = true) (xs : List α) : QX (xs.map c) = true := by
 induction xs with
 | nil => simp [QX]
 | cons x xs ih => simp [QX, h, ih]
theorem Qlx {α : Type} {c : α → List AV} (h : ∀ x, (c x).all AV.scal = true) (xs : List α) : QaN (xs.map c) = true := by
 induction xs with
 | nil => rfl
 | cons x xs ih => unfold QaN at ih ⊢; rw [List.map_cons, List.all_cons, h, ih]; rfl
theorem Qay {α : Type} {c c' : α → List AV} (h : ∀ x, Vi (c x) = c' x) (xs : List α) : Qt (xs.map c) = xs.map c' := by
 induction xs with
 | nil => simp [Qt]
 | cons x xs ih => simp [Qt, h, ih]
theorem QCv {α : Type} {c : α → List AV} (xs : List α) (n b : Nat) (m) : QjY (xs.map c).isEmpty (some (AV.own n [])) (Q7 (rm (0 + xs.length) b) (some (AV.own n (xs.map c))) m) = Q7 (rm (0 + xs.length) b) (some (AV.own n (xs.map c))) () := by
 cases xs with
 | nil => simp [QjY, oeq, Q7, rm]
 | cons r R => rfl
set_option linter.defProp false
set_option maxRecDepth 100000
def evA := aI @QEX <| aI @QIT <| aI @QvV <| aI @QAM <| aI @Qxf <| aI @QAj <| aI @QGT <| aI @QGM <| aI @QB0 <| aI @QxI <| aI @Qwd <| aI @QOb <| aI @QIa <| aI @QPk <| aI @QLm <| aI @QxQ <| aI @QF2 <| aI @QxH <| aI @QB2 <| aI @QxE <| aI @QvH <| aI @QJG <| aI @QJt <| aI @QCZ <| aI @QBC <| aI @QC7 <| aI @QHC <| aI @QyP <| aI @Qvd <| aI @QHJ <| aI @Qv1 <| aI @QEp <| aI @QDB <| aI @QCp <| aI @QFQ <| aI @QKf <| aI @QLi <| aI @QE8 <| aI @QwA <| aI @QmP <| aI @QCP <| aI @QHo <| aI @Qyo <| aI @QuW <| aI @QEm <| aI @QDk <| aI @QFR <| aI @QKw <| aI @s_v <| aI @v_j <| aI @v_s <| aI @QIB <| aI @QGW <| aI @Qvv <| aI @QsV <| aI @n_c <| aI @QJk <| aI @QEv <| aI @QHm <| aI @QGp <| aI @n_g <| aI @QKU <| aI @QKy <| aI @QGQ <| aI @QBw <| aI @QHP <| aI @QD3 <| aI @QFm <| aI @QBi <| aI @QzU <| aI @Qxc <| aI @Qrt <| aI @QrD <| aI @QrG <| aI @Qsu <| aI @QMf <| aI @QNm <| aI @Qz2 <| aI @QKH <| aI @QJF <| aI @QDw <| aI @QDy <| aI @QEj <| aI @Qzy <| aI @QvU <| aI @QyC <| aI @Qug <| aI @QyA <| aI @QwR <| aI @QHG <| aI @QFF <| aI @QBI <| aI @QDe <| aI @QDT <|  aI @QyD <| aI @QmP <| aI @QEN <| aI @QGZ <| aI @QyQ <| aI @QJa <| aI @QFo <| aI @Qvo <| aI @Qxo <| aI @Qv8 <| aI @QIq <| aI @Quu <| aI @QE3 <| aI @QF6 <|
 aI @Qvk <| aI @Qu8 <| aI @QBk <| aI @QrU <| aI @Qvl <| aI @Quy <| aI @QuA <| aI @Qyb <| aI @Qyi <| aI @QxX <|
 aI @QIk <| aI @QDf <| aI @Qym <| aI @c_g <| aI @QM1 <| aI @QAB <| aI @QAF <| aI @QzZ <|
 aI @Qh2 <| aI @QtL <| aI @QqU <| aI @Qoz <| aI @Qq9 <|
 aI @QDA <| aI @QuN <| aI @QBp <| aI @Qy6 <| aI @QFB <| aI @QyT <| aI @Qun <| aI @QB8 <| aI @Qzj <| aI @QGH <| aI @QD1 <| aI @QBs <| aI @QBL <| aI @QBQ <| aI @QFW <| aI @QKM <| aI @QIF <| aI @QJw <| aI @QGJ <| aI @QKq <| aI @QD0 <| aI @QDz <| aI @QBW <| aI @QLP <|
 aI @QOV <| aI @QMw <| aI @QLz <| aI @QIY <| aI @QHI <| aI @QHL <| aI @QCL <| aI @QzX <| aI @QFA <| aI @QNF <|
 aI @QKr <| aI @QEq <| aI @QtY <| aI @Qqh <| aI @QqI <| aI @QoV <| aI @QoC <| aI @Qxm <| aI @Qqp <| aI @Qti <|
 aI @QoQ <| aI @QoH <| aI @VG <| aI @QiG <| aI @QlS <| aI @QmV <|
 aI @QxM <| aI @QxB <| aI @QCd <| aI @QAl <| aI @n_r <| aI @n_s <| aI @QMr <| aI @QNG <| aI @QNZ <|
 aI @QGX <| aI @QBb <| aI @Qzm <| aI @QDD <| aI @Qw4 <| aI @QCN <| aI @QIf <| aI @QCV <| aI @QAS <| aI @QA4 <|
 aI @getD_some <| aI @Qi4 <| aI @Qw9 <| aI @QwH <| aI @QwL @QAP
def evB := aI @QnW <| aI @Qn1 <| aI @QOq <| aI @QLF <| aI @QL1 <| aI @QPb <| aI @QN0 <| aI @QNV <| aI @QMn <| aI @QNy <| aI @QMJ <| aI @QOa <| aI @QOn <| aI @QMy <| aI @QPH <| aI @QNf <| aI @QPu <| aI @QNQ <| aI @QPG <| aI @QPg <| aI @QEX <| aI @QIT <| aI @QvV <| aI @QAM <| aI @Qxf <| aI @QAj <| aI @QGT <| aI @QGM <| aI @QKf <| aI @QLi <| aI @QE8 <| aI @QO0 <| aI @c_K <| aI @QLm <| aI @QEV <| aI @QMO <| aI @s_v <| aI @v_j <| aI @v_s <| aI @QIB <| aI @QGW <| aI @Qvv <| aI @p_0 <| aI @p_e <| aI @p_s <| aI @p_n <| aI @p_z <| aI @p_a <| aI @QM7 <| aI @QPJ <| aI @QO1 <| aI @QPi <| aI @QM0 <| aI @QOI <| aI @QNJ <| aI @QMl <| aI @QFX <| aI @QlS <| aI @QmV <| aI @Qi4 <| aI @getD_some <| aI @n_c <| aI @QJk <| aI @QEv <| aI @QHm <| aI @QGp <| aI @n_g <| aI @QKU <| aI @QKy <| aI @QGQ <| aI @QAl <| aI @n_r <| aI @n_s <| aI @QzB <| aI @Qyl <| aI @QzI <| aI @QoQ <| aI @QoH <| aI @VG <| aI @QiG <| aI @Qvk <| aI @Qu8 <| aI @QrU <| aI @QAB <| aI @QAF <| aI @QAS <| aI @QA4 <| aI @getD_some <| aI @Qi4 <| aI @Qvo <| aI @Qxo <| aI @Quu <| aI @Qv8 <| aI @Xj <| aI @QJa <| aI @QFo <| aI @c_M <| aI @QNI <| aI @QMe <| aI @QNp <| aI @QM6 <| aI @QLD <| aI @QKz <| aI @QK6 <| aI @QDu <| aI @QDh <| aI @QzH <| aI @Qx3 <| aI @QBY <| aI @Qxx <| aI @QuC <| aI @QLx <| aI @QJR <| aI @Qwe <| aI @QDG <| aI @QBB <| aI @QER <| aI @QBn <| aI @QBh <| aI @QvK <| aI @Qv3 <| aI @Qrt <| aI @QrD <| aI @QKH <| aI @QJF <| aI @QMh <| aI @QL6 <| aI @QMX <| aI @QOr <| aI @QNe <| aI @QMM <| aI @s_w <| aI @w_j <| aI @w_s <| aI @QL3 <| aI @QMD <| aI @QFy <| aI @QCF <| aI @QPf <| aI @QN1 <| aI @QIE <| aI @QPC <| aI @QN4 <| aI @QMi <| aI @QOH <| aI @QHw <| aI @QBe <| aI @QOA <| aI @QOm <| aI @QJO <| aI @QOk <| aI @QNx <| aI @QOL <| aI @QM4 <| aI @QM5 <| aI @QOx <| aI @QPD <| aI @QMq <| aI @QNg <| aI @QNL <| aI @QPd <| aI @QIv <| aI @QIQ <| aI @QPc <| aI @QLT <| aI @QNN <| aI @QOP <| aI @QPx <| aI @QO2 <| aI @QL4 <| aI @QMT <| aI @QN7 <| aI @QMA <| aI @QLU <| aI @QPI <| aI @QMj <| aI @QLB <| aI @QOQ <| aI @QNO <| aI @QMI <| aI @QFC <| aI @QH8 <| aI @QGq <| aI @QF7 <| aI @QM2 <| aI @QN2 <| aI @QLR <| aI @QNS <| aI @QNo <| aI @QOB <| aI @QN5 <| aI @QJv <| aI @QGs <| aI @QG1 <| aI @QJZ <| aI @QO6 <| aI @QPn <| aI @QMg <| aI @QNi <| aI @QLq <| aI @QN9 <| aI @QNR <| aI @QKC <| aI @QHD <| aI @QN6 <| aI @QMp <| aI @QHW <| aI @QHy <| aI @QHi <| aI @QKj <| aI @QJ6 <| aI @Bool.true_or <| aI @Bool.false_or <| aI @QMP <| aI @QO4 <| aI @QMR <| aI @QLC <| aI @QOe <| aI @QNc <| aI @QL8 <| aI @QNv <| aI @w_p <| aI @QMB <| aI @w_x <| aI @w_n <| aI @Qz2 <| aI @QIN <| aI @QLy <| aI @QwH <| aI @QDt <| aI @QM9 <| aI @QrG <| aI @Qsu <| aI @s_t <| aI @s_q <| aI @s_f <| aI @QLK <| aI @QHZ <| aI @QDn <| aI @QOy <| aI @QIW <| aI @QDo <| aI @QqK <| aI @QCE <| aI @QEb <| aI @QFD <| aI @QGf <| aI @QKm <| aI @QBr <| aI @QLe <| aI @QLA <| aI @QFI <| aI @QsV <| aI @Qw9 <| aI @QwL <| aI @QlS <| aI @Qh2 <|
 aI @QJK <| aI @QHa <| aI @QMc <| aI @QPe <| aI @QDJ <| aI @QDl <| aI @QDO <| aI @Qzq <| aI @QtO <| aI @QuP <| aI @Qw8 <| aI @QuE <| aI @QpK <| aI @QGw <| aI @QKE <| aI @QOM <| aI @QIA <|
 aI @QAx <| aI @QFS <| aI @QH1 <| aI @QJE <| aI @QGx <| aI @QKI <| aI @QHN <| aI @QFP <| aI @QK3 <| aI @QG6 <| aI @QGC <| aI @QFp <| aI @QEM <| aI @QFx <| aI @QHR <| aI @QJp <| aI @QGP <| aI @QJe <|
 aI @QE7 <| aI @QGh <| aI @QEU <| aI @QJ1 <| aI @QGr <| aI @QCB <| aI @QBE <| aI @QCr <| aI @QEk <| aI @QIb <| aI @QBg <| aI @QE1 <| aI @QLl <| aI @QGy <| aI @QHu <| aI @QC9 <| aI @QCk <| aI @QCs <| aI @QDU <| aI @QB6 <| aI @QBR <| aI @QD5 <| aI @QBq <| aI @QHz <| aI @QD9 <|
 aI @QyM <| aI @Qxw <| aI @Qye <| aI @QJj <| aI @QyZ <| aI @QJg <| aI @QPz <| aI @QEg <| aI @QnV <| aI @QJ3 <| aI @QI9 <|
 aI @QI2 <| aI @QHU <| aI @QCh <| aI @QBo <| aI @QJd <| aI @QA9 <| aI @QDX <| aI @QC3 <| aI @QzE <| aI @Qyn <| aI @Qyp <| aI @Qzg <|
 aI @QDW <| aI @QHk <| aI @QBz <| aI @QDs <| aI @QCl <| aI @Qy4 <| aI @QEC <| aI @QEe <| aI @QA8 <| aI @QC1 <| aI @Qwk <| aI @QuR <| aI @QyG <| aI @Qu2 <| aI @Qxe <| aI @QCO <| aI @QGz <| aI @QD7 <| aI @QEn <| aI @QLo <| aI @QDP <|
 aI @QL7 <| aI @m_c <| aI @QEh <| aI @QBA <| aI @QC2 <| aI @QCU <| aI @QG2 <| aI @QEG <| aI @QEP <| aI @Qzv <| aI @Qzo <| aI @QyY <|
 aI @QzN <| aI @Qza <| aI @Qzn <| aI @QxJ <| aI @QNr <| aI @QDF <| aI @QBd <| aI @QCD <| aI @QCW <|
 aI @QLc <| aI @QJ2 <| aI @QEK <| aI @QKO <| aI @Qx6 <| aI @QyK <| aI @QB7 <| aI @Qy8 <| aI @QNM <| aI @QJI <| aI @QKs <| aI @QKl <| aI @QGu <| aI @Qyg <| aI @QKx <|
 aI @Qzl <| aI @QvR <| aI @Qvp <| aI @QB4 <| aI @QDK <| aI @QN3 <| aI @QKQ <| aI @QIK <| aI @QHg <| aI @QLs <| aI @QJc <| aI @QJf <| aI @QLt <| aI @QDr <| aI @QH2 <| aI @QFg <| aI @QG8 <| aI @QFn <| aI @QEH <| aI @QPp <| aI @QPF <| aI @QNP <| aI @QNA <| aI @QOh <| aI @QPl <| aI @QMx <| aI @QLG <| aI @QOt <| aI @QPq <| aI @QOK <| aI @QLJ <| aI @QNj <| aI @QL0 <| aI @QPw <| aI @QNn <| aI @QJX <| aI @QKL <| aI @QGa <| aI @QBT <| aI @QDg <| aI @QEr <| aI @QBv <| aI @QCo <| aI @Qxz <| aI @QuB <| aI @QNW <|
 aI @QED <| aI @QHM <| aI @QDj <| aI @Qls <| aI @QqG <| aI @QLn <| aI @QH9 <| aI @QB9 <| aI @x_b <| aI @x_i <| aI @x_s <| aI @QLf <| aI @QGo <| aI @QEz <| aI @QLM <| aI @QHE <| aI @QCI <| aI @Qyu <| aI @QMU <|
 aI @QLa <| aI @QBl <| aI @QBj <| aI @QH6 <| aI @QKt <| aI @QOU <| aI @QC6 <| aI @QDI <| aI @QKJ <| aI @QEx <| aI @QJh <| aI @QId <| aI @QE9 <| aI @QI7 <| aI @QB5 <| aI @QBS <|
 aI @QEd <| aI @Qzd <| aI @Qyw <| aI @QzJ <| aI @Qys <| aI @QDb <| aI @QJs <| aI @QJN <| aI @QGi <| aI @QGv <| aI @Qyk <| aI @Qvs <| aI @QBV <| aI @QDC <| aI @QCw <| aI @QBa <| aI @QDa <|
 aI @l_0 <| aI @l_s <| aI @QO8 <| aI @QHc <| aI @QFG <| aI @QFZ <| aI @QBK <| aI @QDN <| aI @QCm <| aI @QKG <| aI @QMs <| aI @QOo <| aI @QMo <| aI @QOX <| aI @QO9 <| aI @QDZ <| aI @QKp <| aI @QHt <| aI @QIi <| aI @l_b <| aI @l_i <| aI @QOC <| aI @l_n <| aI @QJL <| aI @Qzu <| aI @Qxv <| aI @QB1 <| aI @QCi <| aI @QM3 <| aI @QMV <| aI @QOu <| aI @QNH <| aI @QDv <| aI @QEi <|
 aI @QEY <| aI @QG4 <| aI @QJT <| aI @i_b <| aI @i_i <| aI @QPr <| aI @i_n <| aI @QML <| aI @QLW <| aI @QAP <| aI @QJW <|
 aI @QG5 <| aI @QDS <| aI @QH4 <| aI @QMF <| aI @s_b <| aI @QLL <| aI @QOp <| aI @QMv <| aI @QOO <| aI @QLY <| aI @QMC <| aI @QOw <| aI @QOF <| aI @QON <| aI @QNt <| aI @QCK <| aI @QE5 <| aI @QPE <| aI @QMk <|
 aI @QKA <| aI @QH7 <| aI @QI0 <| aI @QF8 <| aI @QKN <| aI @QxG <| aI @QEa <| aI @QLr <| aI @QEA <| aI @QHS <|
 aI @QIt <| aI @QFf <| aI @QOT <| aI @QzZ <| aI @a_1 <| aI @a_2 <| aI @a_3 <| aI @a_4 <| aI @QOl <| aI @QNh <| aI @QNC @QMH
def evT := aI @Qmq <| aI @QCv <| aI @QFk <| aI @QMu <| aI @Qm0 <| aI @QGd <| aI @QEs <| aI @QBy <| aI @Qvf <| aI @QGb <| aI @QuH <| aI @QzF <| aI @QwQ <| aI @Qxq <| aI @QJQ <| aI @Qtv <| aI @Qty <| aI @QtA <| aI @QpJ <| aI @QwU <| aI @Qph <| aI @Qyd @QyH
def evN := aI @VG <| aI @List.contains_nil <| aI @Bool.not_false <| aI @Bool.and_true <| aI @List.length_append <| aI @List.length_cons <| aI @List.length_nil <| aI @Nat.zero_add <| aI @VT <| @Xj
end Go.Proofs.YtkbilciipmijjaaGreat.Am
