import Derived.Test.YtponohekgnklkaaGreatEvA
namespace Go.Proofs.YtponohekgnklkaaGreat.Am
open Go
set_option linter.unusedVariables false
set_option linter.unusedSimpArgs false
section
variable {β : Type}
theorem Qc9 {α : Type} {p : Prop} [Decidable p] {b : Bool} (h : b = true ↔ p) (x y : α) : (if p then x else y) = cond b x y := by
 cases b with
 | true => rw [if_pos (h.1 rfl)]; rfl
 | false => rw [if_neg (fun hp => by have := h.2 hp; cases this)]; rfl
theorem QlP {m n : Nat} : Nat.blt m n = true ↔ m < n := by rw [Nat.blt_eq]
theorem QiM {m n : Nat} : Nat.ble m n = true ↔ m ≤ n := by rw [Nat.ble_eq]
def sel {α : Type} (b : Bool) (x y : α) (_ : Lk (x, y)) : α := cond b x y
theorem QAP {α : Type} (x y : α) (l) : sel true x y l = x := _root_.id rfl
theorem QCD {α : Type} (x y : α) (l) : sel false x y l = y := _root_.id rfl
theorem QF7 (v) (k : AV → Option β) (l) : QkC v k l = k v := _root_.id rfl
theorem QBp (K) (k : KS → Option β) (l) : Xi K k l = k K := _root_.id rfl
theorem QLZ (f : Fr) (d : Nat) (v : AV) (t : Nat) : up f d v t = sel (d == t) v (f t) () := by
 unfold up sel
 by_cases h : t = d
 ·simp [h]
 ·have : (d == t) = false := by simp; exact fun h' => h h'.symm
  simp [h, this]
theorem QJB (m n : Nat) : Nat.ble m n = decide (m ≤ n) := by rw [Bool.eq_iff_iff, Nat.ble_eq]; simp
theorem QKc (m n : Nat) : Nat.blt m n = decide (m < n) := by rw [Bool.eq_iff_iff, Nat.blt_eq]; simp
theorem QTL (h : Decidable True) : @decide True h = true := by simp
theorem QRB (h : Decidable False) : @decide False h = false := by simp
theorem QHv (m n : Nat) (f : Fr) (t : Nat) : Qwd m n f t = sel (Nat.ble m t && Nat.blt t n) .u (f t) () := _root_.id rfl
theorem QvU (t : Nat) : frm [] t = .u := _root_.id rfl
theorem Qsb (d : Nat) (v : AV) (l : List (Nat × AV)) (t : Nat) : frm ((d, v) :: l) t = sel (d == t) v (frm l t) () := by
 show up (frm l) d v t = _; exact QLZ _ _ _ _
theorem Qsh (t : Nat) : V6 [] t = .u := by simp [V6]
theorem Qp8 (v : AV) (l : List AV) : V6 (v :: l) 0 = v := _root_.id rfl
theorem QrP (v : AV) (l : List AV) (t : Nat) : V6 (v :: l) (t + 1) = V6 l t := _root_.id rfl
theorem Qxg (f : Fr) (t : Tmp) : ev f (.tmp t) = f t := _root_.id rfl
theorem Qso (f : Fr) (v : Value) : ev f (.const v) = cv v := _root_.id rfl
theorem Qv5 (f : Fr) (g : FuncId) : ev f (.func g) = .clo g [] := _root_.id rfl
theorem QvT (b : Bool) : cv (.bool b) = .b b := _root_.id rfl
theorem QzG (k : IntKind) (i : Int) : cv (.int k i) = .i k i := _root_.id rfl
theorem Qxz (x : ByteArray) : cv (.string x) = .s x.data.toList := _root_.id rfl
theorem QyU : cv (.slice none 0 0) = .nil := _root_.id rfl
theorem QqI {α : Type} (x y : α) : cond true x y = x := _root_.id rfl
theorem QqN {α : Type} (x y : α) : cond false x y = y := _root_.id rfl
theorem VK (q : Option β) (l) : Vo true q l = q := _root_.id rfl
def Jd {ρ δ γ : Type} (o : Option (Fl ρ δ)) (p : ρ → γ) (q : δ → γ) : Option γ := o.map (evO p q)
theorem QpC {ρ δ γ : Type} (o : Option (Fl ρ δ)) (p : ρ → γ) (q : δ → γ) (k : γ → Option β) (l) : Jp (Jd o p q) k l = o.bind (evO (fun r => k (p r)) (fun r => k (q r))) := by
 cases o with
 | none => rfl
 | some o => cases o <;> rfl
theorem Qjj {α : Type} (x : α) (k : α → Option β) (l) : Jp (some x) k l = k x := _root_.id rfl
theorem Qpl {α : Type} (k : α → Option β) (l) : Jp (none : Option α) k l = none := _root_.id rfl
theorem Qpn {α : Type} (b : Bool) (q : Option α) (k : α → Option β) (l) (l') : Jp (Vo b q l') k l = Vo b (Jp q k l) () := by cases b <;> rfl
theorem QpR {α γ : Type} (o : Option γ) (e : γ → α) (k : α → Option β) (l) : Jp (o.map e) k l = o.bind (fun r => k (e r)) := by cases o <;> rfl
theorem Qm3 {α : Type} (i) : lk ([] : List (Nat × α)) i = none := _root_.id rfl
theorem Qoo {α : Type} (i) (x : α) (l j) : lk ((i, x) :: l) j = sel (i == j) (some x) (lk l j) () := _root_.id rfl
end
section
variable {β : Type} {P : Program} {D : Orc} {a : Ann} {f : Fr} {K : KS} {Q : KT β} {k : AV → KS → Option β}
theorem QFe (l) : V2 P D a .skip Q f K l = Q .normal f K := _root_.id rfl
theorem QLK (l) : V2 P D a .ret Q f K l = Q .ret f K := _root_.id rfl
theorem QGi (id l) : V2 P D a (.exit id) Q f K l = Q (.exit id) f K := _root_.id rfl
theorem QLz (x y l) : V2 P D a (.seq x y) Q f K l = V2 P D a x (Qqj (fun f K => V2 P D a y Q f K ()) Q) f K () := _root_.id rfl
def QPS (v : AV) (x y : Option β) (_ : Lk (x, y)) : Option β := match v with | .b b => cond b x y | _ => none
theorem QEU (c x y l) : V2 P D a (.cond c x y) Q f K l = QPS (ev f c) (V2 P D a x Q f K ()) (V2 P D a y Q f K ()) () := _root_.id rfl
theorem QKY (b) (x y : Option β) (l) : QPS (.b b) x y l = cond b x y := _root_.id rfl
theorem QBr (id c l) : V2 P D a (.block id c) Q f K l = V2 P D a c (Qvq id Q) f K () := _root_.id rfl
theorem QxL (id ol l) : V2 P D a (.region id (List.toArray ol) false) Q f K l = ofz (lk a.fz id) f K (fun f K => QiV P D a id (lk a.av id) (List.toArray ol) Q f K ()) () := _root_.id rfl
theorem QRA (f : Fr) (K : KS) (k : Fr → KS → Option β) (l) : ofz none f K k l = k f K := _root_.id rfl
theorem QT6 (f : Fr) (K : KS) (ss) (k : Fr → KS → Option β) (l) : ofz (some ss) f K k l = QrM ss f K k () := _root_.id rfl
theorem QVb (f : Fr) (K : KS) (k : Fr → KS → Option β) (l) : QrM [] f K k l = k f K := _root_.id rfl
theorem QSM (f : Fr) (K : KS) (s ss) (k : Fr → KS → Option β) (l) : QrM (s :: ss) f K k l = QAg s (f s) f K (fun f K => QrM ss f K k ()) () := _root_.id rfl
theorem QS7 (f : Fr) (K : KS) (s j) (k : Fr → KS → Option β) (l) : QAg s (.sl j) f K k l = QCP s j (kg K j) f K k () := _root_.id rfl
theorem QQG (f : Fr) (K : KS) (s j m rows) (k : Fr → KS → Option β) (l) : QCP s j (some (.lst m rows)) f K k l = k (up f s (.imm m (Qv rows))) (K.set j none) := _root_.id rfl
theorem QNX (id ol l) : QiV P D a id none (List.toArray ol) Q f K l = Qrb P D a id (lk a.an id) (List.toArray ol) ol Q f K () := _root_.id rfl
theorem QLR (id vs ol l) : QiV P D a id (some vs) (List.toArray ol) Q f K l = Z6 vs P D (List.toArray ol) ol f K (fun f K => Q .normal f K) () := _root_.id rfl
theorem QFk (vs ops) (k : Fr → KS → Option β) (l) : Z6 vs P D ops [] f K k l = k f K := _root_.id rfl
theorem QCz (vs ops d o t p af r) (k : Fr → KS → Option β) (l) : Z6 vs P D ops (⟨some d, o, t, p, af, none⟩ :: r) f K k l = Qly vs P D o f K (fun v K' => QkC v (fun v => Z6 vs P D ops r (up f d v) K' k ()) ()) () := _root_.id rfl
theorem Qyr (vs ops o t p af r) (k : Fr → KS → Option β) (l) : Z6 vs P D ops (⟨none, o, t, p, af, none⟩ :: r) f K k l = Qly vs P D o f K (fun v K' => Z6 vs P D ops r f K' k ()) () := _root_.id rfl
theorem QVh (vs ops r) (k : Fr → KS → Option β) (d op t pos after j want l) : Z6 vs P D ops (⟨some d, op, t, pos, after, some (j, want)⟩ :: r) f K k l =
  ogd ((ops[j]?).bind (·.dst)) want f (fun f => Qly vs P D op f K (fun v K' => QkC v (fun v => Z6 vs P D ops r (up f d v) K' k ()) ()) ()) (fun f => QkC (.tup []) (fun v => Z6 vs P D ops r (up f d v) K k ()) ()) () := _root_.id rfl
theorem QHP (vs ops r) (k : Fr → KS → Option β) (op t pos after j want l) : Z6 vs P D ops (⟨none, op, t, pos, after, some (j, want)⟩ :: r) f K k l =
  ogd ((ops[j]?).bind (·.dst)) want f (fun f => Qly vs P D op f K (fun v K' => Z6 vs P D ops r f K' k ()) ()) (fun f => Z6 vs P D ops r f K k ()) () := _root_.id rfl
def Qee : Op → Bool
 | .call ⟨.value (.func _), _, _⟩ => true
 | _ => false
theorem QUs (vs o l) (k : AV → KS → Option β) (h : Qee o = false) : Qly vs P D o f K k l = oop P D o f K k () := by
 unfold Qee at h
 unfold Qly
 split
 ·cases h
 ·rfl
theorem QLt (vs g args ts l) (k : AV → KS → Option β) : Qly vs P D (.call ⟨.value (.func g), args, ts⟩) f K k l = cond (vs.contains g) (QcY P D (.call ⟨.value (.func g), args, ts⟩) f K k ()) (oop P D (.call ⟨.value (.func g), args, ts⟩) f K k ()) := _root_.id rfl
theorem QAs (x args ts) : Qee (.call ⟨.value (.tmp x), args, ts⟩) = false := _root_.id rfl
theorem QPO (b args ts) : Qee (.call ⟨.builtin b, args, ts⟩) = false := _root_.id rfl
theorem QC6 (x) : Qee (.move x) = false := _root_.id rfl
theorem QGn (x) : Qee (.assign x) = false := _root_.id rfl
theorem QBB (t x) : Qee (.load t x) = false := _root_.id rfl
theorem Qyk (t x y) : Qee (.store t x y) = false := _root_.id rfl
theorem QOt (t x i) : Qee (.fieldAddr t x i) = false := _root_.id rfl
theorem QML (t x i) : Qee (.indexAddr t x i) = false := _root_.id rfl
theorem QFF (x i) : Qee (.extract x i) = false := _root_.id rfl
theorem QEV (t x i) : Qee (.field t x i) = false := _root_.id rfl
theorem QHu (o t x y u) : Qee (.binOp o t x y u) = false := _root_.id rfl
theorem QHS (o t x) : Qee (.unOp o t x) = false := _root_.id rfl
theorem QGz (x) : Qee (.nilCheck x) = false := _root_.id rfl
theorem QAZ (c x y) : Qee (.pick c x y) = false := _root_.id rfl
theorem Qzo (t ps) : Qee (.build t ps) = false := _root_.id rfl
theorem QQm (t n ps) : Qee (.buildSlice t n ps) = false := _root_.id rfl
theorem Qxa (t) : Qee (.alloc t) = false := _root_.id rfl
theorem QEY (t x) : Qee (.box t x) = false := _root_.id rfl
theorem QGd (t x lo hi m) : Qee (.slice t x lo hi m) = false := _root_.id rfl
theorem QFQ (t x i) : Qee (.index t x i) = false := _root_.id rfl
theorem QHT (s t x) : Qee (.convert s t x) = false := _root_.id rfl
theorem Qu7 (id ops ol l) : Qrb P D a id none ops ol Q f K l = Qrl P D a id (lk a.ac id) ops ol Q f K () := _root_.id rfl
theorem QuW (id us ops ol l) : Qrb P D a id (some us) ops ol Q f K l = QhQ P D ops us ol f K (fun f K => Q .normal f K) () := _root_.id rfl
theorem QuM (id ops ol l) : Qrl P D a id none ops ol Q f K l = Qns P D a id ops ol Q f K () := _root_.id rfl
theorem Qtm (id x ops ol l) : Qrl P D a id (some x) ops ol Q f K l = Qf2 P D ops ol f K (fun f K => Q .normal f K) () := _root_.id rfl
theorem QGt (ops) (k : Fr → KS → Option β) (l) : Qf2 P D ops [] f K k l = k f K := _root_.id rfl
theorem QAJ (ops d o t p af r) (k : Fr → KS → Option β) (l) : Qf2 P D ops (⟨some d, o, t, p, af, none⟩ :: r) f K k l = QcY P D o f K (fun v K' => QkC v (fun v => Qf2 P D ops r (up f d v) K' k ()) ()) () := _root_.id rfl
theorem QxK (ops o t p af r) (k : Fr → KS → Option β) (l) : Qf2 P D ops (⟨none, o, t, p, af, none⟩ :: r) f K k l = QcY P D o f K (fun v K' => Qf2 P D ops r f K' k ()) () := _root_.id rfl
theorem QAb (x l) : QcY P D (.move x) f K k l = oop P D (.move x) f K k () := _root_.id rfl
theorem Qvn (x l) : QcY P D (.assign x) f K k l = oop P D (.assign x) f K k () := _root_.id rfl
theorem QCw (t x l) : QcY P D (.load t x) f K k l = oop P D (.load t x) f K k () := _root_.id rfl
theorem Qw0 (t x y l) : QcY P D (.store t x y) f K k l = oop P D (.store t x y) f K k () := _root_.id rfl
theorem QNd (t x i l) : QcY P D (.fieldAddr t x i) f K k l = oop P D (.fieldAddr t x i) f K k () := _root_.id rfl
theorem QO5 (t x i l) : QcY P D (.indexAddr t x i) f K k l = oop P D (.indexAddr t x i) f K k () := _root_.id rfl
theorem QFR (t x i l) : QcY P D (.field t x i) f K k l = oop P D (.field t x i) f K k () := _root_.id rfl
theorem QF3 (x i l) : QcY P D (.extract x i) f K k l = oop P D (.extract x i) f K k () := _root_.id rfl
theorem QGR (o t x y u l) : QcY P D (.binOp o t x y u) f K k l = oop P D (.binOp o t x y u) f K k () := _root_.id rfl
theorem Qxq (t ps l) : QcY P D (.build t ps) f K k l = oop P D (.build t ps) f K k () := _root_.id rfl
theorem QLN (o t x l) : QcY P D (.unOp o t x) f K k l = oop P D (.unOp o t x) f K k () := _root_.id rfl
theorem QEB (x l) : QcY P D (.nilCheck x) f K k l = oop P D (.nilCheck x) f K k () := _root_.id rfl
theorem QCn (c x y l) : QcY P D (.pick c x y) f K k l = oop P D (.pick c x y) f K k () := _root_.id rfl
theorem QzF (t l) : QcY P D (.alloc t) f K k l = oop P D (.alloc t) f K k () := _root_.id rfl
theorem QFz (t x lo hi m l) : QcY P D (.slice t x lo hi m) f K k l = oop P D (.slice t x lo hi m) f K k () := _root_.id rfl
theorem QGS (t x i l) : QcY P D (.index t x i) f K k l = oop P D (.index t x i) f K k () := _root_.id rfl
theorem QPe (b xs ts l) : QcY P D (.call ⟨.builtin b, xs, ts⟩) f K k l = oop P D (.call ⟨.builtin b, xs, ts⟩) f K k () := _root_.id rfl
theorem QKm (s t x l) : QcY P D (.convert s t x) f K k l = oop P D (.convert s t x) f K k () := _root_.id rfl
theorem QFD (t x l) : QcY P D (.box t x) f K k l = oop P D (.box t x) f K k () := _root_.id rfl
def QvJ (b c d e : Bool) (D : Orc) (g : FuncId) (K : KS) (vs : List AV) (k : AV → KS → Option β) (_ : Lk (vs, k)) : Option β := cond b (Qom K vs k ()) (cond c (Ql7 K vs k ()) (cond d (QkO D g K vs k ()) (cond e (Qh1 D g K vs k ()) (Qgd D g K vs k ()))))
theorem QA8 (x xs ts l) : QcY P D (.call ⟨.value x, List.toArray xs, ts⟩) f K k l = QsL (ev f x) (fun g caps => QvJ (D.s g) (D.q g) (D.w g) (D.v g) D g K (xs.map (ev f) ++ caps) k ()) () := _root_.id rfl
theorem s_t (g c d e) (K : KS) (vs) (k : AV → KS → Option β) (l) : QvJ true c d e D g K vs k l = Qom K vs k () := _root_.id rfl
theorem s_q (g d e) (K : KS) (vs) (k : AV → KS → Option β) (l) : QvJ false true d e D g K vs k l = Ql7 K vs k () := _root_.id rfl
theorem s_f (g) (K : KS) (vs) (k : AV → KS → Option β) (l) : QvJ false false false false D g K vs k l = Qgd D g K vs k () := _root_.id rfl
theorem s_w (g e) (K : KS) (vs) (k : AV → KS → Option β) (l) : QvJ false false true e D g K vs k l = QlU D g K (QeR vs) vs k () := _root_.id rfl
theorem w_j (g) (K : KS) (js vs) (k : AV → KS → Option β) (l) : QlU D g K js vs k l = Vo (ndB js) (QlH D g K js (QcN js vs) k ()) () := _root_.id rfl
theorem w_s (g) (K : KS) (js cs) (k : AV → KS → Option β) (l) : QlH D g K js (some cs) k l = Vo (Qil (Jj K js)) (Jp (D.a g (Jj K js) cs) (fun r => k (QbR js K.length r.1) (QdU K js r.2)) ()) () := _root_.id rfl
theorem s_v (g) (K : KS) (vs) (k : AV → KS → Option β) (l) : QvJ false false false true D g K vs k l = QlR D g K (QeR vs) vs k () := _root_.id rfl
theorem v_j (g) (K : KS) (js vs) (k : AV → KS → Option β) (l) : QlR D g K js vs k l = Vo (ndB js) (QlY D g K js (QcN js vs) k ()) () := _root_.id rfl
theorem v_s (g) (K : KS) (js cs) (k : AV → KS → Option β) (l) : QlY D g K js (some cs) k l = Vo (QsK (Jj K js)) (Jp (D.m g (Jj K js) cs) (fun x => k (VV K.length x).1 (Zb K js (Qa6 js) ++ (VV K.length x).2)) ()) () := _root_.id rfl
theorem QJ9 : Qa6 [] = [] := _root_.id rfl
theorem QOP (j js) : Qa6 (j :: js) = none :: Qa6 js := _root_.id rfl
theorem p_0 (vs) : QnJ [] vs = vs := by cases vs <;> rfl
theorem p_e (ss) : QnJ ss [] = [] := by cases ss <;> rfl
theorem p_s (s ss v vs) : QnJ (s :: ss) (v :: vs) = Qsf s v :: QnJ ss vs := _root_.id rfl
theorem p_n (v) : Qsf .n v = v := by cases v <;> rfl
theorem p_z (k v) : Qsf (.z k) v = nic k v := by cases v <;> rfl
theorem p_a (ns cs) : Qsf (.a ns) (.agg cs) = .agg (ni ns cs) := _root_.id rfl
theorem QQZ (cs) : ni [] cs = cs := by cases cs <;> rfl
theorem QSr (n ns c cs) : ni (n :: ns) (c :: cs) = nic n c :: ni ns cs := _root_.id rfl
theorem QTF (n) : nic (n + 1) .nil = .imm (n + 1) [] := _root_.id rfl
theorem QQU : nic 0 .nil = .nil := _root_.id rfl
theorem QTG (n c x) : nic n (.i c x) = .i c x := _root_.id rfl
theorem QTC (n x) : nic n (.b x) = .b x := _root_.id rfl
theorem QT0 (n x) : nic n (.s x) = .s x := _root_.id rfl
theorem QRF (n m r) : nic n (.imm m r) = .imm m r := _root_.id rfl
theorem QUS : QeR [] = [] := _root_.id rfl
theorem QR2 (c cs) : QeR (c :: cs) = QmM c ++ QeR cs := _root_.id rfl
theorem QMj (j) : QmM (.sl j) = [j] := _root_.id rfl
theorem QOD (j a b) : QmM (.ptr j a b) = [j] := _root_.id rfl
theorem QMY (js j a b) : QcV js (.ptr j a b) = (QbM js j).map fun i => .ptr i a b := _root_.id rfl
theorem QVt (K js es) : QdU K js es = Zb K js es ++ QhX js es := _root_.id rfl
theorem QTB (es) : QhX [] es = es := _root_.id rfl
theorem QSQ (j js e es) : QhX (j :: js) (e :: es) = QhX js es := _root_.id rfl
theorem QT1 (k i) : rix [] k i = k + i := _root_.id rfl
theorem QVB (j js k) : rix (j :: js) k 0 = j := _root_.id rfl
theorem QTu (j js k) : rix (j :: js) k 1 = rix js k 0 := _root_.id rfl
theorem QUq (j js k) : rix (j :: js) k 2 = rix js k 1 := _root_.id rfl
theorem QSb (j js k) : rix (j :: js) k 3 = rix js k 2 := _root_.id rfl
theorem QVq (j js k) : rix (j :: js) k 4 = rix js k 3 := _root_.id rfl
theorem QRc (j js k) : rix (j :: js) k 5 = rix js k 4 := _root_.id rfl
theorem QUG (j js k) : rix (j :: js) k 6 = rix js k 5 := _root_.id rfl
theorem QVC (j js k) : rix (j :: js) k 7 = rix js k 6 := _root_.id rfl
theorem QRD (j js k) : rix (j :: js) k 8 = rix js k 7 := _root_.id rfl
theorem QSX (j js k) : rix (j :: js) k 9 = rix js k 8 := _root_.id rfl
theorem QTm (j js k) : rix (j :: js) k 10 = rix js k 9 := _root_.id rfl
theorem QTq (j js k) : rix (j :: js) k 11 = rix js k 10 := _root_.id rfl
theorem QTA (j js k) : rix (j :: js) k 12 = rix js k 11 := _root_.id rfl
theorem QTK (j js k) : rix (j :: js) k 13 = rix js k 12 := _root_.id rfl
theorem QSR (j js k) : rix (j :: js) k 14 = rix js k 13 := _root_.id rfl
theorem QVY (j js k) : rix (j :: js) k 15 = rix js k 14 := _root_.id rfl
theorem QRm (j js k) : rix (j :: js) k 16 = rix js k 15 := _root_.id rfl
theorem QRS (js k c n) : QbR js k (.i c n) = .i c n := by simp [QbR]
theorem QV3 (js k x) : QbR js k (.b x) = .b x := by simp [QbR]
theorem QSS (js k x) : QbR js k (.s x) = .s x := by simp [QbR]
theorem QRX (js k) : QbR js k .nil = .nil := by simp [QbR]
theorem QSn (js k n r) : QbR js k (.imm n r) = .imm n r := by simp [QbR]
theorem QNt (js k i) : QbR js k (.sl i) = .sl (rix js k i) := by simp [QbR]
theorem QOq (js k i a b) : QbR js k (.ptr i a b) = .ptr (rix js k i) a b := by simp [QbR]
theorem QM2 (js k cs) : QbR js k (.agg cs) = .agg (Qfj js k cs) := by simp [QbR]
theorem QPs (js k cs) : QbR js k (.tup cs) = .tup (Qfj js k cs) := by simp [QbR]
theorem QVe (js k) : Qfj js k [] = [] := by simp [Qfj]
theorem QTP (js k c cs) : Qfj js k (c :: cs) = QbR js k c :: Qfj js k cs := by simp [Qfj]
theorem QSD (m c n) : rok m (.i c n) = true := _root_.id rfl
theorem QST (m x) : rok m (.b x) = true := _root_.id rfl
theorem QU2 (m x) : rok m (.s x) = true := _root_.id rfl
theorem QQq (m) : rok m .nil = true := _root_.id rfl
theorem QSL (m n r) : rok m (.imm n r) = true := _root_.id rfl
theorem QI2 (m i) : rok m (.sl i) = Nat.ble (i + 1) m := _root_.id rfl
theorem QJX (m i a b) : rok m (.ptr i a b) = Nat.ble (i + 1) m := _root_.id rfl
theorem QPI (m cs) : rok m (.agg cs) = QnF m cs := _root_.id rfl
theorem QND (m cs) : rok m (.tup cs) = QnF m cs := _root_.id rfl
theorem QVV (m) : QnF m [] = true := _root_.id rfl
theorem QRP (m c cs) : QnF m (c :: cs) = (rok m c && QnF m cs) := _root_.id rfl
theorem QU8 (c n) : clc (.i c n) = true := _root_.id rfl
theorem QSW (x) : clc (.b x) = true := _root_.id rfl
theorem QNq (x) : clc (.s x) = true := _root_.id rfl
theorem QR5 : clc .nil = true := _root_.id rfl
theorem QQ7 (n r) : clc (.imm n r) = true := _root_.id rfl
theorem QKk : QoS [] = true := _root_.id rfl
theorem QN4 (c cs) : QoS (c :: cs) = (clc c && QoS cs) := _root_.id rfl
theorem QUl : Qil [] = true := _root_.id rfl
theorem QRz (n r K) : Qil (some (.lst n r) :: K) = Qil K := _root_.id rfl
theorem QNC (cs K) : Qil (some (.box cs) :: K) = (QoS cs && Qil K) := _root_.id rfl
theorem QEZ (cs) : QmM (.agg cs) = QeR cs := _root_.id rfl
theorem QQz (c n) : QmM (.i c n) = [] := _root_.id rfl
theorem QUh (x) : QmM (.b x) = [] := _root_.id rfl
theorem QLg (x) : QmM (.s x) = [] := _root_.id rfl
theorem QTa : QmM .nil = [] := _root_.id rfl
theorem QSP (n r) : QmM (.imm n r) = [] := _root_.id rfl
theorem QRy (g l) : QmM (.clo g l) = [] := _root_.id rfl
theorem QVp (js) : QcN js [] = some [] := _root_.id rfl
theorem QRi (js c cs) : QcN js (c :: cs) = (QcV js c).bind fun c' => (QcN js cs).map (c' :: ·) := _root_.id rfl
theorem QO3 (js j) : QcV js (.sl j) = (QbM js j).map .sl := _root_.id rfl
theorem QFS (js cs) : QcV js (.agg cs) = (QcN js cs).map .agg := _root_.id rfl
theorem QRo (js c n) : QcV js (.i c n) = some (.i c n) := _root_.id rfl
theorem QTD (js x) : QcV js (.b x) = some (.b x) := _root_.id rfl
theorem QNx (js x) : QcV js (.s x) = some (.s x) := _root_.id rfl
theorem QUV (js) : QcV js .nil = some .nil := _root_.id rfl
theorem QSj (js n r) : QcV js (.imm n r) = some (.imm n r) := _root_.id rfl
theorem QUj (js g) : QcV js (.clo g []) = some (.clo g []) := _root_.id rfl
theorem QkL (x y : Nat) : Nat.beq x y = (x == y) := by rw [Bool.eq_iff_iff]; simp
theorem QUy (x l j) : QbM (x :: l) j = sel (x == j) (some 0) ((QbM l j).map (· + 1)) () := by rw [← QkL]; rfl
theorem QR4 (K) : Jj K [] = [] := _root_.id rfl
theorem QRL (K j js) : Jj K (j :: js) = kg K j :: Jj K js := _root_.id rfl
theorem QUP (K es) : Zb K [] es = K := by cases es <;> rfl
theorem QUW (K j js e es) : Zb K (j :: js) (e :: es) = Zb (K.set j e) js es := _root_.id rfl
theorem QUf : QsK [] = true := _root_.id rfl
theorem QVz (n r K) : QsK (some (.lst n r) :: K) = QsK K := _root_.id rfl
theorem QU6 (c n) : AV.scal (.i c n) = true := _root_.id rfl
theorem QTd (x) : AV.scal (.b x) = true := _root_.id rfl
theorem QUu (x) : AV.scal (.s x) = true := _root_.id rfl
theorem QTc (c n) : AV.flat (.i c n) = true := _root_.id rfl
theorem QTf (x) : AV.flat (.b x) = true := _root_.id rfl
theorem QRa (x) : AV.flat (.s x) = true := _root_.id rfl
theorem QSc : AV.flat (.tup []) = true := _root_.id rfl
theorem QVl : QyR .one = true := _root_.id rfl
theorem w_p (x g j i o) (k : AV → KS → Option β) (l) : onp D f K (.ptr j i o) x g k l = onj D f K x g j i o (kg K j) k () := _root_.id rfl
theorem QS8 (x g j i o q r) (k : AV → KS → Option β) (l) : onj D f K x g j i o (some (.lst q r)) k l = onx D f K x g j i o q r ((QR r i).drop o) k () := _root_.id rfl
theorem w_x (x g j i o q r m rs cs) (k : AV → KS → Option β) (l) : onx D f K x g j i o q r (.own m rs :: cs) k l = Vo x.scal (Jp (D.a g [some (.lst m rs)] [.sl 0, x]) (fun s => onr D f K j i o q r s k ()) ()) () := _root_.id rfl
theorem QTX (u us ops d o t p af r) (k : Fr → KS → Option β) (l) : QhQ P D ops (u :: us) (⟨some d, o, t, p, af, none⟩ :: r) f K k l = oop P D o f K (fun v K' => QkC v (fun v => QhQ P D ops us r (up f d v) K' k ()) ()) () := _root_.id rfl
def QDG (d : Option Tmp) (v : AV) (f : Fr) (k : Fr → Option β) (_ : Lk (f, k)) : Option β := match d with
 | some d => QkC v (fun v => k (up f d v)) ()
 | none => k f
theorem QDC (d v f) (k : Fr → Option β) (l) : QDG (some d) v f k l = QkC v (fun v => k (up f d v)) () := _root_.id rfl
theorem QU0 (ops d t p y1 p1 a1 e x y2 p2 a2 dst g d' e' ts y3 p3 a3 r) (k : Fr → KS → Option β) (l) : QhQ P D ops [] (⟨some d, .load t p, y1, p1, a1, none⟩ :: ⟨some e, .move x, y2, p2, a2, none⟩ :: ⟨dst, .call ⟨.value (.func g), List.toArray [.tmp d', .tmp e'], ts⟩, y3, p3, a3, none⟩ :: r) f K k l =
  Vo (QyR (tk P t) && ((d == d') && ((e == e') && !(d == e)))) (onp D f K (ev f p) (ev (up f d (.sl K.length)) x) g (fun v K' => QDG dst v (up (up f d (.sl K.length)) e (ev (up f d (.sl K.length)) x)) (fun f => Qf2 P D ops r f K' k ()) ()) ()) () := by rw [← QkL, ← QkL, ← QkL]; cases dst <;> rfl
theorem QHQ (a b l) : oop P D (.makeInterface a b) f K k l = none := _root_.id rfl
theorem QJo (a l) : oop P D (.panic a) f K k l = none := _root_.id rfl
theorem QoI (t len ps l) : QcY P D (.buildSlice t len ps) f K k l = oop P D (.buildSlice t len ps) f K k () := _root_.id rfl
def Qsa (o : Option (List Int)) (K : KS) (j : Nat) (k : AV → KS → Option β) (_ : Lk k) : Option β := match o with
 | some xs => Vo (decide (xs.length < 4611686018427387904)) (Xi (K.set j none ++ [some (.lst 1 ((J0 xs).map cI))]) (fun K' => k (.sl K.length) K') ()) ()
 | none => none
def Qxh (e : Option Ent) (K : KS) (j : Nat) (k : AV → KS → Option β) (_ : Lk k) : Option β := match e with
 | some (.lst 1 rows) => Qsa (Qc2 rows) K j k ()
 | _ => none
theorem QSa (K : KS) (j) (k : AV → KS → Option β) (l) : Ql7 K [.sl j] k l = Qxh (kg K j) K j k () := _root_.id rfl
theorem QMV (r) (K : KS) (j) (k : AV → KS → Option β) (l) : Qxh (some (.lst 1 r)) K j k l = Qsa (Qc2 r) K j k () := _root_.id rfl
theorem QEv (xs) (K : KS) (j) (k : AV → KS → Option β) (l) : Qsa (some xs) K j k l = Vo (decide (xs.length < 4611686018427387904)) (Xi (K.set j none ++ [some (.lst 1 ((J0 xs).map cI))]) (fun K' => k (.sl K.length) K') ()) () := _root_.id rfl
def QsA (o : Option (List Int)) (K : KS) (j : Nat) (k : AV → KS → Option β) (_ : Lk k) : Option β := match o with
 | some xs => Vo (decide (xs.length < 4611686018427387904)) (Xi (K.set j (some (.lst 1 ((Qcd xs).map cI)))) (fun K => k (.tup []) K) ()) ()
 | none => none
def Qyw (e : Option Ent) (K : KS) (j : Nat) (k : AV → KS → Option β) (_ : Lk k) : Option β := match e with
 | some (.lst 1 rows) => QsA (Qc2 rows) K j k ()
 | _ => none
theorem QSd (K : KS) (j) (k : AV → KS → Option β) (l) : Qom K [.sl j] k l = Qyw (kg K j) K j k () := _root_.id rfl
theorem QK5 (r) (K : KS) (j) (k : AV → KS → Option β) (l) : Qyw (some (.lst 1 r)) K j k l = QsA (Qc2 r) K j k () := _root_.id rfl
theorem QGB (xs) (K : KS) (j) (k : AV → KS → Option β) (l) : QsA (some xs) K j k l = Vo (decide (xs.length < 4611686018427387904)) (Xi (K.set j (some (.lst 1 ((Qcd xs).map cI)))) (fun K => k (.tup []) K) ()) () := _root_.id rfl
theorem QsY : ∀ xs : List Int, Qc2 (xs.map fun x => [.i .i64 x]) = some xs
 | [] => rfl
 | x :: xs => by rw [List.map_cons, Qc2, QsY xs]; rfl
noncomputable def Qyv (P : Program) (D : Orc) (a : Ann) (id : Nat) (ops : Array Oper) (o : Option (List Nat)) (Q : KT β) (f : Fr) (K : KS) (_ : Lk (ops, Q, f)) : Option β := Qns P D a id ops (QrQ ops o) Q f K ()
theorem QCN (id ol l) : V2 P D a (.region id (List.toArray ol) true) Q f K l = ofz (lk a.fz id) f K (fun f K => Qi2 P D a id (lk a.av id) (List.toArray ol) Q f K ()) () := _root_.id rfl
theorem QL4 (id ol l) : Qi2 P D a id none (List.toArray ol) Q f K l = Qrq P D a id (lk a.eb id) (List.toArray ol) Q f K () := _root_.id rfl
theorem QOT (id vs ol l) : Qi2 P D a id (some vs) (List.toArray ol) Q f K l = QqR vs P D a id (lk a.ot id) (List.toArray ol) Q f K () := _root_.id rfl
theorem QQd (id vs ol l) : QqR vs P D a id none (List.toArray ol) Q f K l = QtO vs P D (List.toArray ol) (lk a.ord id) Q f K () := _root_.id rfl
theorem QI6 (id vs t ops l) : QqR vs P D a id (some t) ops Q f K l = Qcg vs P D ops t f K (fun f K => Q .normal f K) () := _root_.id rfl
theorem QNO (vs ol l) : QtO vs P D (List.toArray ol) none Q f K l = Z6 vs P D (List.toArray ol) ol f K (fun f K => Q .normal f K) () := _root_.id rfl
theorem QH9 (id ops l) : Qrq P D a id none ops Q f K l = QgU P D a id ops (lk a.ot id) Q f K () := _root_.id rfl
noncomputable def QDk (P : Program) (D : Orc) (a : Ann) (id : Nat) (ol : List Oper) (Q : KT β) (f : Fr) (K : KS) (_ : Lk (Q, f)) : Option β := QgU P D a id (List.toArray ol) (lk a.ot id) Q f K ()
theorem QLO (id ds ol l) : Qrq P D a id (some ds) (List.toArray ol) Q f K l = QDk P D a id (ol.map (X5 ds)) Q f K () := by
 show QgU P D a id ((List.toArray ol).map (X5 ds)) (lk a.ot id) Q f K () = QgU P D a id (List.toArray (ol.map (X5 ds))) (lk a.ot id) Q f K ()
 rw [List.map_toArray]
theorem c_M (id o r l) : QDk P D a id (o :: r) Q f K l = QgU P D a id (List.toArray (o :: r)) (lk a.ot id) Q f K () := _root_.id rfl
theorem QM4 (ds d t y p e g) : X5 ds ⟨d, .buildSlice t 0 (List.toArray []), y, p, e, g⟩ = ⟨d, .move (.const (.slice none 0 0)), y, p, e, g⟩ := _root_.id rfl
theorem QNv (ds d t m ps y p e g) : X5 ds ⟨d, .buildSlice t (m + 1) ps, y, p, e, g⟩ = ⟨d, .buildSlice t (m + 1) ps, y, p, e, g⟩ := _root_.id rfl
theorem QGp (ds d s x ts y p e g) : X5 ds ⟨d, .call ⟨.builtin .append, List.toArray [.tmp s, x], ts⟩, y, p, e, g⟩ = cond (ds.contains s) ⟨d, .call ⟨.builtin .append, List.toArray [.const (.slice none 0 0), x], ts⟩, y, p, e, g⟩ ⟨d, .call ⟨.builtin .append, List.toArray [.tmp s, x], ts⟩, y, p, e, g⟩ := _root_.id rfl
theorem QHs (ds d xs ts y p e g) : X5 ds ⟨d, .call ⟨.builtin .len, xs, ts⟩, y, p, e, g⟩ = ⟨d, .call ⟨.builtin .len, xs, ts⟩, y, p, e, g⟩ := _root_.id rfl
theorem QAx (ds d v xs ts y p e g) : X5 ds ⟨d, .call ⟨.value v, xs, ts⟩, y, p, e, g⟩ = ⟨d, .call ⟨.value v, xs, ts⟩, y, p, e, g⟩ := _root_.id rfl
theorem QCi (ds d x y p e g) : X5 ds ⟨d, .move x, y, p, e, g⟩ = ⟨d, .move x, y, p, e, g⟩ := _root_.id rfl
theorem QE6 (ds d x y p e g) : X5 ds ⟨d, .assign x, y, p, e, g⟩ = ⟨d, .assign x, y, p, e, g⟩ := _root_.id rfl
theorem QAW (ds d t x y p e g) : X5 ds ⟨d, .load t x, y, p, e, g⟩ = ⟨d, .load t x, y, p, e, g⟩ := _root_.id rfl
theorem Qy8 (ds d t x z y p e g) : X5 ds ⟨d, .store t x z, y, p, e, g⟩ = ⟨d, .store t x z, y, p, e, g⟩ := _root_.id rfl
theorem QIq (ds d t x i y p e g) : X5 ds ⟨d, .fieldAddr t x i, y, p, e, g⟩ = ⟨d, .fieldAddr t x i, y, p, e, g⟩ := _root_.id rfl
theorem QIL (ds d t x i y p e g) : X5 ds ⟨d, .indexAddr t x i, y, p, e, g⟩ = ⟨d, .indexAddr t x i, y, p, e, g⟩ := _root_.id rfl
theorem Qzh (ds d t ps y p e g) : X5 ds ⟨d, .build t ps, y, p, e, g⟩ = ⟨d, .build t ps, y, p, e, g⟩ := _root_.id rfl
theorem QFg (ds d o t x z u y p e g) : X5 ds ⟨d, .binOp o t x z u, y, p, e, g⟩ = ⟨d, .binOp o t x z u, y, p, e, g⟩ := _root_.id rfl
theorem QFV (ds d x y p e g) : X5 ds ⟨d, .nilCheck x, y, p, e, g⟩ = ⟨d, .nilCheck x, y, p, e, g⟩ := _root_.id rfl
theorem QIy (ds d o t x y p e g) : X5 ds ⟨d, .unOp o t x, y, p, e, g⟩ = ⟨d, .unOp o t x, y, p, e, g⟩ := _root_.id rfl
theorem QGy (ds d t x i y p e g) : X5 ds ⟨d, .field t x i, y, p, e, g⟩ = ⟨d, .field t x i, y, p, e, g⟩ := _root_.id rfl
theorem QE1 (ds d x i y p e g) : X5 ds ⟨d, .extract x i, y, p, e, g⟩ = ⟨d, .extract x i, y, p, e, g⟩ := _root_.id rfl
theorem QEN (ds d t x y p e g) : X5 ds ⟨d, .box t x, y, p, e, g⟩ = ⟨d, .box t x, y, p, e, g⟩ := _root_.id rfl
theorem Qzl (ds d t y p e g) : X5 ds ⟨d, .alloc t, y, p, e, g⟩ = ⟨d, .alloc t, y, p, e, g⟩ := _root_.id rfl
theorem QwI (ds d t x lo hi mx y p e g) : X5 ds ⟨d, .slice t x lo hi mx, y, p, e, g⟩ = ⟨d, .slice t x lo hi mx, y, p, e, g⟩ := _root_.id rfl
theorem QwF (id ol l) : QgU P D a id (List.toArray ol) none Q f K l = Qyv P D a id (List.toArray ol) (lk a.ord id) Q f K () := _root_.id rfl
theorem Qyy (id ops t l) : QgU P D a id ops (some t) Q f K l = QdZ P D ops t f K (fun f K => Q .normal f K) () := _root_.id rfl
noncomputable def Qr2 (P : Program) (D : Orc) (ops : Array Oper) (o : Option Oper) (t : OT) (f : Fr) (K : KS) (k : Fr → KS → Option β) (_ : Lk (ops, f, k)) : Option β := match o with
 | some o => Qdr P D ops [o] f K (fun f K => QdZ P D ops t f K k ()) ()
 | none => none
theorem QwK (ops) (k : Fr → KS → Option β) (l) : QdZ P D ops .done f K k l = k f K := _root_.id rfl
theorem QPV (ol i t) (k : Fr → KS → Option β) (l) : QdZ P D (List.toArray ol) (.one i t) f K k l = Qr2 P D (List.toArray ol) (ol[i]?) t f K k () := by
 have : (List.toArray ol)[i]? = ol[i]? := by simp
 unfold QdZ Qr2
 rw [this]
 cases ol[i]? <;> rfl
theorem QxC (ops o t) (k : Fr → KS → Option β) (l) : Qr2 P D ops (some o) t f K k l = Qdr P D ops [o] f K (fun f K => QdZ P D ops t f K k ()) () := _root_.id rfl
theorem QzL (vs ops) (k : Fr → KS → Option β) (l) : Qcg vs P D ops .done f K k l = k f K := _root_.id rfl
noncomputable def Qo0 (vs : List Nat) (P : Program) (D : Orc) (ops : Array Oper) (o : Option Oper) (t : OT) (f : Fr) (K : KS) (k : Fr → KS → Option β) (_ : Lk (ops, f, k)) : Option β := match o with
 | some o => Z6 vs P D ops [o] f K (fun f K => Qcg vs P D ops t f K k ()) ()
 | none => none
theorem QDz (vs ol i t) (k : Fr → KS → Option β) (l) : Qcg vs P D (List.toArray ol) (.one i t) f K k l = Qo0 vs P D (List.toArray ol) (ol[i]?) t f K k () := by
 have : (List.toArray ol)[i]? = ol[i]? := by simp
 unfold Qcg Qo0
 rw [this]
 cases ol[i]? <;> rfl
theorem QxT (vs ops o t) (k : Fr → KS → Option β) (l) : Qo0 vs P D ops (some o) t f K k l = Z6 vs P D ops [o] f K (fun f K => Qcg vs P D ops t f K k ()) () := _root_.id rfl
theorem QDB (vs ops a b) (k : Fr → KS → Option β) (l) : Qcg vs P D ops (.alt a b) f K k l = oeq (Qcg vs P D ops a f K k ()) (Qcg vs P D ops b f K k ()) := _root_.id rfl
theorem QM8 (ops a b) (k : Fr → KS → Option β) (l) : QdZ P D ops (.alt a b) f K k l = oeq (QdZ P D ops a f K k ()) (QdZ P D ops b f K k ()) := _root_.id rfl
theorem V0 (x : Option β) : oeq x x = x := by simp [oeq]
theorem VL (p q : Bool) (x : Option β) (l l' : Unit) : Vo p (Vo q x l) l' = Vo q (Vo p x l) l' := by cases p <;> cases q <;> rfl
theorem QEJ (id ol l) : Qyv P D a id (List.toArray ol) none Q f K l = Qns P D a id (List.toArray ol) ol Q f K () := _root_.id rfl
def pk : List Oper → List Nat → List Oper
 | _, [] => []
 | ol, i :: is => match ol[i]? with | some o => o :: pk ol is | none => pk ol is
noncomputable def QEe (P : Program) (D : Orc) (a : Ann) (id : Nat) (ops : Array Oper) (l : List Oper) (Q : KT β) (f : Fr) (K : KS) (_ : Lk (ops, Q, f)) : Option β := Qns P D a id ops l Q f K ()
theorem QoM (ol is) : QrQ (List.toArray ol) (some is) = pk ol is := by
 show is.filterMap (fun i => (List.toArray ol)[i]?) = _
 induction is with
 | nil => rfl
 | cons i is ih =>
  rw [pk, List.filterMap_cons]
  have : (List.toArray ol)[i]? = ol[i]? := by simp
  rw [this]
  cases ol[i]? with
  | none => simpa using ih
  | some o => rw [← ih]
theorem QFP (id ol is l) : Qyv P D a id (List.toArray ol) (some is) Q f K l = QEe P D a id (List.toArray ol) (pk ol is) Q f K () := by
 show Qns P D a id _ (QrQ _ _) Q f K () = _
 rw [QoM]; rfl
noncomputable def QDR (vs : List Nat) (P : Program) (D : Orc) (ops : Array Oper) (l : List Oper) (Q : KT β) (f : Fr) (K : KS) (_ : Lk (ops, Q, f)) : Option β := Z6 vs P D ops l f K (fun f K => Q .normal f K) ()
theorem QUU (vs ol is l) : QtO vs P D (List.toArray ol) (some is) Q f K l = QDR vs P D (List.toArray ol) (pk ol is) Q f K () := by
 show Z6 vs P D _ (QrQ _ _) f K _ () = _
 rw [QoM]; rfl
theorem c_K (vs ops o r l) : QDR vs P D ops (o :: r) Q f K l = Z6 vs P D ops (o :: r) f K (fun f K => Q .normal f K) () := _root_.id rfl
theorem QOg (ol) : pk ol [] = [] := _root_.id rfl
def pkO (o : Option Oper) (l : List Oper) : List Oper := match o with | some o => o :: l | none => l
theorem QNH (ol i is) : pk ol (i :: is) = pkO (ol[i]?) (pk ol is) := by rw [pk]; cases ol[i]? <;> rfl
theorem QJR (o l) : pkO (some o) l = o :: l := _root_.id rfl
theorem QGs (id ops o r l) : QEe P D a id ops (o :: r) Q f K l = Qns P D a id ops (o :: r) Q f K () := _root_.id rfl
theorem QNf {α : Type} (x : α) (l : List α) : (x :: l)[0]? = some x := _root_.id rfl
theorem QOJ {α : Type} (x : α) (l : List α) (i : Nat) : (x :: l)[i + 1]? = l[i]? := _root_.id rfl
theorem QIs {α : Type} (l : List α) (i : Nat) : (List.toArray l)[i]? = l[i]? := by simp
theorem QtS {α γ : Type} (x : α) (g : α → Option γ) : (some x).bind g = g x := _root_.id rfl
noncomputable def QzA (P : Program) (D : Orc) (j : Option (Nat × Nat × Nat)) (ops : Array Oper) (l : List Oper) (Q : KT β) (f : Fr) (K : KS) (_ : Lk (l, Q, f)) : Option β :=
 match j with
 | none => Qdr P D ops l f K (fun f K => Q .normal f K) ()
 | some (s, lo, hi) => Qoe (Qdr P D ops l f K (fun f _ => asB (f s)) ()) (fun c => Q .normal (up (Qwd lo hi f) s (.b c)) K) ()
theorem QIV (id ops ol l) : Qns P D a id ops ol Q f K l = QzA P D (lk a.jn id) ops ol Q f K () := _root_.id rfl
theorem Qyx (ops ol l) : QzA P D none ops ol Q f K l = Qdr P D ops ol f K (fun f K => Q .normal f K) () := _root_.id rfl
theorem Qzp (s lo hi ops ol l) : QzA P D (some (s, lo, hi)) ops ol Q f K l = Qoe (Qdr P D ops ol f K (fun f _ => asB (f s)) ()) (fun c => Q .normal (up (Qwd lo hi f) s (.b c)) K) () := _root_.id rfl
theorem QCC (o) (k : Bool → Option β) (l) : Qoe o k l = o.bind k := _root_.id rfl
theorem QNy (b) (k : Bool → Option β) (l) : Qoe (Qld b) k l = k b := _root_.id rfl
theorem QCL (b x y) : cond b (Qld x) (Qld y) = Qld (cond b x y) := by cases b <;> rfl
theorem QVd (b) : Qld b = some b := _root_.id rfl
theorem QON (a b : Bool) : cond a b false = (a && b) := by cases a <;> rfl
theorem QR6 (a b : Bool) : cond a true b = (a || b) := by cases a <;> rfl
theorem QHw (a b : Bool) : cond a false b = (!a && b) := by cases a <;> rfl
theorem QOm (b) : asB (.b b) = Qld b := _root_.id rfl
def QDp (D : Orc) (t : Nat) (z : List Nat) (la : Option LA) (Q : KT β) (f : Fr) (K : KS) (_ : Lk Q) : Option β :=
 match la with
 | some la => QeO z la.sl la.rg f K (fun f K => Jp (D.l t f K) (fun o => Q o.1 o.2.1 o.2.2) ()) ()
 | none => none
theorem QFd (c l) : V2 P D a (.loop c) Q f K l = QDp D (tag c) a.ak (lk a.lp (tag c)) Q f K () := _root_.id rfl
theorem QuF (t z la l) : QDp D t z (some la) Q f K l = QeO z la.sl la.rg f K (fun f K => Jp (D.l t f K) (fun o => Q o.1 o.2.1 o.2.2) ()) () := _root_.id rfl
theorem Qi9 (id o d) : tag (.region id o d) = id := _root_.id rfl
theorem QvN (x y) : tag (.seq x y) = tag x := _root_.id rfl
theorem QsS (c x y) : tag (.cond c x y) = tag x := _root_.id rfl
theorem QqV (i x) : tag (.block i x) = tag x := _root_.id rfl
theorem Qs1 (x) : tag (.loop x) = tag x := _root_.id rfl
theorem Qzd (k : Fr → KS → Option β) (Q f K) : Qqj k Q .normal f K = k f K := _root_.id rfl
theorem Qxx (k : Fr → KS → Option β) (Q f K) : Qqj k Q .ret f K = Q .ret f K := _root_.id rfl
theorem QyI (k : Fr → KS → Option β) (Q id f K) : Qqj k Q (.exit id) f K = Q (.exit id) f K := _root_.id rfl
theorem QCR (i f K) : Qvq i Q .normal f K = Q .normal f K := _root_.id rfl
theorem Qz6 (i f K) : Qvq i Q .ret f K = Q .ret f K := _root_.id rfl
theorem QCM (i j f K) : Qvq i Q (.exit j) f K = sel (j == i) (Q .normal f K) (Q (.exit j) f K) () := _root_.id rfl
theorem QP3 (ops) (k : Fr → KS → Option β) (l) : Qdr P D ops [] f K k l = k f K := _root_.id rfl
theorem QFM (ops r) (k : Fr → KS → Option β) (d op t pos after l) : Qdr P D ops (⟨some d, op, t, pos, after, none⟩ :: r) f K k l = oop P D op f K (fun v K' => QkC v (fun v => Qdr P D ops r (up f d v) K' k ()) ()) () := _root_.id rfl
theorem QAt (ops r) (k : Fr → KS → Option β) (op t pos after l) : Qdr P D ops (⟨none, op, t, pos, after, none⟩ :: r) f K k l = oop P D op f K (fun v K' => Qdr P D ops r f K' k ()) () := _root_.id rfl
theorem c_g (ops r) (k : Fr → KS → Option β) (d op t pos after j want l) : Qdr P D ops (⟨some d, op, t, pos, after, some (j, want)⟩ :: r) f K k l =
  ogd ((ops[j]?).bind (·.dst)) want f (fun f => oop P D op f K (fun v K' => QkC v (fun v => Qdr P D ops r (up f d v) K' k ()) ()) ()) (fun f => QkC (.tup []) (fun v => Qdr P D ops r (up f d v) K k ()) ()) () := _root_.id rfl
theorem QQQ (ops r) (k : Fr → KS → Option β) (op t pos after j want l) : Qdr P D ops (⟨none, op, t, pos, after, some (j, want)⟩ :: r) f K k l =
  ogd ((ops[j]?).bind (·.dst)) want f (fun f => oop P D op f K (fun v K' => Qdr P D ops r f K' k ()) ()) (fun f => Qdr P D ops r f K k ()) () := _root_.id rfl
def QAY (v : AV) (d : Nat) (want : Bool) (f : Fr) (yes no : Fr → Option β) (_ : Lk (f, yes, no)) : Option β :=
 match v with
 | .b x => cond x (cond want (yes (up f d (.b true))) (no (up f d (.b true)))) (cond want (no (up f d (.b false))) (yes (up f d (.b false))))
 | .tup [] => no f
 | _ => none
theorem QUH (d want) (yes no : Fr → Option β) (l) : ogd (some d) want f yes no l = QAY (f d) d want f yes no () := by
 cases want <;> rfl
theorem QD1 (b d) (yes no : Fr → Option β) (l) : QAY (.b b) d true f yes no l = cond b (yes (up f d (.b true))) (no (up f d (.b false))) := _root_.id rfl
theorem QEg (b d) (yes no : Fr → Option β) (l) : QAY (.b b) d false f yes no l = cond b (no (up f d (.b true))) (yes (up f d (.b false))) := _root_.id rfl
theorem QC9 (d w) (yes no : Fr → Option β) (l) : QAY (.tup []) d w f yes no l = no f := _root_.id rfl
theorem QEi (x l) : oop P D (.move x) f K k l = k (ev f x) K := _root_.id rfl
theorem Qyl (x l) : oop P D (.assign x) f K k l = k (ev f x) K := _root_.id rfl
theorem QF8 (c x y l) : oop P D (.pick c x y) f K k l = Qm9 (ev f c) (ev f x) (ev f y) (fun v => k v K) () := _root_.id rfl
theorem QCd (t l) : oop P D (.alloc t) f K k l = QmV K (tzc P t) k () := _root_.id rfl
theorem QId (t v l) : oop P D (.box t v) f K k l = Qr0 K (ev f v) k () := _root_.id rfl
theorem QAA (t ps l) : oop P D (.build t (List.toArray ps)) f K k l = Qks K (tbd P t) (ps.map fun p => (p.1, ev f p.2)) (fun v => k v K) () := _root_.id rfl
theorem QyX (t len ps l) : oop P D (.buildSlice t len (List.toArray ps)) f K k l = Qhn (zB (Qeo P t)) (Qeo P t) K (tse P t) len (ps.map fun p => (p.1, ev f p.2)) k () := _root_.id rfl
theorem QHc (t x l) : oop P D (.load t x) f K k l = Qgc (tk P t) (Jg K (ev f x)) (fun v => k v K) () := _root_.id rfl
theorem Qz3 (t p v l) : oop P D (.store t p v) f K k l = QjS (flT P t) (slz P 9 t) K (tk P t) (ev f p) (ev f v) (fun K => k .u K) () := _root_.id rfl
theorem QMS (op t x y s l) : oop P D (.binOp op t x (.tmp y) s) f K k l = JV (QfK P t) op (ev f x) (ev f (.tmp y)) (fun v => k v K) () := _root_.id rfl
theorem QFx (op t x c n s l) : oop P D (.binOp op t x (.const (.int c n)) s) f K k l = JV (QfK P t) op (ev f x) (ev f (.const (.int c n))) (fun v => k v K) () := _root_.id rfl
theorem QGx (op t x c s l) : oop P D (.binOp op t x (.const (.bool c)) s) f K k l = JV (QfK P t) op (ev f x) (ev f (.const (.bool c))) (fun v => k v K) () := _root_.id rfl
theorem QGu (op t x c s l) : oop P D (.binOp op t x (.const (.string c)) s) f K k l = JV (QfK P t) op (ev f x) (ev f (.const (.string c))) (fun v => k v K) () := _root_.id rfl
theorem QHb (op t x s l) (h : QeV P t = true) : oop P D (.binOp op t x (.const (.slice none 0 0)) s) f K k l = Qkq op (ev f x) (fun v => k v K) () := by simp [oop, Qcj, h]
theorem QOl (g caps l) : oop P D (.makeFunc (.func g) (List.toArray []) (List.toArray caps)) f K k l = k (.clo g (caps.map (ev f))) K := by simp [oop]
theorem QNz (s t x l) (h : bsl P s = true) : oop P D (.convert s t x) f K k l = QrG K (ti P t) (ev f x) (fun v => k v K) () := by simp [oop, h]
theorem QK1 (s t x l) (h : bsl P s = false) (h2 : tok P s = true) : oop P D (.convert s t x) f K k l = QqP (ti P t) (ev f x) (fun v => k v K) () := by simp [oop, h, h2]
theorem QLn (t x lo hi l) : oop P D (.slice t x lo hi none) f K k l = Qhp (ti P t) (ev f x) (lo.map (ev f)) (hi.map (ev f)) (fun v => k v K) () := _root_.id rfl
theorem QJp (t x i l) : oop P D (.index t x i) f K k l = Qzs (ti P t) (ev f x) (ev f i) (fun v => k v K) () := _root_.id rfl
theorem QNU (x l) : oop P D (.nilCheck x) f K k l = QxW K (ev f x) (fun v => k v K) () := _root_.id rfl
theorem QVr (op t x l) : oop P D (.unOp op t x) f K k l = oun op (ev f x) (fun v => k v K) () := _root_.id rfl
theorem QVn (t x fl l) : oop P D (.fieldAddr t x fl) f K k l = QvY K (ev f x) (tfo P t fl) (fun v => k v K) () := _root_.id rfl
theorem QS2 (t x i l) : oop P D (.indexAddr t x i) f K k l = Qql K (ti P t) (ev f x) (ev f i) (fun v => k v K) () := _root_.id rfl
theorem QQf (t x i l) : oop P D (.field t x i) f K k l = Qxi (tfo P t i) (ev f x) (fun v => k v K) () := _root_.id rfl
theorem QNp (x i l) : oop P D (.extract x i) f K k l = Qym (ev f x) i (fun v => k v K) () := _root_.id rfl
theorem QMl (x t ts l) : oop P D (.call ⟨.builtin .len, List.toArray [x], List.toArray (t :: ts)⟩) f K k l = QrT K (ti P t) (ev f x) (fun v => k v K) () := _root_.id rfl
theorem QMB (x y ts l) : oop P D (.call ⟨.builtin .min, List.toArray [x, y], ts⟩) f K k l = Qwv (ev f x) (ev f y) (fun v => k v K) () := _root_.id rfl
theorem QOQ (x y ts l) : oop P D (.call ⟨.builtin .max, List.toArray [x, y], ts⟩) f K k l = Qye (ev f x) (ev f y) (fun v => k v K) () := _root_.id rfl
theorem QGM (g args ts l) : oop P D (.call ⟨.value g, List.toArray args, ts⟩) f K k l = QsL (ev f g) (fun g caps => Qgd D g K (args.map (ev f) ++ caps) k ()) () := _root_.id rfl
theorem QN0 (g caps) (k : FuncId → List AV → Option β) (l) : QsL (.clo g caps) k l = k g caps := _root_.id rfl
theorem QAw (g vs l) : Qgd D g K vs k l = Jp (D.p g (QnJ (D.z g) (Qdn K vs))) (fun x => k (VV K.length x).1 (K ++ (VV K.length x).2)) () := _root_.id rfl
end
def QGG {β : Type} (o : Option Bool) (k : Bool → Option β) (_ : Lk k) : Option β := match o with | some b => k b | none => none
section
variable {β : Type} {k : AV → Option β} {c : IntKind} {a b : Int} {te : Option (List CK)}
theorem QEw (K j i o l) : QxW K (.ptr j i o) k l = QuG (kg K j) (.ptr j i o) k () := _root_.id rfl
theorem QEx (e x l) : QuG (some e) x k l = k x := _root_.id rfl
theorem QGb (K n r i o l) : QxW K (.iptr n r i o) k l = k (.iptr n r i o) := _root_.id rfl
theorem QD8 (l) : JV te .and (.i c a) (.i c b) k l = k (.i c (Qe3 .and c a b)) := by simp [JV, Qgi]
theorem QJY (l) : JV te .or (.i c a) (.i c b) k l = k (.i c (Qe3 .or c a b)) := by simp [JV, Qgi]
theorem QNl (l) : JV te .xor (.i c a) (.i c b) k l = k (.i c (Qe3 .xor c a b)) := by simp [JV, Qgi]
theorem QNZ (d l) : JV te .shl (.i c a) (.i d b) k l = Vo (decide (0 ≤ b)) (k (.i c (shI .shl c a b))) () := by simp [JV, Qgi]
theorem QP5 (d l) : JV te .shr (.i c a) (.i d b) k l = Vo (decide (0 ≤ b)) (k (.i c (shI .shr c a b))) () := by simp [JV, Qgi]
theorem QPb (l) : JV te .add (.i c a) (.i c b) k l = k (.i c (c.wrap (a + b))) := by simp [JV, Qgi]
theorem QOh (l) : JV te .sub (.i c a) (.i c b) k l = k (.i c (c.wrap (a - b))) := by simp [JV, Qgi]
theorem QO9 (l) : JV te .mul (.i c a) (.i c b) k l = k (.i c (c.wrap (a * b))) := by simp [JV, Qgi]
theorem QNI (l) : JV te .quo (.i c a) (.i c b) k l = Vo (!decide (b = 0)) (k (.i c (c.wrap (a.tdiv b)))) () := by simp [JV, Qgi]
theorem QJu (l) : JV te .rem (.i c a) (.i c b) k l = Vo (!decide (b = 0)) (k (.i c (a.tmod b))) () := by simp [JV, Qgi]
theorem QLu (l) : JV te .eql (.i c a) (.i c b) k l = k (.b (decide (a = b))) := by simp [JV, Qgi]
theorem QJM (l) : JV te .neq (.i c a) (.i c b) k l = k (.b (!decide (a = b))) := by simp [JV, Qgi]
theorem QMn (l) : JV te .lss (.i c a) (.i c b) k l = k (.b (decide (a < b))) := by simp [JV, Qgi]
theorem QPU (l) : JV te .leq (.i c a) (.i c b) k l = k (.b (decide (a ≤ b))) := by simp [JV, Qgi]
theorem QPo (l) : JV te .gtr (.i c a) (.i c b) k l = k (.b (decide (b < a))) := by simp [JV, Qgi]
theorem QKQ (l) : JV te .geq (.i c a) (.i c b) k l = k (.b (decide (b ≤ a))) := by simp [JV, Qgi]
theorem QJs (ks xs ys l) : JV (some ks) .eql (.agg xs) (.agg ys) k l = QGG (Q6 ks xs ys) (fun b => k (.b b)) () := _root_.id rfl
theorem QLD (ks xs ys l) : JV (some ks) .neq (.agg xs) (.agg ys) k l = QGG (Q6 ks xs ys) (fun b => k (.b (!b))) () := _root_.id rfl
theorem QNw (x y l) : JV (some [.t]) .eql (.b x) (.b y) k l = k (.b (decide (x = y))) := _root_.id rfl
theorem QHO (x y l) : JV (some [.t]) .neq (.b x) (.b y) k l = k (.b (!decide (x = y))) := _root_.id rfl
theorem QLT (b) (k : Bool → Option β) (l) : QGG (some b) k l = k b := _root_.id rfl
theorem QED (x y l) : JV te .add (.s x) (.s y) k l = Vo (QMr x y) (k (.s (QOi x y))) () := by simp [JV, QMr, QOi]
theorem QFY (x y l) : JV te .eql (.s x) (.s y) k l = k (.b (decide (x = y))) := by simp [JV]
theorem QHF (x y l) : JV te .neq (.s x) (.s y) k l = k (.b (!decide (x = y))) := by simp [JV]
def QDP (o : Option AV) (k : AV → Option β) (_ : Lk k) : Option β := match o with | some c => k c | none => none
theorem QPN (cs i l) : Qym (.tup cs) i k l = QDP (cs[i]?) k () := _root_.id rfl
theorem QFG (c l) : QDP (some c) k l = k c := _root_.id rfl
theorem QOB : Q6 [] [] [] = some true := _root_.id rfl
theorem QK4 (ks c x y xs ys) : Q6 (.i :: ks) (.i c x :: xs) (.i c y :: ys) = (Q6 ks xs ys).map (decide (x = y) && ·) := by simp [Q6]
theorem QPt (ks x y xs ys) : Q6 (.b :: ks) (.b x :: xs) (.b y :: ys) = (Q6 ks xs ys).map (decide (x = y) && ·) := _root_.id rfl
theorem QOE (ks x y xs ys) : Q6 (.s :: ks) (.s x :: xs) (.s y :: ys) = (Q6 ks xs ys).map (decide (x = y) && ·) := _root_.id rfl
theorem QPY (x l) : oun .not (.b x) k l = k (.b (!x)) := _root_.id rfl
theorem QPx (l) : oun .neg (.i c a) k l = k (.i c (c.wrap (-a))) := _root_.id rfl
theorem QBF (x y : AV) (l) : Qm9 (.b true) x y k l = k x := _root_.id rfl
theorem QAX (x y : AV) (l) : Qm9 (.b false) x y k l = k y := _root_.id rfl
theorem QC1 (x y : Bool) (c : Bool) (l) : Qm9 (.b c) (.b x) (.b y) k l = k (.b (cond c x y)) := by cases c <;> rfl
theorem QMq (l) : Qwv (.i c a) (.i c b) k l = k (.i c (if b < a then b else a)) := _root_.id rfl
theorem QMJ (l) : Qye (.i c a) (.i c b) k l = k (.i c (if a < b then b else a)) := _root_.id rfl
theorem QOF (e : Option Ent) (K : KS) : kg (e :: K) 0 = e := _root_.id rfl
theorem QOK (e : Option Ent) (K : KS) (j : Nat) : kg (e :: K) (j + 1) = kg K j := _root_.id rfl
theorem QGY {α : Type} (e e' : α) (K : List α) : (e :: K).set 0 e' = e' :: K := _root_.id rfl
theorem QEu {α : Type} (e e' : α) (K : List α) (j : Nat) : (e :: K).set (j + 1) e' = e :: K.set j e' := _root_.id rfl
theorem QKF {α : Type} (e : α) (K L : List α) : (e :: K) ++ L = e :: (K ++ L) := _root_.id rfl
theorem QEp {α : Type} (L : List α) : [] ++ L = L := _root_.id rfl
theorem QET {α : Type} : ([] : List α).length = 0 := _root_.id rfl
theorem QHq {α : Type} (e : α) (K : List α) : (e :: K).length = K.length + 1 := _root_.id rfl
theorem QB1 {α : Type} (K : List α) : K.drop 0 = K := _root_.id rfl
theorem QAp {α : Type} (e : α) (K : List α) (n : Nat) : (e :: K).drop (n + 1) = K.drop n := _root_.id rfl
theorem QCb {α : Type} (K : List α) : K.take 0 = [] := by simp
theorem QBc {α : Type} (e : α) (K : List α) (n : Nat) : (e :: K).take (n + 1) = e :: K.take n := _root_.id rfl
def lnR (r : List (List AV)) : Int := r.length
theorem QyT (K e m n r l) : QrT K (.sl e m) (.imm n r) k l = k (.i .i64 (lnR r)) := _root_.id rfl
theorem QIx (n r) (k : AV → Option β) (l) : Qkq .eql (.imm n r) k l = Qlp r.isEmpty (k (.b true)) (k (.b false)) := _root_.id rfl
theorem QFc (n r) (k : AV → Option β) (l) : Qkq .neq (.imm n r) k l = Qlp r.isEmpty (k (.b false)) (k (.b true)) := _root_.id rfl
theorem QFu (x : Option β) (b) : Qlp b x x = x := by cases b <;> simp [Qlp, oeq]
theorem QGm (n : Nat) (R : List (List AV)) (b : Nat) (m) : Qlp R.isEmpty (some (AV.own n [])) (Vo (decide (R.length * b ≤ 140737488355328)) (some (AV.own n R)) m) = Vo (decide (R.length * b ≤ 140737488355328)) (some (AV.own n R)) () := by
 cases R with
 | nil => simp [Qlp, oeq, Vo]
 | cons r R => rfl
theorem QxS (K e m l) : QrT K (.sl e m) .nil k l = k (.i .i64 0) := _root_.id rfl
def QDT (e : Option Ent) (k : AV → Option β) (_ : Lk k) : Option β := match e with | some e => k (.i .i64 (lnR e.rows)) | none => none
theorem QFZ (c d a l) : QqP (.int c) (.i d a) k l = k (.i c (c.wrap a)) := _root_.id rfl
def Qs7 (o : Option (List UInt8)) (k : AV → Option β) (_ : Lk k) : Option β := match o with | some s => k (.s s) | none => none
def Qy7 (e : Option Ent) (k : AV → Option β) (_ : Lk k) : Option β := match e with | some (.lst 1 rows) => Qs7 (Qcv rows) k () | _ => none
theorem QP2 (K j l) : QrG K .str (.sl j) k l = Qy7 (kg K j) k () := _root_.id rfl
theorem QG2 (r l) : Qy7 (some (.lst 1 r)) k l = Qs7 (Qcv r) k () := _root_.id rfl
theorem QHj (s l) : Qs7 (some s) k l = k (.s s) := _root_.id rfl
theorem QHI : Qcv [] = some [] := _root_.id rfl
theorem QA3 (n r) : Qcv ([.i .u8 n] :: r) = (Qcv r).map (UInt8.ofNat n.toNat :: ·) := by
 show (match Qo2 [.i .u8 n], Qcv r with | some x, some xs => some (x :: xs) | _, _ => none) = _
 simp only [Qo2]
 cases Qcv r <;> rfl
theorem QBn (K e m j l) : QrT K (.sl e m) (.sl j) k l = QDT (kg K j) k () := _root_.id rfl
theorem Qxt (n r l) : QDT (some (.lst n r)) k l = k (.i .i64 (lnR r)) := _root_.id rfl
theorem Qx8 (K x l) : QrT K .str (.s x) k l = k (.i .i64 (ln x)) := _root_.id rfl
theorem QF6 (K n r i p o t l) : QvY K (.iptr n r i p) (some (o, t)) k l = k (.iptr n r i (p + o)) := _root_.id rfl
def QD9 (e : Option Ent) (v : AV) (k : AV → Option β) (_ : Lk k) : Option β := match e with | some _ => k v | none => none
theorem QN8 (K j i p o t l) : QvY K (.ptr j i p) (some (o, t)) k l = QD9 (kg K j) (.ptr j i (p + o)) k () := _root_.id rfl
theorem QFE (e v l) : QD9 (some e) v k l = k v := _root_.id rfl
theorem QG6 (K e m r kd i l) : Qql K (.sl e m) (.imm m r) (.i kd i) k l = Vo (inb r i) (k (.iptr m r i.toNat 0)) () := by simp [Qql]
def Qy9 (e : Option Ent) (m : Nat) (j : Nat) (i : Int) (k : AV → Option β) (_ : Lk k) : Option β := match e with | some e => if m = e.n then Vo (inb e.rows i) (k (.ptr j i.toNat 0)) () else none | none => none
theorem QQc (K e m j kd i l) : Qql K (.sl e m) (.sl j) (.i kd i) k l = Qy9 (kg K j) m j i k () := _root_.id rfl
theorem QFI (m r j i l) : Qy9 (some (.lst m r)) m j i k l = Vo (inb r i) (k (.ptr j i.toNat 0)) () := by simp [Qy9, Ent.n, Ent.rows]
def QD4 (e : Option Ent) (n : Nat) (i : Int) (p : AV) (k : AV → Option β) (_ : Lk k) : Option β := match e with | some _ => Vo (Qsk n i) (k p) () | none => none
theorem QGc (K e n m j r o kd i l) : Qql K (.arr n e m) (.ptr j r o) (.i kd i) k l = QD4 (kg K j) n i (.ptr j r (o + i.toNat * m)) k () := _root_.id rfl
theorem QHo (e n i p l) : QD4 (some e) n i p k l = Vo (Qsk n i) (k p) () := _root_.id rfl
theorem QFO (e m r h c l) : Qhp (.sl e m) (.imm m r) none (some (.i c h)) k l = Vo (slB 0 h (lnR r)) (k (.imm m (cut r 0 h))) () := by simp [Qhp, bd, lnR]
theorem QGv (e m r h c l) : Qhp (.sl e m) (.imm m r) (some (.i c h)) none k l = Vo (slB h (lnR r) (lnR r)) (k (.imm m (cut r h (lnR r)))) () := by simp [Qhp, bd, lnR]
theorem QEA (e m r h h' c c' l) : Qhp (.sl e m) (.imm m r) (some (.i c h)) (some (.i c' h')) k l = Vo (slB h h' (lnR r)) (k (.imm m (cut r h h'))) () := by simp [Qhp, bd, lnR]
theorem QGl (r h c l) : Qhp .str (.s r) none (some (.i c h)) k l = Vo (slB 0 h (ln r)) (k (.s (cut r 0 h))) () := by simp [Qhp, bd, ln]
theorem QGg (r h c l) : Qhp .str (.s r) (some (.i c h)) none k l = Vo (slB h (ln r) (ln r)) (k (.s (cut r h (ln r)))) () := by simp [Qhp, bd, ln]
theorem QHh (r h h' c c' l) : Qhp .str (.s r) (some (.i c h)) (some (.i c' h')) k l = Vo (slB h h' (ln r)) (k (.s (cut r h h'))) () := by simp [Qhp, bd, ln]
theorem QKH (r i c l) : Qzs .str (.s r) (.i c i) k l = Vo (inb r i) (k (.i .u8 ((gt r i).toNat : Int))) () := _root_.id rfl
class Strs (cs : List AV) (xs : outParam (List (List UInt8))) : Prop where
 eq : cs = xs.map AV.s
instance : Strs [] [] := ⟨rfl⟩
instance (x cs xs) [h : Strs cs xs] : Strs (.s x :: cs) (x :: xs) := ⟨by rw [h.eq]; rfl⟩
theorem QEG {cs : List AV} {xs : List (List UInt8)} [h : Strs cs xs] (i : Int) (hi : Qsk cs.length i = true) (l) : Qgc .one (cs.drop (0 + i.toNat * 1)) k l = k (.s (gt xs i)) := by
 have hcs := h.eq
 subst hcs
 simp [Qsk] at hi
 have h2 : i.toNat < xs.length := by omega
 rw [Nat.zero_add, Nat.mul_one, List.drop_eq_getElem_cons (by simpa using h2)]
 simp [Qgc, gt, List.getD_eq_getElem?_getD, h2]
theorem QVx (K n r i o) : Jg K (.iptr n r i o) = ((QR r i).drop o).map ld := _root_.id rfl
def QsP (e : Option Ent) (i o : Nat) : List AV := match e with | some (.box cs) => if i = 0 then cs.drop o else [] | some (.lst _ rows) => ((QR rows i).drop o).map ld | none => []
theorem m_c (K j i o) : Jg K (.ptr j i o) = QsP (kg K j) i o := _root_.id rfl
theorem QFm (cs o) : QsP (some (.box cs)) 0 o = cs.drop o := _root_.id rfl
theorem QEL (n r i o) : QsP (some (.lst n r)) i o = ((QR r i).drop o).map ld := _root_.id rfl
theorem QFL {α γ : Type} (g : α → γ) : [].map g = [] := _root_.id rfl
theorem QHm {α γ : Type} (g : α → γ) (x l) : (x :: l).map g = g x :: l.map g := _root_.id rfl
theorem QNJ (x) : ld (.b x) = .b x := _root_.id rfl
theorem QOe (c x) : ld (.i c x) = .i c x := _root_.id rfl
theorem QPW (x) : ld (.s x) = .s x := _root_.id rfl
theorem QAr (n x) : ld (.imm n x) = .imm n x := _root_.id rfl
theorem QBC : ld .nil = .nil := _root_.id rfl
theorem QCt (n x) : ld (.own n x) = .u := _root_.id rfl
theorem QKN (o t cs l) : Qxi (some (o, t)) (.agg cs) k l = Qgc t (cs.drop o) k () := _root_.id rfl
theorem QAz (c cs l) : Qgc .one (c :: cs) k l = k c := _root_.id rfl
def Qw3 (b : Bool) (v : AV) (k : AV → Option β) (_ : Lk k) : Option β := cond b (k v) none
theorem QA6 (m cs l) : Qgc (.agg m) cs k l = Qw3 (Nat.blt 0 m && Nat.ble m cs.length) (.agg (cs.take m)) k () :=
 Qc9 (by simp only [Bool.and_eq_true, QlP, QiM]) _ _
theorem QCp (v l) : Qw3 true v k l = k v := _root_.id rfl
theorem QCr (K cs) (k : AV → KS → Option β) (l) : QmV K (some cs) k l = Xi (K ++ [some (.box cs)]) (fun K' => k (.ptr K.length 0 0) K') () := _root_.id rfl
def okB (b : Bool) (x : Option β) (_ : Lk x) : Option β := cond b x none
theorem QUc (x : Option β) (l) : okB true x l = x := _root_.id rfl
theorem QHn (K cs) (k : AV → KS → Option β) (l) : Qr0 K (.agg cs) k l = okB (cs.all (Z0 K)) (Xi (K ++ [some (.box cs)]) (fun K' => k (.ptr K.length 0 0) K') ()) () := by
 simp only [Qr0, okB]; cases cs.all (Z0 K) <;> rfl
theorem QFh (K c x) (k : AV → KS → Option β) (l) : Qr0 K (.i c x) k l = Xi (K ++ [some (.box [.i c x])]) (fun K' => k (.ptr K.length 0 0) K') () := _root_.id rfl
theorem QHl {α : Type} (p : α → Bool) : [].all p = true := _root_.id rfl
theorem QFX {α : Type} (p : α → Bool) (x l) : (x :: l).all p = (p x && l.all p) := _root_.id rfl
theorem QJq (K x) : Z0 K (.b x) = true := _root_.id rfl
theorem QMf (K c x) : Z0 K (.i c x) = true := _root_.id rfl
theorem QLk (K x) : Z0 K (.s x) = true := _root_.id rfl
theorem QQb (K) : Z0 K .nil = true := _root_.id rfl
theorem QCv (K n r) : Z0 K (.imm n r) = true := _root_.id rfl
theorem QAR (K n r) : Z0 K (.clo n r) = true := _root_.id rfl
theorem QGk (K j) : Z0 K (.sl j) = (kg K j).isSome := _root_.id rfl
theorem QAv (K j i o) : Z0 K (.ptr j i o) = (kg K j).isSome := _root_.id rfl
theorem QRE {α : Type} (x : α) : (some x).isSome = true := _root_.id rfl
theorem QNu (x) : AV.closed (.b x) = true := _root_.id rfl
theorem QIH (c x) : AV.closed (.i c x) = true := _root_.id rfl
theorem QIo (x) : AV.closed (.s x) = true := _root_.id rfl
theorem QOG : AV.closed .nil = true := _root_.id rfl
theorem QCS (n r) : AV.closed (.imm n r) = true := _root_.id rfl
theorem QHK (x : Bool) : (false && x) = false := _root_.id rfl
theorem QNb (x : Bool) : (true && x) = x := _root_.id rfl
def Qg6 (fl : Bool) (ns : List Nat) (K : KS) (e : Option Ent) (t : TK) (j i o : Nat) (v : AV) (k : KS → Option β) (_ : Lk k) : Option β :=
 match e with
  | some (.box cs) => if i = 0 then QhE cs o t v (Z0 K) (fun cs => Xi (K.set j (some (.box cs))) k ()) () else none
  | some (.lst n rows) => if (Qal v).all clq = true then (if i < rows.length then QhE (QR rows i) o t v AV.closed (fun r => Xi (K.set j (some (.lst n (rows.set i r)))) k ()) () else none) else if fl = false then QjN ns K t j i o n rows v k () else none
  | none => none
theorem QAK (fl ns K t j i o v) (k : KS → Option β) (l) : QjS fl ns K t (.ptr j i o) v k l = Qg6 fl ns K (kg K j) t j i o v k () := by
 show (match kg K j with | some (.lst n rows) => _ | _ => _) = _
 cases h : kg K j with
 | none => simp [Qg6, Qkc, h]
 | some e => cases e <;> simp [Qg6, Qkc, h]
theorem Qw1 (fl ns K cs t j o v) (k : KS → Option β) (l) : Qg6 fl ns K (some (.box cs)) t j 0 o v k l = QhE cs o t v (Z0 K) (fun cs => Xi (K.set j (some (.box cs))) k ()) () := _root_.id rfl
def Ql0 (b fl : Bool) (ns : List Nat) (K : KS) (n : Nat) (r : List (List AV)) (t : TK) (j i o : Nat) (v : AV) (k : KS → Option β) (_ : Lk k) : Option β :=
 cond b (if i < r.length then QhE (QR r i) o t v AV.closed (fun r' => Xi (K.set j (some (.lst n (r.set i r')))) k ()) () else none) (if fl = false then QjN ns K t j i o n r v k () else none)
theorem QzK (fl ns K n r t j i o v) (k : KS → Option β) (l) : Qg6 fl ns K (some (.lst n r)) t j i o v k l = Ql0 ((Qal v).all clq) fl ns K n r t j i o v k () := by
 simp only [Qg6, Ql0]
 cases (Qal v).all clq <;> rfl
theorem QJw (ds) : Qal (.agg ds) = ds := _root_.id rfl
theorem QQl (c x) : Qal (.i c x) = [.i c x] := _root_.id rfl
theorem QH1 (x) : Qal (.b x) = [.b x] := _root_.id rfl
theorem QK3 (x) : Qal (.s x) = [.s x] := _root_.id rfl
theorem QPK : Qal .nil = [.nil] := _root_.id rfl
theorem QJD (n r) : Qal (.imm n r) = [.imm n r] := _root_.id rfl
theorem QN5 (j) : Qal (.sl j) = [.sl j] := _root_.id rfl
theorem QGr (j) : clq (.sl j) = false := _root_.id rfl
theorem QKJ (x) : clq (.b x) = true := _root_.id rfl
theorem QQk (c x) : clq (.i c x) = true := _root_.id rfl
theorem QNc (x) : clq (.s x) = true := _root_.id rfl
theorem QIR : clq .nil = false := _root_.id rfl
theorem QPa (n r) : clq (.imm n r) = true := _root_.id rfl
theorem QVf (cs) : nz [] cs = cs := by cases cs <;> rfl
theorem QQV (ns) : nz ns [] = [] := by cases ns <;> rfl
theorem QS4 (n ns c cs) : nz (n :: ns) (c :: cs) = nzc n c :: nz ns cs := _root_.id rfl
theorem QVj (n x) : nzc n (.b x) = .b x := _root_.id rfl
theorem QRG (n c x) : nzc n (.i c x) = .i c x := _root_.id rfl
theorem QVL (n x) : nzc n (.s x) = .s x := _root_.id rfl
theorem QUY (n) : nzc n .nil = .own n [] := _root_.id rfl
theorem QTO (n m r) : nzc n (.own m r) = .own m r := _root_.id rfl
theorem QUm (n m r) : nzc n (.imm m r) = .imm m r := _root_.id rfl
theorem QTp (k v) : QoW (.z k) v = nzc k v := _root_.id rfl
theorem QV0 (v) : QoW .n v = v := _root_.id rfl
theorem QTY (ns cs) : QoW (.a ns) (.agg cs) = .agg (nz ns cs) := _root_.id rfl
theorem QRY (v) : QnW [] v = v := _root_.id rfl
theorem QTt (s v) : QnW [s] v = QoW s v := _root_.id rfl
theorem QV2 (s s' ss vs) : QnW (s :: s' :: ss) (.tup vs) = .tup (QqJ (s :: s' :: ss) vs) := _root_.id rfl
theorem QSx (s ss v vs) : QqJ (s :: ss) (v :: vs) = QoW s v :: QqJ ss vs := _root_.id rfl
theorem QKb (vs) : QqJ [] vs = vs := _root_.id rfl
theorem QNg (m ds l) : Qo9 (.agg m) (.agg ds) l = (m == l) := _root_.id rfl
theorem QKp (j l) : Qo9 .one (.sl j) l = (l == 1) := _root_.id rfl
def Qt9 (ns : List Nat) (K : KS) (a : Option (KS × List AV)) (t : TK) (j o n i : Nat) (r : List (List AV)) (v : AV) (k : KS → Option β) (_ : Lk k) : Option β :=
 match a with
  | some (K1, ds) => if (kg K1 j).isSome = true ∧ Qo9 t v ds.length = true ∧ o + ds.length ≤ (QR r i).length then Xi (K1.set j (some (.lst n (r.set i (putCells (QR r i) o (nz ns ds)))))) k () else none
  | none => none
theorem QSI (ns K K1 ds t j o n i r v) (k : KS → Option β) (l) : Qt9 ns K (some (K1, ds)) t j o n i r v k l = okB ((kg K1 j).isSome && (Qo9 t v ds.length && Nat.ble (o + ds.length) (QR r i).length)) (Xi (K1.set j (some (.lst n (r.set i (putCells (QR r i) o (nz ns ds)))))) k ()) () :=
 Qc9 (by simp only [Bool.and_eq_true, QiM]) _ _
def QnZ (r : List (List AV)) (i : Nat) : Bool := Nat.blt i r.length
theorem w_n (D : Orc) (f : Fr) (K : KS) (j i o q r v m rs) (k : AV → KS → Option β) (l) : onr D f K j i o q r (v, [some (.lst m rs)]) k l = Vo (v.flat && QnZ r i) (Xi (K.set j (some (.lst q (r.set i (putCells (QR r i) o [.own m rs])))) ++ [none]) (fun K' => k v K') ()) () := _root_.id rfl
theorem QFH (x r) : QnZ (x :: r) 0 = true := by simp [QnZ, Nat.blt_eq]
theorem QGH (x r i) : QnZ (x :: r) (i + 1) = QnZ r i := by
 unfold QnZ; rw [Bool.eq_iff_iff, Nat.blt_eq, Nat.blt_eq]; simp
theorem QE2 (fl ns K n r t j i o v) (k : KS → Option β) (l) : Ql0 true fl ns K n r t j i o v k l = okB (QnZ r i) (QhE (QR r i) o t v AV.closed (fun r' => Xi (K.set j (some (.lst n (r.set i r')))) k ()) ()) () :=
 Qc9 QlP _ _
theorem QHE (ns K n r t j i o v) (k : KS → Option β) (l) : Ql0 false false ns K n r t j i o v k l = okB (QnZ r i) (Qt9 ns K (VF K (Qal v)) t j o n i r v k ()) () :=
 Qc9 QlP _ _
theorem QEF (cs o m ds ok) (k : List AV → Option β) (l) : QhE cs o (.agg m) (.agg ds) ok k l = okB ((m == ds.length) && (Nat.ble (o + m) cs.length && ds.all ok)) (k (putCells cs o ds)) () :=
 Qc9 (by simp only [Bool.and_eq_true, beq_iff_eq, QiM]) _ _
theorem QvB (cs : List AV) (o : Nat) (v : AV) (ok : AV → Bool) (k : List AV → Option β) : (if o < cs.length ∧ ok v = true then k (cs.set o v) else none) = okB (Nat.blt o cs.length && ok v) (k (cs.set o v)) () :=
 Qc9 (by simp only [Bool.and_eq_true, QlP]) _ _
theorem QHt (cs o x ok) (k : List AV → Option β) (l) : QhE cs o .one (.b x) ok k l = okB (Nat.blt o cs.length && ok (.b x)) (k (cs.set o (.b x))) () := QvB ..
theorem QEl (cs o c x ok) (k : List AV → Option β) (l) : QhE cs o .one (.i c x) ok k l = okB (Nat.blt o cs.length && ok (.i c x)) (k (cs.set o (.i c x))) () := QvB ..
theorem QFK (cs o x ok) (k : List AV → Option β) (l) : QhE cs o .one (.s x) ok k l = okB (Nat.blt o cs.length && ok (.s x)) (k (cs.set o (.s x))) () := QvB ..
theorem QG1 (cs o ok) (k : List AV → Option β) (l) : QhE cs o .one .nil ok k l = okB (Nat.blt o cs.length && ok .nil) (k (cs.set o .nil)) () := QvB ..
theorem QAa (cs o j ok) (k : List AV → Option β) (l) : QhE cs o .one (.sl j) ok k l = okB (Nat.blt o cs.length && ok (.sl j)) (k (cs.set o (.sl j))) () := QvB ..
theorem Qw7 (cs o n r ok) (k : List AV → Option β) (l) : QhE cs o .one (.imm n r) ok k l = okB (Nat.blt o cs.length && ok (.imm n r)) (k (cs.set o (.imm n r))) () := QvB ..
theorem QVO (cs o ds) : putCells cs o ds = cs.take o ++ ds ++ cs.drop (o + ds.length) := _root_.id rfl
theorem QEs (P z nr S rs f K) : Qk7 P z nr S rs .normal f K = Ql4 P z S rs nr f K () := _root_.id rfl
theorem QHH (P z nr S rs f K) : Qk7 P z nr S rs .ret f K = Ql4 P z S rs nr f K () := _root_.id rfl
theorem QPh (P z S rs f K l) : Ql4 P z S rs none f K l = Jp (QcP f K P rs) (fun vs => Vo (rok (tkl z K).length (QfL vs) && (Qil (tkl z K) && Nat.ble z.length (tkl z K).length)) (some (QfL vs, tkl z K)) ()) () := _root_.id rfl
theorem QNY (P z S rs r f K l) : Ql4 P z S rs (some r) f K l = Jp (QcP f K P rs) (fun vs => QeO z [S] r (up f S (QfL vs)) K (fun f K => QkC (f S) (fun v => Vo (rok K.length v && (Qil K && Nat.ble z.length K.length)) (some (v, K)) ()) ()) ()) () := _root_.id rfl
theorem QOH {α : Type} : (none : Option α).isSome = false := _root_.id rfl
theorem QI9 {α : Type} (x : α) : (some x).isSome = true := _root_.id rfl
theorem QKl (K) : tkl [] K = [] := by cases K <;> rfl
theorem QOd (x z e K) : tkl (x :: z) (e :: K) = e :: tkl z K := _root_.id rfl
theorem QBg (P sh rs f K) : Qib P sh rs .normal f K = Jp (QcP f K P rs) (fun vs => (Qck K (QfL vs)).map fun p => QnW sh p.2) () := _root_.id rfl
theorem QBV (P sh rs f K) : Qib P sh rs .ret f K = Jp (QcP f K P rs) (fun vs => (Qck K (QfL vs)).map fun p => QnW sh p.2) () := _root_.id rfl
theorem QPC (f K P) : QcP f K P [] = some [] := _root_.id rfl
theorem QKe (f K P t rs) : QcP f K P (.tmp t :: rs) = (QcP f K P rs).map (f t :: ·) := _root_.id rfl
theorem QFs (f K P x t rs) : QcP f K P (.cell x t :: rs) = Jp (Qgc (tk P t) (Jg K (f x)) some ()) (fun v => (QcP f K P rs).map (v :: ·)) () := _root_.id rfl
theorem Qme {α γ : Type} (g : α → γ) (x : α) : (some x).map g = some (g x) := _root_.id rfl
theorem QsX {α γ : Type} (g : α → γ) : (none : Option α).map g = none := _root_.id rfl
theorem QJP (v) : QfL [v] = v := _root_.id rfl
theorem QNr (v w vs) : QfL (v :: w :: vs) = .tup (v :: w :: vs) := _root_.id rfl
theorem QGe : QfL [] = .tup [] := _root_.id rfl
theorem x_b (K x) : Qck K (.b x) = some (K, .b x) := _root_.id rfl
theorem x_i (K c x) : Qck K (.i c x) = some (K, .i c x) := _root_.id rfl
theorem x_s (K x) : Qck K (.s x) = some (K, .s x) := _root_.id rfl
theorem QIO (K) : Qck K .nil = some (K, .nil) := _root_.id rfl
theorem QPD (K n r) : Qck K (.imm n r) = none := by simp [Qck]
theorem QPZ (K cs) : Qck K (.agg cs) = (QeJ K cs).map fun p => (p.1, .agg p.2) := by simp [Qck]
theorem QPd (K cs) : Qck K (.tup cs) = (QeJ K cs).map fun p => (p.1, .tup p.2) := by simp [Qck]
def QDe (K : KS) (e : Option Ent) (j : Nat) : Option (KS × AV) := match e with | some (.lst n rows) => if Qt rows = true then some (K.set j none, .own n rows) else none | _ => none
theorem QQD (K j) : Qck K (.sl j) = QDe K (kg K j) j := by rw [Qck]; rfl
theorem QI0 (K n r j) : QDe K (some (.lst n r)) j = cond (Qt r) (some (K.set j none, .own n r)) none := Qc9 Iff.rfl _ _
theorem QE9 (K) : QeJ K [] = some (K, []) := by simp [QeJ]
def QsB (e : Option (KS × AV)) (cs : List AV) : Option (KS × List AV) := match e with | some (K1, c') => (QeJ K1 cs).map fun p => (p.1, c' :: p.2) | none => none
theorem QzY (K c cs) : QeJ K (c :: cs) = QsB (Qck K c) cs := by rw [QeJ]; rfl
theorem QQF (K c cs) : QsB (some (K, c)) cs = (QeJ K cs).map fun p => (p.1, c :: p.2) := _root_.id rfl
theorem QT5 (cs) : QsB none cs = none := _root_.id rfl
theorem QEy (z sl rg f K) (k : Fr → KS → Option β) (l) : QeO z sl rg f K k l = VT rg f K [] (fun f K π => Vo (ndB π) (onz z π (Xi (QC2 K π) (fun K' => k (QBj f π sl) K') ()) ()) ()) () := _root_.id rfl
theorem QJ7 (π) (q : Option β) (l) : onz [] π q l = q := _root_.id rfl
theorem QMC (x z π) (q : Option β) (l) : onz (x :: z) π q l = Vo (pfx (x :: z) π) q () := _root_.id rfl
theorem QSs (π) : pfx [] π = true := _root_.id rfl
theorem QVi (x z y π) : pfx (x :: z) (y :: π) = ((x == y) && pfx z π) := by rw [← QkL]; rfl
theorem QUp (x : Nat) : ([] : List Nat).contains x = false := _root_.id rfl
theorem QSV (x y : Nat) (l : List Nat) : (y :: l).contains x = ((x == y) || l.contains x) := List.contains_cons
theorem QQI (b : Bool) : (false || b) = b := by cases b <;> rfl
theorem QSq (b : Bool) : (true || b) = true := by cases b <;> rfl
theorem QDQ (f K π) (k : Fr → KS → List Nat → Option β) (l) : VT [] f K π k l = k f K π := _root_.id rfl
theorem n_r (i r f K π) (k : Fr → KS → List Nat → Option β) (l) : VT (.r i :: r) f K π k l = VT r f K (π ++ [i]) k () := _root_.id rfl
def Qny (v : AV) (t n : Nat) (r : List Pt) (f : Fr) (K : KS) (π : List Nat) (k : Fr → KS → List Nat → Option β) (_ : Lk (f, k)) : Option β := match v with
  | .sl j => VT r f K (π ++ [j]) k ()
  | .ptr j _ _ => VT r f K (π ++ [j]) k ()
  | .nil => VT r (up f t (.sl K.length)) (K ++ [some (.lst n [])]) (π ++ [K.length]) k ()
  | _ => none
theorem n_s (t n r f K π) (k : Fr → KS → List Nat → Option β) (l) : VT (.s t n :: r) f K π k l = Qny (f t) t n r f K π k () := by simp only [VT, Qny]; rfl
theorem QNG (j t n r f K π) (k : Fr → KS → List Nat → Option β) (l) : Qny (.sl j) t n r f K π k l = VT r f K (π ++ [j]) k () := _root_.id rfl
theorem QGZ (j i o t n r f K π) (k : Fr → KS → List Nat → Option β) (l) : Qny (.ptr j i o) t n r f K π k l = VT r f K (π ++ [j]) k () := _root_.id rfl
theorem QF5 (t n r f K π) (k : Fr → KS → List Nat → Option β) (l) : Qny .nil t n r f K π k l = VT r (up f t (.sl K.length)) (K ++ [some (.lst n [])]) (π ++ [K.length]) k () := _root_.id rfl
def Qmf (c : Option AV) (r : List Pt) (f : Fr) (K : KS) (π : List Nat) (k : Fr → KS → List Nat → Option β) (_ : Lk (f, k)) : Option β := match c with
  | some (.sl i) => VT r f K (π ++ [i]) k ()
  | some (.ptr i _ _) => VT r f K (π ++ [i]) k ()
  | _ => none
def Qpp (e : Option Ent) (o : Nat) (r : List Pt) (f : Fr) (K : KS) (π : List Nat) (k : Fr → KS → List Nat → Option β) (_ : Lk (f, k)) : Option β := match e with
  | some (.box cs) => Qmf (cs[o]?) r f K π k ()
  | _ => none
def Qr4 (q : Option Nat) (o : Nat) (r : List Pt) (f : Fr) (K : KS) (π : List Nat) (k : Fr → KS → List Nat → Option β) (_ : Lk (f, k)) : Option β := match q with
  | some j => Qpp (kg K j) o r f K π k ()
  | none => none
theorem n_c (q o n r f K π) (k : Fr → KS → List Nat → Option β) (l) : VT (.c q o n :: r) f K π k l = Qr4 (π[q]?) o r f K π k () := by
 simp only [VT, Qr4, Qpp, Qmf]
 cases π[q]? with
 | none => rfl
 | some j =>
  simp only
  cases kg K j with
  | none => rfl
  | some e =>
   cases e with
   | box cs =>
    simp only
    cases cs[o]? with
    | none => rfl
    | some c => cases c <;> rfl
   | lst _ _ => rfl
theorem QOA (j o r f K π) (k : Fr → KS → List Nat → Option β) (l) : Qr4 (some j) o r f K π k l = Qpp (kg K j) o r f K π k () := _root_.id rfl
theorem QLP (cs o r f K π) (k : Fr → KS → List Nat → Option β) (l) : Qpp (some (.box cs)) o r f K π k l = Qmf (cs[o]?) r f K π k () := _root_.id rfl
theorem QKw (i r f K π) (k : Fr → KS → List Nat → Option β) (l) : Qmf (some (.sl i)) r f K π k l = VT r f K (π ++ [i]) k () := _root_.id rfl
theorem QOW (i a b r f K π) (k : Fr → KS → List Nat → Option β) (l) : Qmf (some (.ptr i a b)) r f K π k l = VT r f K (π ++ [i]) k () := _root_.id rfl
def QmT (c : Option AV) (cs : List AV) (t o n : Nat) (r : List Pt) (f : Fr) (K : KS) (π : List Nat) (k : Fr → KS → List Nat → Option β) (_ : Lk (f, k)) : Option β := match c with
  | some (.sl j) => VT r f K (π ++ [j]) k ()
  | some .nil => VT r (up f t (.agg (cs.set o (.sl K.length)))) (K ++ [some (.lst n [])]) (π ++ [K.length]) k ()
  | _ => none
def QsI (v : AV) (t o n : Nat) (r : List Pt) (f : Fr) (K : KS) (π : List Nat) (k : Fr → KS → List Nat → Option β) (_ : Lk (f, k)) : Option β := match v with
  | .agg cs => QmT (cs[o]?) cs t o n r f K π k ()
  | _ => none
theorem n_g (t o n r f K π) (k : Fr → KS → List Nat → Option β) (l) : VT (.g t o n :: r) f K π k l = QsI (f t) t o n r f K π k () := by
 simp only [VT, QsI, QmT]
 cases f t with
 | agg cs =>
  simp only
  cases cs[o]? with
  | none => rfl
  | some c => cases c <;> rfl
 | _ => rfl
theorem QH2 (cs t o n r f K π) (k : Fr → KS → List Nat → Option β) (l) : QsI (.agg cs) t o n r f K π k l = QmT (cs[o]?) cs t o n r f K π k () := _root_.id rfl
theorem QLH (j cs t o n r f K π) (k : Fr → KS → List Nat → Option β) (l) : QmT (some (.sl j)) cs t o n r f K π k l = VT r f K (π ++ [j]) k () := _root_.id rfl
theorem QNj (cs t o n r f K π) (k : Fr → KS → List Nat → Option β) (l) : QmT (some .nil) cs t o n r f K π k l = VT r (up f t (.agg (cs.set o (.sl K.length)))) (K ++ [some (.lst n [])]) (π ++ [K.length]) k () := _root_.id rfl
theorem QKn : ndB [] = true := _root_.id rfl
theorem QMo (x l) : ndB (x :: l) = (!l.contains x && ndB l) := _root_.id rfl
def krn (K : KS) (π : List Nat) (l : List Nat) : KS := l.map fun j => (kg K j).map (Qiu π)
theorem QSm (K π) : QC2 K π = krn K π π := _root_.id rfl
theorem QE5 (K π) : krn K π [] = [] := _root_.id rfl
theorem QGQ (K π j l) : krn K π (j :: l) = (kg K j).map (Qiu π) :: krn K π l := _root_.id rfl
theorem QH4 (π cs) : Qiu π (.box cs) = .box (Qex π cs) := _root_.id rfl
theorem QPf (π n r) : Qiu π (.lst n r) = .lst n r := _root_.id rfl
theorem QKd (π) : Qex π [] = [] := by simp [Qex]
theorem QKg (π c cs) : Qex π (c :: cs) = ren π c :: Qex π cs := by simp [Qex]
def slO : Option Nat → AV | some i => .sl i | none => .u
def QE7 (i o : Nat) : Option Nat → AV | some j => .ptr j i o | none => .u
theorem QO6 (i) : slO (some i) = .sl i := _root_.id rfl
theorem QLl : slO none = .u := _root_.id rfl
theorem QHf (i o j) : QE7 i o (some j) = .ptr j i o := _root_.id rfl
theorem QGa (i o) : QE7 i o none = .u := _root_.id rfl
theorem QEn (π j) : ren π (.sl j) = slO (Qlv π j) := by simp only [ren]; rfl
theorem QBK (π j i o) : ren π (.ptr j i o) = QE7 i o (Qlv π j) := by simp only [ren]; rfl
theorem QA7 (π cs) : ren π (.agg cs) = .agg (Qex π cs) := by simp [ren]
theorem QAM (π cs) : ren π (.tup cs) = .tup (Qex π cs) := by simp [ren]
theorem QAO (π g cs) : ren π (.clo g cs) = .clo g (Qex π cs) := by simp [ren]
theorem QG8 (π x) : ren π (.b x) = .b x := by simp [ren]
theorem QNs (π c x) : ren π (.i c x) = .i c x := by simp [ren]
theorem QPi (π x) : ren π (.s x) = .s x := by simp [ren]
theorem QL2 (π) : ren π .nil = .nil := by simp [ren]
theorem QO7 (π) : ren π .u = .u := by simp [ren]
theorem QAf (π n r) : ren π (.imm n r) = .imm n r := by simp [ren]
theorem Qxo (π n r i o) : ren π (.iptr n r i o) = .iptr n r i o := by simp [ren]
theorem QGI (j) : Qlv [] j = none := _root_.id rfl
theorem QF0 (x l j) : Qlv (x :: l) j = sel (x == j) (some 0) ((Qlv l j).map (· + 1)) () := by
 rw [Qlv]; exact Qc9 (by simp) _ _
theorem QEQ (f π l) : QBj f π l = frm (frl f π l) := _root_.id rfl
theorem QEz (f π) : frl f π [] = [] := _root_.id rfl
theorem QFq (f π t l) : frl f π (t :: l) = (t, ren π (f t)) :: frl f π l := _root_.id rfl
theorem QR7 (z la rt f K) : QgC z la rt .normal f K = QeO z la.sl la.rg f K (fun f K => some (.inl (f, K))) () := _root_.id rfl
theorem QTg (z la rt f K) : QgC z la rt .ret f K = QeO z rt.sl rt.rg f K (fun f K => some (.inr (.ret, f, K))) () := _root_.id rfl
theorem QVK (z la rt i f K) : QgC z la rt (.exit i) f K = QeO z la.xs la.xr f K (fun f K => some (.inr (.exit i, f, K))) () := _root_.id rfl
theorem QNQ (t x y) : Q2 t (.seq x y) = (Q2 t x).or (Q2 t y) := _root_.id rfl
theorem QFt (t c x y) : Q2 t (.cond c x y) = (Q2 t x).or (Q2 t y) := _root_.id rfl
theorem QAU (t i x) : Q2 t (.block i x) = Q2 t x := _root_.id rfl
theorem QFU (t x) : Q2 t (.loop x) = sel (tag x == t) (some x) (Q2 t x) () := _root_.id rfl
theorem Qx4 (t i o d) : Q2 t (.region i o d) = none := _root_.id rfl
theorem QGW (t) : Q2 t .skip = none := _root_.id rfl
theorem QKZ (t) : Q2 t .ret = none := _root_.id rfl
theorem QFy (t i) : Q2 t (.exit i) = none := _root_.id rfl
theorem QDO (x : Option Code) : (none : Option Code).or x = x := by cases x <;> rfl
theorem QDo (x : Code) (y : Option Code) : (some x).or y = some x := _root_.id rfl
theorem l_0 (K) : Qdn K [] = [] := by simp [Qdn]
theorem l_s (K c cs) : Qdn K (c :: cs) = Qa1 K c :: Qdn K cs := by simp [Qdn]
def Qzx (e : Option Ent) : AV := match e with | some (.lst n rows) => .imm n (Qv rows) | _ => .u
theorem QRt (K j) : Qa1 K (.sl j) = Qzx (kg K j) := by simp only [Qa1]; rfl
theorem QIB (n r) : Qzx (some (.lst n r)) = .imm n (Qv r) := _root_.id rfl
theorem QPX (K j) : Qof K j = Qzx (kg K j) := _root_.id rfl
def QsJ (K : KS) (e : Option Ent) (i o : Nat) : AV := match e with
 | some (.lst n rows) => .iptr n (Qv rows) i o
 | some (.box cs) => .iptr cs.length [cs.map (Qf9 K)] i o
 | none => .u
theorem QJL (K j i o) : Qa1 K (.ptr j i o) = QsJ K (kg K j) i o := by simp only [Qa1]; rfl
theorem QE0 (K cs i o) : QsJ K (some (.box cs)) i o = .iptr cs.length [cs.map (Qf9 K)] i o := _root_.id rfl
theorem QGU (K n r i o) : QsJ K (some (.lst n r)) i o = .iptr n (Qv r) i o := _root_.id rfl
theorem QHJ (K n r i o) : Qa1 K (.iptr n r i o) = .iptr n r i o := by simp [Qa1]
theorem QHN (K j) : Qf9 K (.sl j) = Qof K j := _root_.id rfl
theorem QRx (K x) : Qf9 K (.b x) = .b x := _root_.id rfl
theorem QQ4 (K c x) : Qf9 K (.i c x) = .i c x := _root_.id rfl
theorem QRZ (K x) : Qf9 K (.s x) = .s x := _root_.id rfl
theorem QQK (K) : Qf9 K .nil = .nil := _root_.id rfl
theorem QVk (K n r) : Qf9 K (.imm n r) = .imm n r := _root_.id rfl
theorem QFo (r : List AV) (rs) : QR (r :: rs) 0 = r := _root_.id rfl
theorem QKv (K cs) : Qa1 K (.agg cs) = .agg (Qdn K cs) := by simp [Qa1]
theorem QNV (K cs) : Qa1 K (.tup cs) = .tup (Qdn K cs) := by simp [Qa1]
theorem QNW (K g cs) : Qa1 K (.clo g cs) = .clo g (Qdn K cs) := by simp [Qa1]
theorem l_b (K x) : Qa1 K (.b x) = .b x := by simp [Qa1]
theorem l_i (K c x) : Qa1 K (.i c x) = .i c x := by simp [Qa1]
theorem QR9 (K x) : Qa1 K (.s x) = .s x := by simp [Qa1]
theorem l_n (K) : Qa1 K .nil = .nil := by simp [Qa1]
theorem QM9 (K n r) : Qa1 K (.imm n r) = .imm n r := by simp [Qa1]
theorem QBv : Qv [] = [] := by simp [Qv]
theorem QBx (r rs) : Qv (r :: rs) = VB r :: Qv rs := by simp [Qv]
theorem QGw : VB [] = [] := by simp [VB]
theorem QGE (c cs) : VB (c :: cs) = VQ c :: VB cs := by simp [VB]
theorem QQr (x) : VQ (.b x) = .b x := by simp [VQ]
theorem QRN (c x) : VQ (.i c x) = .i c x := by simp [VQ]
theorem QUQ (x) : VQ (.s x) = .s x := by simp [VQ]
theorem QT3 : VQ .nil = .nil := by simp [VQ]
theorem QFl (n r) : VQ (.imm n r) = .imm n r := by simp [VQ]
theorem QGD (n r) : VQ (.own n r) = .imm n (Qv r) := by simp [VQ]
theorem QKo (m n r) : VV m (.own n r) = (.sl m, [some (.lst n r)]) := by simp [VV]
theorem QJ8 (m cs) : VV m (.agg cs) = (.agg (Qce m cs).1, (Qce m cs).2) := by simp [VV]
theorem QN7 (m cs) : VV m (.tup cs) = (.tup (Qce m cs).1, (Qce m cs).2) := by simp [VV]
theorem i_b (m x) : VV m (.b x) = (.b x, []) := by simp [VV]
theorem i_i (m c x) : VV m (.i c x) = (.i c x, []) := by simp [VV]
theorem QTb (m x) : VV m (.s x) = (.s x, []) := by simp [VV]
theorem i_n (m) : VV m .nil = (.nil, []) := by simp [VV]
theorem QV1 (m) : Qce m [] = ([], []) := by simp [Qce]
theorem QTZ (m c cs) : Qce m (c :: cs) = ((VV m c).1 :: (Qce (m + (VV m c).2.length) cs).1, (VV m c).2 ++ (Qce (m + (VV m c).2.length) cs).2) := by simp [Qce]
theorem QDh {α γ : Type} (x : α) (y : γ) : (x, y).1 = x := _root_.id rfl
theorem QLA {α γ : Type} (x : α) (y : γ) : (x, y).2 = y := _root_.id rfl
def QpG (e : Option (List AV)) (k : AV → Option β) (_ : Lk k) : Option β := match e with | some cs => k (.agg cs) | none => none
theorem QOs (K z p ps l) : Qks K (.st z p) ps k l = QpG (Qa4 K (p[·]?) z ps) k () := _root_.id rfl
theorem QFw (K z m ps l) : Qks K (.arr z m) ps k l = QpG (Qa4 K (fun i => some (i * m, m)) z ps) k () := _root_.id rfl
theorem QK9 (cs l) : QpG (some cs) k l = k (.agg cs) := _root_.id rfl
def QD0 (fl : Bool) (ns : List Nat) (e : Option (List AV)) (K : KS) (len m : Nat) (k : AV → KS → Option β) (_ : Lk k) : Option β := match e with
  | some cs => cond (yB fl cs) (match VF K cs with
   | some (K1, cs) => Xi (K1 ++ [some (.lst m ((QbC m len cs).map (nz ns)))]) (fun K' => k (.sl K.length) K') ()
   | none => none) none
  | none => none
theorem QR1 (fl ns K e m z) (k : AV → KS → Option β) (l) : Qhn fl ns K (some (e, m, z)) 0 [] k l = Xi (K ++ [some (.lst m [])]) (fun K' => k (.sl K.length) K') () := _root_.id rfl
theorem s_b (fl ns K e m z len ps) (k : AV → KS → Option β) (l) : Qhn fl ns K (some (e, m, z)) (len + 1) ps k l = okB (Nat.ble ((len + 1) * m) 16777216) (QD0 fl ns (Qa4 K (fun i => some (i * m, m)) (QdE (len + 1) z) ps) K (len + 1) m k ()) () :=
 Qc9 QiM _ _
def QC8 (ns : List Nat) (e : Option (KS × List AV)) (n len m : Nat) (k : AV → KS → Option β) (_ : Lk k) : Option β := match e with
   | some (K1, cs) => Xi (K1 ++ [some (.lst m ((QbC m len cs).map (nz ns)))]) (fun K' => k (.sl n) K') ()
   | none => none
theorem QRv (fl ns K cs len m) (k : AV → KS → Option β) (l) : QD0 fl ns (some cs) K len m k l = cond (yB fl cs) (QC8 ns (VF K cs) K.length len m k ()) none := _root_.id rfl
theorem QTx : zB [] = true := _root_.id rfl
theorem QVc (l : List Nat) : zB (0 :: l) = zB l := _root_.id rfl
theorem QQs (n : Nat) (l : List Nat) : zB ((n + 1) :: l) = false := _root_.id rfl
theorem QQE (cs) : yB false cs = true := _root_.id rfl
theorem QR8 (cs) : yB true cs = noS cs := _root_.id rfl
theorem QVv : noS [] = true := _root_.id rfl
theorem QQ3 (c n l) : noS (.i c n :: l) = noS l := _root_.id rfl
theorem QSN (x l) : noS (.b x :: l) = noS l := _root_.id rfl
theorem QQA (x l) : noS (.s x :: l) = noS l := _root_.id rfl
theorem QUI (l) : noS (.nil :: l) = noS l := _root_.id rfl
theorem QVm (n r l) : noS (.imm n r :: l) = noS l := _root_.id rfl
theorem QUF (j l) : noS (.sl j :: l) = false := _root_.id rfl
theorem QUZ (ns K1 cs n len m) (k : AV → KS → Option β) (l) : QC8 ns (some (K1, cs)) n len m k l = Xi (K1 ++ [some (.lst m ((QbC m len cs).map (nz ns)))]) (fun K' => k (.sl n) K') () := _root_.id rfl
theorem QUz (K p cs) : Qa4 K p cs [] = some cs := _root_.id rfl
def QxM (K : KS) (place : Nat → Option (Nat × Nat)) (cs : List AV) (p : Option (Nat × Nat)) (d : Option (List AV)) (rest : List (Nat × AV)) : Option (List AV) := match p, d with
  | some (o, m), some ds => if ds.length = m ∧ o + m ≤ cs.length then Qa4 K place (putCells cs o ds) rest else none
  | _, _ => none
theorem QUk (K p cs i v r) : Qa4 K p cs ((i, v) :: r) = QxM K p cs (p i) (Qdh K v) r := by simp only [Qa4]; rfl
theorem QRq (K p cs o m ds r) : QxM K p cs (some (o, m)) (some ds) r = cond ((ds.length == m) && Nat.ble (o + m) cs.length) (Qa4 K p (putCells cs o ds) r) none :=
 Qc9 (by simp only [Bool.and_eq_true, beq_iff_eq, QiM]) _ _
theorem QRW (K cs) : Qdh K (.agg cs) = some cs := _root_.id rfl
theorem QUL (K x) : Qdh K (.b x) = some [.b x] := _root_.id rfl
theorem QVA (K c x) : Qdh K (.i c x) = some [.i c x] := _root_.id rfl
theorem QSB (K x) : Qdh K (.s x) = some [.s x] := _root_.id rfl
theorem QRw (K) : Qdh K .nil = some [.nil] := _root_.id rfl
theorem QE4 (K n r) : Qdh K (.imm n r) = some [.imm n r] := _root_.id rfl
theorem QJJ (K j) : Qdh K (.sl j) = cond (kg K j).isSome (some [.sl j]) none := by
 show (if Z0 K (.sl j) = true then some [AV.sl j] else none) = _; exact Qc9 Iff.rfl _ _
theorem QTN (z) : QdE 0 z = [] := by simp [QdE]
theorem QTw (n z) : QdE (n + 1) z = z ++ QdE n z := by simp [QdE, List.replicate_succ]
theorem QM0 (K) : VF K [] = some (K, []) := _root_.id rfl
theorem QLS (K x cs) : VF K (.b x :: cs) = (VF K cs).map fun p => (p.1, .b x :: p.2) := by simp [VF, AV.closed]
theorem QLW (K c x cs) : VF K (.i c x :: cs) = (VF K cs).map fun p => (p.1, .i c x :: p.2) := by simp [VF, AV.closed]
theorem QNA (K x cs) : VF K (.s x :: cs) = (VF K cs).map fun p => (p.1, .s x :: p.2) := by simp [VF, AV.closed]
theorem QJa (K cs) : VF K (.nil :: cs) = (VF K cs).map fun p => (p.1, .nil :: p.2) := by simp [VF, AV.closed]
theorem QBs (K n r cs) : VF K (.imm n r :: cs) = (VF K cs).map fun p => (p.1, .imm n r :: p.2) := by simp [VF, AV.closed]
def QIS (e : Option Ent) (K : KS) (j : Nat) (cs : List AV) : Option (KS × List AV) := match e with
  | some (.lst n rows) => (VF (K.set j none) cs).map fun p => (p.1, .own n rows :: p.2)
  | _ => none
theorem QG4 (K j cs) : VF K (.sl j :: cs) = QIS (kg K j) K j cs := by simp only [VF]; rfl
theorem QK0 (K n r j cs) : QIS (some (.lst n r)) K j cs = (VF (K.set j none) cs).map fun p => (p.1, .own n r :: p.2) := _root_.id rfl
theorem QI3 (m cs) : QbC m 0 cs = [] := _root_.id rfl
theorem QMp (m l cs) : QbC m (l + 1) cs = cs.take m :: QbC m l (cs.drop m) := _root_.id rfl
def QtZ (e : Option (List (List AV) × KS)) (n m b : Nat) (s : AV) (k : AV → KS → Option β) (_ : Lk k) : Option β := match e with
  | some (rows', K1) => match s with
   | .sl j => match kg K1 j with
    | some (.lst n' rows) => if n' = m then Vo (decide ((rows.length + rows'.length) * (b + 1) ≤ 140737488355328)) (Xi (K1.set j none ++ [some (.lst m (rows ++ rows'))]) (fun K' => k (.sl n) K') ()) () else none
    | _ => none
   | .nil => Vo (decide (rows'.length * (b + 1) ≤ 140737488355328)) (Xi (K1 ++ [some (.lst m rows')]) (fun K' => k (.sl n) K') ()) ()
   | _ => none
  | none => none
def Qyb (e : Option Ent) (r : List (List AV)) (K1 : KS) (n m b j : Nat) (k : AV → KS → Option β) (_ : Lk k) : Option β := match e with
    | some (.lst n' rows) => if n' = m then Vo (decide ((rows.length + r.length) * (b + 1) ≤ 140737488355328)) (Xi (K1.set j none ++ [some (.lst m (rows ++ r))]) (fun K' => k (.sl n) K') ()) () else none
    | _ => none
def QFW (K : KS) (t : Option (TypeId × Nat × List AV)) (bytes : Option Nat) (s x : AV) (k : AV → KS → Option β) (_ : Lk k) : Option β := QlL K t bytes s x k ()
def QCB (P : Program) (t : Option (TypeId × Nat × List AV)) : Option Nat := t.bind fun q => tb P q.1
theorem QKS {P : Program} {D : Orc} {f : Fr} {K : KS} (s x t tx ts) (k : AV → KS → Option β) (l) : oop P D (.call ⟨.builtin .append, List.toArray [s, x], List.toArray (t :: tx :: ts)⟩) f K k l = okB (Qbo P tx && !(Qcj s && Qfb (ev f x))) (QFW K (tse P t) (QCB P (tse P t)) (ev f s) (ev f x) k ()) () := by
 simp only [oop, okB, QFW, QCB]; cases Qbo P tx <;> cases (Qcj s && Qfb (ev f x)) <;> rfl
theorem QRk (d) : Qcj (.tmp d) = false := _root_.id rfl
theorem QQR : Qcj (.const (.slice none 0 0)) = true := _root_.id rfl
theorem QRe (n r) : Qfb (.imm n r) = false := _root_.id rfl
theorem QT9 : Qfb .nil = false := _root_.id rfl
theorem QSJ (j) : Qfb (.sl j) = true := _root_.id rfl
def QxO (ns : List Nat) (K : KS) (t : Option (TypeId × Nat × List AV)) (bytes : Option Nat) (l c : AV) (k : AV → KS → Option β) (_ : Lk k) : Option β := QtN ns K t bytes l c k ()
theorem QRf {P : Program} {D : Orc} {f : Fr} {K : KS} (t x c) (k : AV → KS → Option β) (l) : oop P D (.makeSlice t x c) f K k l = QxO (Qeo P t) K (tse P t) (QCB P (tse P t)) (ev f x) (ev f c) k () := _root_.id rfl
theorem QMa (ns K e m z b i c) (k : AV → KS → Option β) (l) : QxO ns K (some (e, m, z)) (some (b + 1)) (.i .i64 i) (.i .i64 c) k l = Vo (decide (i = c)) (Vo (mkB i (b + 1)) (Xi (K ++ [some (.lst m (List.replicate i.toNat (nz ns z)))]) (fun K' => k (.sl K.length) K') ()) ()) () := _root_.id rfl
theorem QS3 (i : Int) : (i = i) = True := by simp
theorem QNE (P e m z) : QCB P (some (e, m, z)) = tb P e := _root_.id rfl
theorem a_1 (K e m z b s x) (k : AV → KS → Option β) (l) : QFW K (some (e, m, z)) (some (b + 1)) s x k l = QtZ (Qdf K m x) K.length m b s k () := _root_.id rfl
theorem a_2 (r K1 n m b j) (k : AV → KS → Option β) (l) : QtZ (some (r, K1)) n m b (.sl j) k l = Qyb (kg K1 j) r K1 n m b j k () := _root_.id rfl
theorem a_3 (r K1 n m b) (k : AV → KS → Option β) (l) : QtZ (some (r, K1)) n m b .nil k l = Vo (rm r.length (b + 1)) (Xi (K1 ++ [some (.lst m r)]) (fun K' => k (.sl n) K') ()) () := by
 simp [QtZ, rm]
theorem a_4 (r' r K1 n m b j) (k : AV → KS → Option β) (l) : Qyb (some (.lst m r')) r K1 n m b j k l = Vo (rm (r'.length + r.length) (b + 1)) (Xi (K1.set j none ++ [some (.lst m (r' ++ r))]) (fun K' => k (.sl n) K') ()) () := by
 simp [Qyb, rm]
theorem QT8 (K m) : Qdf K m .nil = some ([], K) := _root_.id rfl
theorem QVR (K m r) : Qdf K m (.imm m r) = some (r, K) := by simp [Qdf]
def QEO (e : Option Ent) (K : KS) (m k : Nat) : Option (List (List AV) × KS) := match e with
  | some (.lst n rows) => if n = m then some (rows, K.set k none) else none
  | _ => none
theorem QTo (K m j) : Qdf K m (.sl j) = QEO (kg K j) K m j := _root_.id rfl
theorem QUg (K m j r) : QEO (some (.lst m r)) K m j = some (r, K.set j none) := by simp [QEO]
end
section
variable (T : Tld)
theorem QJm (n h) : (orc T (n + 1) h).w = T.wt := _root_.id rfl
theorem QOX (n h g) : (orc T n h).z g = (lk T.pz g).getD [] := by cases n <;> rfl
theorem QKs (n h) : (orc T (n + 1) h).v = T.vt := _root_.id rfl
theorem QIX (n h) : (orc T n h).m = CM T n := by cases n <;> rfl
theorem QQn (n h) : (orc T n h).a = CA T n := by cases n <;> rfl
theorem QP9 (n h) : (orc T (n + 1) h).q = T.qt := _root_.id rfl
theorem QPc (n h) : (orc T (n + 1) h).s = T.st := _root_.id rfl
theorem QKP (n h) : (orc T n h).p = CP T n := by cases n <;> rfl
theorem QMO (n h) : (orc T n h).l = LP T n h := _root_.id rfl
noncomputable def cpF (T : Tld) (n g : Nat) (fn : Option Func) (a : Option Ann) (args : List AV) : Option AV := match a with
 | some a => match fn with
  | some f => cond (Nat.ble args.length f.ntmps) (V2 T.P (orc T n g) a (f.body.getD .skip) (Qib T.P a.sh f.results.toList) (V6 args) [] ()) none
  | none => cond (Nat.ble args.length 0) (V2 T.P (orc T n g) a .skip (Qib T.P a.sh []) (V6 args) [] ()) none
 | none => T.xt g args
noncomputable def caF (T : Tld) (n g : Nat) (fn : Option Func) (a : Option Ann) (K : KS) (args : List AV) : Option (AV × KS) := match a with
 | some a => match fn with
  | some f => cond (a.wr && (Nat.beq K.length a.ak.length && Nat.ble args.length f.ntmps)) (V2 T.P (orc T n g) a (f.body.getD .skip) (Qk7 T.P a.ak a.nr f.ntmps f.results.toList) (V6 args) K ()) none
  | none => cond (a.wr && (Nat.beq K.length a.ak.length && Nat.ble args.length 0)) (V2 T.P (orc T n g) a .skip (Qk7 T.P a.ak a.nr 0 []) (V6 args) K ()) none
 | none => none
theorem Qa2 (n g K args) : CA T (n + 1) g K args = caF T n g (T.P.funcs[g]?) (T.at g) K args := by
 show (match T.at g with | some a => cond _ _ _ | none => none) = _
 unfold caF body Qlg ntm
 cases T.at g with
 | none => rfl
 | some a => cases T.P.funcs[g]? <;> rfl
theorem QyO (n g K args a) (x1 x2 x3 x4 x5 x6 m) (rs : List ResultVar) (c x7 x8 x9 x10 x11 x12 x13) : caF T n g (some ⟨x1, x2, x3, x4, x5, x6, m, List.toArray rs, some c, x7, x8, x9, x10, x11, x12, x13⟩) (some a) K args = cond ((a.nr.isSome || !a.ak.isEmpty) && ((K.length == a.ak.length) && Nat.ble args.length m)) (V2 T.P (orc T n g) a c (Qk7 T.P a.ak a.nr m rs) (V6 args) K ()) none := by rw [← QkL]; rfl
theorem QG5 {α : Type} (x : α) (l : List α) : (x :: l).isEmpty = false := _root_.id rfl
theorem QTT : (!false) = true := _root_.id rfl
noncomputable def cmF (T : Tld) (n g : Nat) (fn : Option Func) (a : Option Ann) (K : KS) (args : List AV) : Option AV := match a with
 | some a => cond (Nat.ble args.length (match fn with | some f => f.ntmps | none => 0)) (V2 T.P (orc T n g) a (match fn with | some f => f.body.getD .skip | none => .skip) (Qib T.P a.sh (match fn with | some f => f.results.toList | none => [])) (V6 args) K ()) none
 | none => T.mt g K args
theorem Qoi (n g K args) : CM T (n + 1) g K args = cmF T n g (T.P.funcs[g]?) (T.at g) K args := by
 show (match T.at g with | some a => _ | none => _) = _
 unfold cmF body Qlg ntm
 cases T.at g with
 | none => rfl
 | some a => cases T.P.funcs[g]? <;> rfl
theorem QBU (n g K args) (h : T.at g = none) : CM T (n + 1) g K args = T.mt g K args := by rw [Qoi, h]; rfl
theorem QxB (n g K args a) (x1 x2 x3 x4 x5 x6 m) (rs : List ResultVar) (c x7 x8 x9 x10 x11 x12 x13) : cmF T n g (some ⟨x1, x2, x3, x4, x5, x6, m, List.toArray rs, some c, x7, x8, x9, x10, x11, x12, x13⟩) (some a) K args = cond (Nat.ble args.length m) (V2 T.P (orc T n g) a c (Qib T.P a.sh rs) (V6 args) K ()) none := _root_.id rfl
theorem Qf (n g args) : CP T (n + 1) g args = cpF T n g (T.P.funcs[g]?) (T.at g) args := by
 show (match T.at g with | some a => cond _ _ _ | none => T.xt g args) = _
 unfold cpF body Qlg ntm
 cases T.at g with
 | none => rfl
 | some a => cases T.P.funcs[g]? <;> rfl
theorem QSg (n g args) (h : T.at g = none) : CP T (n + 1) g args = T.xt g args := by rw [Qf, h]; rfl
theorem QwR (n g args a) (x1 x2 x3 x4 x5 x6 m) (rs : List ResultVar) (c x7 x8 x9 x10 x11 x12 x13) : cpF T n g (some ⟨x1, x2, x3, x4, x5, x6, m, List.toArray rs, some c, x7, x8, x9, x10, x11, x12, x13⟩) (some a) args = cond (Nat.ble args.length m) (V2 T.P (orc T n g) a c (Qib T.P a.sh rs) (V6 args) [] ()) none := _root_.id rfl
noncomputable def lpG (T : Tld) (n h : Nat) (a : Ann) (c : Option Code) (la : Option LA) (f : Fr) (K : KS) : Option (XE × Fr × KS) := match c, la with
    | some c, some la => run (fun s => V2 T.P (orc T n h) a c (QgC a.ak la a.rt) s.1 s.2 ()) (f, K)
    | _, _ => none
noncomputable def lpF (T : Tld) (n h t : Nat) (fn : Option Func) (a : Option Ann) (f : Fr) (K : KS) : Option (XE × Fr × KS) := match a with
 | some a => lpG T n h a (Q2 t (match fn with | some f => f.body.getD .skip | none => .skip)) (lk a.lp t) f K
 | none => none
theorem Qy (n h t f K) : LP T (n + 1) h t f K = lpF T n h t (T.P.funcs[h]?) (T.at h) f K := by
 show (match T.at h with | some a => _ | none => none) = _
 unfold lpF
 cases T.at h <;> rfl
theorem QyQ (n h t a f K) (x1 x2 x3 x4 x5 x6 m rs c x7 x8 x9 x10 x11 x12 x13) : lpF T n h t (some ⟨x1, x2, x3, x4, x5, x6, m, rs, some c, x7, x8, x9, x10, x11, x12, x13⟩) (some a) f K = lpG T n h a (Q2 t c) (lk a.lp t) f K := _root_.id rfl
theorem Qo (n h a c la f K) : lpG T n h a (some c) (some la) f K = run (fun s => V2 T.P (orc T n h) a c (QgC a.ak la a.rt) s.1 s.2 ()) (f, K) := _root_.id rfl
theorem getD_some {α : Type} (x d : α) : (some x).getD d = x := _root_.id rfl
theorem Qkg {α : Type} (d : α) : (none : Option α).getD d = d := _root_.id rfl
end
end Go.Proofs.YtponohekgnklkaaGreat.Am
namespace Go.Proofs.YtponohekgnklkaaGreat.Am
open Go
set_option linter.unusedVariables false
set_option linter.unusedSimpArgs false
section
variable {α β γ : Type} {c : α → List AV}
theorem QpS (xs : List α) (i) : inb (xs.map c) i = inb xs i := by simp [inb]
theorem QQL (xs : List α) : lnR (xs.map c) = ln xs := by simp [lnR, ln]
theorem Qp3 [Inhabited α] (xs : List α) (i : Int) (h : inb xs i = true) : QR (xs.map c) i.toNat = c (gt xs i) := by
 obtain ⟨h0, h1⟩ := QbQ.1 h
 have h2 : i.toNat < xs.length := by omega
 simp [QR, gt, List.getD_eq_getElem?_getD, h2]
theorem QOM (xs : List α) (i : Int) (h : inb xs i = true) : QnZ (xs.map c) i.toNat = true := by
 unfold QnZ
 obtain ⟨h0, h1⟩ := QbQ.1 h
 rw [Nat.blt_eq]; simp; omega
theorem QLv (xs : List α) (l h : Int) : cut (xs.map c) l h = (cut xs l h).map c := by simp [cut, List.map_take, List.map_drop]
theorem Qpb (xs : List α) (i : Int) (ys : List α) (b : Nat) : QdH (xs.map c) i (ys.map c) b = QdH xs i ys b := by simp [QdH]
theorem Qpy (xs : List α) (i : Int) (ys : List α) : Vc (xs.map c) i (ys.map c) = (Vc xs i ys).map c := by simp [Vc, List.map_take, List.map_drop]
theorem QLe (xs : List α) : (xs.map c).length = xs.length := by simp
theorem Qw4 (xs : List α) (n : Nat) (x : α) (i : Int) : inb (xs.set n x) i = inb xs i := by simp [inb]
theorem QA1 [Inhabited α] (xs : List α) (x : α) (i : Int) (h : inb xs i = true) : gt (xs.set i.toNat x) i = x := by
 obtain ⟨h0, h1⟩ := QbQ.1 h
 have h2 : i.toNat < xs.length := by omega
 simp [gt, List.getD_eq_getElem?_getD, h2]
theorem Qxl (xs : List α) (n : Nat) (x y : α) : (xs.set n x).set n y = xs.set n y := by simp
theorem QvZ (o : Option α) (g : β → γ) (f : α → Option β) : (o.bind f).map g = o.bind fun x => (f x).map g := by cases o <;> rfl
theorem Qvl (b : Bool) (o : Option β) (g : β → γ) (l) : (Vo b o l).map g = Vo b (o.map g) () := by cases b <;> rfl
theorem QvL (b : Bool) (x y : Option β) (g : β → γ) : (cond b x y).map g = cond b (x.map g) (y.map g) := by cases b <;> rfl
theorem QyC {ρ δ : Type} (p : ρ → Option β) (q : δ → Option β) (x) (g : β → γ) : (evO p q x).map g = evO (fun r => (p r).map g) (fun r => (q r).map g) x := by cases x <;> rfl
theorem Qrg (x : α) (f : α → Option β) : (some x).bind f = f x := _root_.id rfl
theorem Qqw (o : Option α) (f : α → Option β) (g : β → Option γ) : (o.bind f).bind g = o.bind fun x => (f x).bind g := by cases o <;> rfl
theorem Qz4 {α' β' : Type} (f : α → α') (g : β → β') (x) : Sum.map f g (.inl x) = .inl (f x) := _root_.id rfl
theorem Qz2 {α' β' : Type} (f : α → α') (g : β → β') (x) : Sum.map f g (.inr x) = .inr (g x) := _root_.id rfl
end
class EncR {α : Type} (c : α → List AV) (r : List AV) (x : outParam α) : Prop where
 eq : r = c x
class EncL {α : Type} (c : α → List AV) (R : List (List AV)) (xs : outParam (List α)) : Prop where
 eq : R = xs.map c
instance {α : Type} (c : α → List AV) (x : α) : EncR c (c x) x := ⟨rfl⟩
instance {α : Type} (c : α → List AV) (xs : List α) : EncL c (xs.map c) xs := ⟨rfl⟩
instance {α : Type} (c : α → List AV) : EncL c [] [] := ⟨rfl⟩
instance {α : Type} (c : α → List AV) (r R x xs) [h : EncR c r x] [H : EncL c R xs] : EncL c (r :: R) (x :: xs) := ⟨by rw [h.eq, H.eq]; rfl⟩
instance {α : Type} (c : α → List AV) (R S xs ys) [h : EncL c R xs] [H : EncL c S ys] : EncL c (R ++ S) (xs ++ ys) := ⟨by rw [h.eq, H.eq]; simp⟩
instance {α : Type} (c : α → List AV) (R xs) (i : Nat) (r x) [h : EncL c R xs] [H : EncR c r x] : EncL c (R.set i r) (xs.set i x) := ⟨by rw [h.eq, H.eq, List.map_set]⟩
instance {α : Type} (c : α → List AV) (n : Nat) (r x) [H : EncR c r x] : EncL c (List.replicate n r) (List.replicate n x) := ⟨by rw [H.eq, List.map_replicate]⟩
theorem QGh {α : Type} {c : α → List AV} (xs : List α) (R) {ys} [h : EncL c R ys] : xs.map c ++ R = (xs ++ ys).map c := by rw [h.eq]; simp
theorem QHp {α : Type} {c : α → List AV} (xs : List α) (n : Nat) (R) {x} [h : EncR c R x] : (xs.map c).set n R = (xs.set n x).map c := by rw [h.eq, List.map_set]
theorem Zq {α : Type} {c : α → List AV} (h : ∀ x, X8 (c x) = true) (xs : List α) : Qt (xs.map c) = true := by
 induction xs with
 | nil => simp [Qt]
 | cons x xs ih => simp [Qt, h, ih]
theorem Qbn {α : Type} {c c' : α → List AV} (h : ∀ x, VB (c x) = c' x) (xs : List α) : Qv (xs.map c) = xs.map c' := by
 induction xs with
 | nil => simp [Qv]
 | cons x xs ih => simp [Qv, h, ih]
theorem QFJ {α : Type} {c : α → List AV} (xs : List α) (n b : Nat) (m) : Qlp (xs.map c).isEmpty (some (AV.own n [])) (Vo (rm (0 + xs.length) b) (some (AV.own n (xs.map c))) m) = Vo (rm (0 + xs.length) b) (some (AV.own n (xs.map c))) () := by
 cases xs with
 | nil => simp [Qlp, oeq, Vo, rm]
 | cons r R => rfl
set_option linter.defProp false
set_option maxRecDepth 100000
def evA := aI @QQd <| aI @QI6 <| aI @QzL <| aI @QDz <| aI @QxT <| aI @QDB <| aI @QNX <| aI @QLR <| aI @QFk <| aI @QCz <| aI @Qyr <| aI @QVh <| aI @QHP <| aI @QUs <| aI @QLt <| aI @QAs <| aI @QPO <| aI @QC6 <| aI @QGn <| aI @QBB <| aI @Qyk <| aI @QOt <| aI @QML <| aI @QFF <| aI @QEV <| aI @QHu <| aI @QGz <| aI @QHS <| aI @QAZ <| aI @Qzo <| aI @QQm <| aI @Qxa <| aI @QEY <| aI @QGd <| aI @QFQ <| aI @QHT <| aI @QL4 <| aI @QOT <| aI @QNO <| aI @Qxq <| aI @QoI <| aI @QEB <| aI @QLN <| aI @QCn <| aI @QzF <| aI @QFz <| aI @QGS <| aI @QPe <| aI @QKm <| aI @s_v <| aI @v_j <| aI @v_s <| aI @QJ9 <| aI @QOP <| aI @QxB <| aI @QtS <| aI @n_c <| aI @QOA <| aI @QLP <| aI @QKw <| aI @QOW <| aI @n_g <| aI @QH2 <| aI @QLH <| aI @QNj <| aI @QFe <| aI @QLK <| aI @QGi <| aI @QLz <| aI @QEU <| aI @QBr <| aI @QxL <| aI @Qu7 <| aI @QuW <| aI @QuM <| aI @Qtm <| aI @QTX <| aI @QU0 <| aI @QDC <| aI @QJ7 <| aI @QMC <| aI @QEs <| aI @QHH <| aI @QGt <| aI @QAJ <| aI @QxK <| aI @QAb <| aI @Qvn <| aI @QCw <| aI @Qw0 <| aI @QNd <| aI @QO5 <| aI @QF3 <| aI @QFR <| aI @QGR <| aI @QFD <|  aI @QA8 <| aI @QoI <| aI @QHQ <| aI @QJo <| aI @QCN <| aI @QH9 <| aI @QLO <| aI @QwF <| aI @Qyy <| aI @QwK <| aI @QPV <| aI @QxC <| aI @QM8 <| aI @QIV <|
 aI @Qyx <| aI @Qzp <| aI @QFd <| aI @QuF <| aI @Qzd <| aI @Qxx <| aI @QyI <| aI @QCR <| aI @Qz6 <| aI @QCM <|
 aI @QP3 <| aI @QFM <| aI @QAt <| aI @c_g <| aI @QQQ <| aI @QD1 <| aI @QEg <| aI @QC9 <|
 aI @Qi9 <| aI @QvN <| aI @QsS <| aI @QqV <| aI @Qs1 <|
 aI @QEi <| aI @Qyl <| aI @QF8 <| aI @QCd <| aI @QId <| aI @QAA <| aI @QyX <| aI @QHc <| aI @Qz3 <| aI @QMS <| aI @QFx <| aI @QGx <| aI @QGu <| aI @QHb <| aI @QOl <| aI @QNz <| aI @QK1 <| aI @QLn <| aI @QJp <| aI @QNU <| aI @QEw <| aI @QEx <| aI @QGb <| aI @QVr <|
 aI @QVn <| aI @QS2 <| aI @QNp <| aI @QQf <| aI @QMl <| aI @QMB <| aI @QOQ <| aI @QGM <| aI @QAw <| aI @QKS <| aI @QRf <|
 aI @QLZ <| aI @QHv <| aI @QvU <| aI @Qsb <| aI @Qsh <| aI @Qp8 <| aI @QrP <| aI @Qxg <| aI @Qso <| aI @Qv5 <|
 aI @QqI <| aI @QqN <| aI @VK <| aI @Qjj <| aI @Qm3 <| aI @Qoo <|
 aI @QBg <| aI @QBV <| aI @QEy <| aI @QDQ <| aI @n_r <| aI @n_s <| aI @QR7 <| aI @QTg <| aI @QVK <|
 aI @QNQ <| aI @QFt <| aI @QAU <| aI @QFU <| aI @Qx4 <| aI @QGW <| aI @QKZ <| aI @QFy <| aI @QDO <| aI @QDo <|
 aI @getD_some <| aI @Qkg <| aI @QwR <| aI @QyO <| aI @QyQ @QDh
def evB := aI @Qpn <| aI @Qpl <| aI @QRA <| aI @QT6 <| aI @QVb <| aI @QSM <| aI @QS7 <| aI @QQG <| aI @QTx <| aI @QVc <| aI @QQs <| aI @QQE <| aI @QR8 <| aI @QVv <| aI @QQ3 <| aI @QSN <| aI @QQA <| aI @QUI <| aI @QVm <| aI @QUF <| aI @QQd <| aI @QI6 <| aI @QzL <| aI @QDz <| aI @QxT <| aI @QDB <| aI @QNX <| aI @QLR <| aI @QL4 <| aI @QOT <| aI @QNO <| aI @QUU <| aI @c_K <| aI @QLt <| aI @QPD <| aI @QT5 <| aI @s_v <| aI @v_j <| aI @v_s <| aI @QJ9 <| aI @QOP <| aI @QxB <| aI @p_0 <| aI @p_e <| aI @p_s <| aI @p_n <| aI @p_z <| aI @p_a <| aI @QQZ <| aI @QSr <| aI @QTF <| aI @QQU <| aI @QTG <| aI @QTC <| aI @QT0 <| aI @QRF <| aI @QOX <| aI @Qm3 <| aI @Qoo <| aI @Qkg <| aI @getD_some <| aI @n_c <| aI @QOA <| aI @QLP <| aI @QKw <| aI @QOW <| aI @n_g <| aI @QH2 <| aI @QLH <| aI @QNj <| aI @QDQ <| aI @n_r <| aI @n_s <| aI @QCC <| aI @QAP <| aI @QCD <| aI @QqI <| aI @QqN <| aI @VK <| aI @Qjj <| aI @Qyx <| aI @Qzp <| aI @QuF <| aI @QD1 <| aI @QEg <| aI @QDO <| aI @QDo <| aI @getD_some <| aI @Qkg <| aI @QwF <| aI @Qyy <| aI @QxC <| aI @QwK <| aI @V0 <| aI @QH9 <| aI @QLO <| aI @c_M <| aI @QRk <| aI @QQR <| aI @QRe <| aI @QT9 <| aI @QSJ <| aI @QM4 <| aI @QNv <| aI @QGp <| aI @QHs <| aI @QAx <| aI @QCi <| aI @QE6 <| aI @QAW <| aI @Qy8 <| aI @QIq <| aI @QIL <| aI @Qzh <| aI @QFg <| aI @QFV <| aI @QIy <| aI @QE1 <| aI @QGy <| aI @QEN <| aI @Qzl <| aI @QwI <| aI @Qu7 <| aI @QuW <| aI @QJ7 <| aI @QMC <| aI @QSs <| aI @QVi <| aI @QUp <| aI @QSV <| aI @QQI <| aI @QSq <| aI @s_w <| aI @w_j <| aI @w_s <| aI @QUS <| aI @QR2 <| aI @QMj <| aI @QEZ <| aI @QQz <| aI @QUh <| aI @QLg <| aI @QTa <| aI @QSP <| aI @QVp <| aI @QRi <| aI @QO3 <| aI @QFS <| aI @QRo <| aI @QTD <| aI @QNx <| aI @QUV <| aI @QSj <| aI @QUj <| aI @QRy <| aI @QUy <| aI @QR4 <| aI @QRL <| aI @QUP <| aI @QUW <| aI @QUf <| aI @QVz <| aI @QOD <| aI @QMY <| aI @QVt <| aI @QTB <| aI @QSQ <| aI @QT1 <| aI @QVB <| aI @QTu <| aI @QUq <| aI @QSb <| aI @QVq <| aI @QRc <| aI @QUG <| aI @QVC <| aI @QRD <| aI @QSX <| aI @QTm <| aI @QTq <| aI @QTA <| aI @QTK <| aI @QSR <| aI @QVY <| aI @QRm <| aI @QRS <| aI @QV3 <| aI @QSS <| aI @QRX <| aI @QSn <| aI @QNt <| aI @QOq <| aI @QM2 <| aI @QPs <| aI @QVe <| aI @QTP <| aI @QSD <| aI @QST <| aI @QU2 <| aI @QQq <| aI @QSL <| aI @QI2 <| aI @QJX <| aI @QPI <| aI @QND <| aI @QVV <| aI @QRP <| aI @QU8 <| aI @QSW <| aI @QNq <| aI @QR5 <| aI @QQ7 <| aI @QKk <| aI @QN4 <| aI @QUl <| aI @QRz <| aI @QNC <| aI @QPh <| aI @QNY <| aI @QOH <| aI @QI9 <| aI @Bool.true_or <| aI @Bool.false_or <| aI @QU6 <| aI @QTd <| aI @QUu <| aI @QTc <| aI @QTf <| aI @QRa <| aI @QSc <| aI @QVl <| aI @w_p <| aI @QS8 <| aI @w_x <| aI @w_n <| aI @QDC <| aI @QKl <| aI @QOd <| aI @QyO <| aI @QG5 <| aI @QTT <| aI @QuM <| aI @Qtm <| aI @s_t <| aI @s_q <| aI @s_f <| aI @QSa <| aI @QMV <| aI @QEv <| aI @QSd <| aI @QK5 <| aI @QGB <| aI @QsY <| aI @QEJ <| aI @QFP <| aI @QOg <| aI @QNH <| aI @QJR <| aI @QGs <| aI @QNf <| aI @QOJ <| aI @QIs <| aI @QtS <| aI @QwR <| aI @QyQ <| aI @Qm3 <| aI @Qi9 <|
 aI @QJB <| aI @QKc <| aI @QTL <| aI @QRB <| aI @QFH <| aI @QGH <| aI @QF7 <| aI @QBp <| aI @QvT <| aI @QzG <| aI @Qxz <| aI @QyU <| aI @QpR <| aI @QKY <| aI @QOm <| aI @QUH <| aI @QN0 <|
 aI @QD8 <| aI @QJY <| aI @QNl <| aI @QNZ <| aI @QP5 <| aI @QPb <| aI @QOh <| aI @QO9 <| aI @QNI <| aI @QJu <| aI @QLu <| aI @QJM <| aI @QMn <| aI @QPU <| aI @QPo <| aI @QKQ <| aI @QPY <| aI @QPx <|
 aI @QJs <| aI @QLD <| aI @QLT <| aI @QNw <| aI @QHO <| aI @QHK <| aI @QED <| aI @QFY <| aI @QHF <| aI @QPN <| aI @QFG <| aI @QOB <| aI @QK4 <| aI @QPt <| aI @QOE <| aI @QGc <| aI @QHo <| aI @QFO <| aI @QGv <| aI @QEA <| aI @QGl <| aI @QGg <| aI @QHh <| aI @QKH <| aI @QEG <|
 aI @QC1 <| aI @QBF <| aI @QAX <| aI @QNy <| aI @QCL <| aI @QON <| aI @QR6 <| aI @QHw <| aI @QpC <| aI @QMq <| aI @QMJ <|
 aI @QOF <| aI @QOK <| aI @QGY <| aI @QEu <| aI @QKF <| aI @QEp <| aI @QET <| aI @QHq <| aI @QB1 <| aI @QAp <| aI @QCb <| aI @QBc <|
 aI @QFZ <| aI @QP2 <| aI @QG2 <| aI @QHj <| aI @QHI <| aI @QA3 <| aI @QIx <| aI @QFc <| aI @QFu <| aI @QGm <| aI @QyT <| aI @QxS <| aI @QBn <| aI @Qxt <| aI @Qx8 <| aI @QF6 <| aI @QN8 <| aI @QFE <| aI @QG6 <| aI @QQc <| aI @QFI <|
 aI @QVx <| aI @m_c <| aI @QFm <| aI @QEL <| aI @QFL <| aI @QHm <| aI @QNJ <| aI @QOe <| aI @QPW <| aI @QAr <| aI @QBC <| aI @QCt <|
 aI @QAz <| aI @QKN <| aI @QA6 <| aI @QCp <| aI @QCr <| aI @QUc <| aI @QHn <| aI @QFh <| aI @QHl <| aI @QFX <|
 aI @QJq <| aI @QMf <| aI @QLk <| aI @QQb <| aI @QCv <| aI @QAR <| aI @QGk <| aI @QAv <| aI @QRE <| aI @QNu <| aI @QIH <| aI @QIo <| aI @QOG <| aI @QCS <| aI @QNb <|
 aI @QAK <| aI @Qw1 <| aI @QzK <| aI @QE2 <| aI @QHE <| aI @QSI <| aI @QJw <| aI @QQl <| aI @QH1 <| aI @QK3 <| aI @QPK <| aI @QJD <| aI @QN5 <| aI @QGr <| aI @QKJ <| aI @QQk <| aI @QNc <| aI @QIR <| aI @QPa <| aI @QVf <| aI @QQV <| aI @QS4 <| aI @QVj <| aI @QRG <| aI @QVL <| aI @QUY <| aI @QTO <| aI @QUm <| aI @QTp <| aI @QV0 <| aI @QTY <| aI @QRY <| aI @QTt <| aI @QV2 <| aI @QSx <| aI @QKb <| aI @QNg <| aI @QKp <| aI @QEF <| aI @QHt <| aI @QEl <| aI @QFK <| aI @QG1 <| aI @QAa <| aI @Qw7 <| aI @QVO <|
 aI @QPC <| aI @QKe <| aI @QFs <| aI @Qme <| aI @QsX <| aI @QJP <| aI @QNr <| aI @QGe <| aI @x_b <| aI @x_i <| aI @x_s <| aI @QIO <| aI @QPZ <| aI @QPd <| aI @QQD <| aI @QI0 <| aI @QE9 <| aI @QzY <| aI @QQF <|
 aI @QNG <| aI @QGZ <| aI @QF5 <| aI @QKn <| aI @QMo <| aI @QSm <| aI @QE5 <| aI @QGQ <| aI @QH4 <| aI @QPf <| aI @QKd <| aI @QKg <| aI @QO6 <| aI @QLl <| aI @QHf <| aI @QGa <|
 aI @QEn <| aI @QBK <| aI @QA7 <| aI @QAM <| aI @QAO <| aI @QG8 <| aI @QNs <| aI @QPi <| aI @QL2 <| aI @QO7 <| aI @QAf <| aI @Qxo <| aI @QGI <| aI @QF0 <| aI @QEQ <| aI @QEz <| aI @QFq <|
 aI @l_0 <| aI @l_s <| aI @QRt <| aI @QIB <| aI @QPX <| aI @QJL <| aI @QE0 <| aI @QGU <| aI @QHJ <| aI @QHN <| aI @QRx <| aI @QQ4 <| aI @QRZ <| aI @QQK <| aI @QVk <| aI @QFo <| aI @QKv <| aI @QNV <| aI @QNW <| aI @l_b <| aI @l_i <| aI @QR9 <| aI @l_n <| aI @QM9 <| aI @QBv <| aI @QBx <| aI @QGw <| aI @QGE <| aI @QQr <| aI @QRN <| aI @QUQ <| aI @QT3 <| aI @QFl <| aI @QGD <|
 aI @QKo <| aI @QJ8 <| aI @QN7 <| aI @i_b <| aI @i_i <| aI @QTb <| aI @i_n <| aI @QV1 <| aI @QTZ <| aI @QDh <| aI @QLA <|
 aI @QOs <| aI @QFw <| aI @QK9 <| aI @QR1 <| aI @s_b <| aI @QRv <| aI @QUZ <| aI @QUz <| aI @QUk <| aI @QRq <| aI @QRW <| aI @QUL <| aI @QVA <| aI @QSB <| aI @QRw <| aI @QE4 <| aI @QJJ <| aI @QTN <| aI @QTw <|
 aI @QM0 <| aI @QLS <| aI @QLW <| aI @QNA <| aI @QJa <| aI @QBs <| aI @QG4 <| aI @QK0 <| aI @QI3 <| aI @QMp <|
 aI @QNE <| aI @QMa <| aI @QS3 <| aI @QC9 <| aI @a_1 <| aI @a_2 <| aI @a_3 <| aI @a_4 <| aI @QT8 <| aI @QVR <| aI @QTo @QUg
def evT := aI @QpS <| aI @QFJ <| aI @QLv <| aI @QQL <| aI @Qp3 <| aI @QOM <| aI @QHp <| aI @QGh <| aI @QwL <| aI @QLe <| aI @Qw4 <| aI @QA1 <| aI @Qxl <| aI @QyJ <| aI @QMy <| aI @QvZ <| aI @Qvl <| aI @QvL <| aI @Qrg <| aI @QyC <| aI @Qqw <| aI @Qz4 @Qz2
def evN := aI @VK <| aI @List.contains_nil <| aI @Bool.not_false <| aI @Bool.and_true <| aI @List.length_append <| aI @List.length_cons <| aI @List.length_nil <| aI @Nat.zero_add <| aI @VL <| @V0
end Go.Proofs.YtponohekgnklkaaGreat.Am
