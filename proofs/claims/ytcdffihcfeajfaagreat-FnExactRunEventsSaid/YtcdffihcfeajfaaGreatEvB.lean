import Derived.Test.YtcdffihcfeajfaaGreatEvA
namespace Go.Proofs.YtcdffihcfeajfaaGreat.Am
open Go
set_option linter.unusedVariables false
set_option linter.unusedSimpArgs false
section
variable {β : Type}
theorem Qdt {α : Type} {p : Prop} [Decidable p] {b : Bool} (h : b = true ↔ p) (x y : α) : (if p then x else y) = cond b x y := by
 cases b with
 | true => rw [if_pos (h.1 rfl)]; rfl
 | false => rw [if_neg (fun hp => by have := h.2 hp; cases this)]; rfl
theorem Qnh {m n : Nat} : Nat.blt m n = true ↔ m < n := by rw [Nat.blt_eq]
theorem QjR {m n : Nat} : Nat.ble m n = true ↔ m ≤ n := by rw [Nat.ble_eq]
def sel {α : Type} (b : Bool) (x y : α) (_ : Lk (x, y)) : α := cond b x y
theorem QBk {α : Type} (x y : α) (l) : sel true x y l = x := _root_.id rfl
theorem QDK {α : Type} (x y : α) (l) : sel false x y l = y := _root_.id rfl
theorem QF8 (v) (k : AV → Option β) (l) : QmO v k l = k v := _root_.id rfl
theorem QAq (K) (k : KS → Option β) (l) : V3 K k l = k K := _root_.id rfl
theorem QO2 (f : Fr) (d : Nat) (v : AV) (t : Nat) : up f d v t = sel (d == t) v (f t) () := by
 unfold up sel
 by_cases h : t = d
 ·simp [h]
 ·have : (d == t) = false := by simp; exact fun h' => h h'.symm
  simp [h, this]
theorem QLD (m n : Nat) : Nat.ble m n = decide (m ≤ n) := by rw [Bool.eq_iff_iff, Nat.ble_eq]; simp
theorem QLh (m n : Nat) : Nat.blt m n = decide (m < n) := by rw [Bool.eq_iff_iff, Nat.blt_eq]; simp
theorem QS5 (h : Decidable True) : @decide True h = true := by simp
theorem QUt (h : Decidable False) : @decide False h = false := by simp
theorem QGG (m n : Nat) (f : Fr) (t : Nat) : Qv3 m n f t = sel (Nat.ble m t && Nat.blt t n) .u (f t) () := _root_.id rfl
theorem QwF (t : Nat) : frm [] t = .u := _root_.id rfl
theorem QtP (d : Nat) (v : AV) (l : List (Nat × AV)) (t : Nat) : frm ((d, v) :: l) t = sel (d == t) v (frm l t) () := by
 show up (frm l) d v t = _; exact QO2 _ _ _ _
theorem QuC (t : Nat) : VQ [] t = .u := by simp [VQ]
theorem Qr7 (v : AV) (l : List AV) : VQ (v :: l) 0 = v := _root_.id rfl
theorem Qsm (v : AV) (l : List AV) (t : Nat) : VQ (v :: l) (t + 1) = VQ l t := _root_.id rfl
theorem Qzq (f : Fr) (t : Tmp) : ev f (.tmp t) = f t := _root_.id rfl
theorem QuD (f : Fr) (v : Value) : ev f (.const v) = cv v := _root_.id rfl
theorem QwJ (f : Fr) (g : FuncId) : ev f (.func g) = .clo g [] := _root_.id rfl
theorem Qws (b : Bool) : cv (.bool b) = .b b := _root_.id rfl
theorem QzU (k : IntKind) (i : Int) : cv (.int k i) = .i k i := _root_.id rfl
theorem QxI (x : ByteArray) : cv (.string x) = .s x.data.toList := _root_.id rfl
theorem QwY : cv (.slice none 0 0) = .nil := _root_.id rfl
theorem Qs2 {α : Type} (x y : α) : cond true x y = x := _root_.id rfl
theorem Qso {α : Type} (x y : α) : cond false x y = y := _root_.id rfl
theorem VF (q : Option β) (l) : Vi true q l = q := _root_.id rfl
def VR {ρ δ γ : Type} (o : Option (Fl ρ δ)) (p : ρ → γ) (q : δ → γ) : Option γ := o.map (evO p q)
theorem QqG {ρ δ γ : Type} (o : Option (Fl ρ δ)) (p : ρ → γ) (q : δ → γ) (k : γ → Option β) (l) : Ju (VR o p q) k l = o.bind (evO (fun r => k (p r)) (fun r => k (q r))) := by
 cases o with
 | none => rfl
 | some o => cases o <;> rfl
theorem QjG {α : Type} (x : α) (k : α → Option β) (l) : Ju (some x) k l = k x := _root_.id rfl
theorem Qqw {α : Type} (k : α → Option β) (l) : Ju (none : Option α) k l = none := _root_.id rfl
theorem Qrd {α : Type} (b : Bool) (q : Option α) (k : α → Option β) (l) (l') : Ju (Vi b q l') k l = Vi b (Ju q k l) () := by cases b <;> rfl
theorem QsB {α γ : Type} (o : Option γ) (e : γ → α) (k : α → Option β) (l) : Ju (o.map e) k l = o.bind (fun r => k (e r)) := by cases o <;> rfl
theorem QoS {α : Type} (i) : lk ([] : List (Nat × α)) i = none := _root_.id rfl
theorem QpP {α : Type} (i) (x : α) (l j) : lk ((i, x) :: l) j = sel (i == j) (some x) (lk l j) () := _root_.id rfl
end
section
variable {β : Type} {P : Program} {D : Orc} {a : Ann} {f : Fr} {K : KS} {Q : KT β} {k : AV → KS → Option β}
theorem QGa (l) : VK P D a .skip Q f K l = Q .normal f K := _root_.id rfl
theorem QJT (l) : VK P D a .ret Q f K l = Q .ret f K := _root_.id rfl
theorem QFb (id l) : VK P D a (.exit id) Q f K l = Q (.exit id) f K := _root_.id rfl
theorem QIS (x y l) : VK P D a (.seq x y) Q f K l = VK P D a x (Qsw (fun f K => VK P D a y Q f K ()) Q) f K () := _root_.id rfl
def QJJ (v : AV) (x y : Option β) (_ : Lk (x, y)) : Option β := match v with | .b b => cond b x y | _ => none
theorem QGZ (c x y l) : VK P D a (.cond c x y) Q f K l = QJJ (ev f c) (VK P D a x Q f K ()) (VK P D a y Q f K ()) () := _root_.id rfl
theorem QMv (b) (x y : Option β) (l) : QJJ (.b b) x y l = cond b x y := _root_.id rfl
theorem QDZ (id c l) : VK P D a (.block id c) Q f K l = VK P D a c (Qwr id Q) f K () := _root_.id rfl
theorem Qx6 (id ol l) : VK P D a (.region id (List.toArray ol) false) Q f K l = ofz (lk a.fz id) f K (fun f K => Qjw P D a id (lk a.av id) (List.toArray ol) Q f K ()) () := _root_.id rfl
theorem QR4 (f : Fr) (K : KS) (k : Fr → KS → Option β) (l) : ofz none f K k l = k f K := _root_.id rfl
theorem QSl (f : Fr) (K : KS) (ss) (k : Fr → KS → Option β) (l) : ofz (some ss) f K k l = Qsh ss f K k () := _root_.id rfl
theorem QUi (f : Fr) (K : KS) (k : Fr → KS → Option β) (l) : Qsh [] f K k l = k f K := _root_.id rfl
theorem QTv (f : Fr) (K : KS) (s ss) (k : Fr → KS → Option β) (l) : Qsh (s :: ss) f K k l = QCc s (f s) f K (fun f K => Qsh ss f K k ()) () := _root_.id rfl
theorem QRp (f : Fr) (K : KS) (s j) (k : Fr → KS → Option β) (l) : QCc s (.sl j) f K k l = QAB s j (kg K j) f K k () := _root_.id rfl
theorem QU6 (f : Fr) (K : KS) (s j m rows) (k : Fr → KS → Option β) (l) : QAB s j (some (.lst m rows)) f K k l = Vi (QbL rows) (k (up f s (.imm m rows)) (K.set j none)) () := _root_.id rfl
theorem QN8 (id ol l) : Qjw P D a id none (List.toArray ol) Q f K l = QsY P D a id (lk a.an id) (List.toArray ol) ol Q f K () := _root_.id rfl
theorem QKj (id vs ol l) : Qjw P D a id (some vs) (List.toArray ol) Q f K l = Z1 vs P D (List.toArray ol) ol f K (fun f K => Q .normal f K) () := _root_.id rfl
theorem QGc (vs ops) (k : Fr → KS → Option β) (l) : Z1 vs P D ops [] f K k l = k f K := _root_.id rfl
theorem QB2 (vs ops d o t p af r) (k : Fr → KS → Option β) (l) : Z1 vs P D ops (⟨some d, o, t, p, af, none⟩ :: r) f K k l = Qmz vs P D o f K (fun v K' => QmO v (fun v => Z1 vs P D ops r (up f d v) K' k ()) ()) () := _root_.id rfl
theorem QxM (vs ops o t p af r) (k : Fr → KS → Option β) (l) : Z1 vs P D ops (⟨none, o, t, p, af, none⟩ :: r) f K k l = Qmz vs P D o f K (fun v K' => Z1 vs P D ops r f K' k ()) () := _root_.id rfl
theorem QQW (vs ops r) (k : Fr → KS → Option β) (d op t pos after j want l) : Z1 vs P D ops (⟨some d, op, t, pos, after, some (j, want)⟩ :: r) f K k l =
  ogd ((ops[j]?).bind (·.dst)) want f (fun f => Qmz vs P D op f K (fun v K' => QmO v (fun v => Z1 vs P D ops r (up f d v) K' k ()) ()) ()) (fun f => QmO (.tup []) (fun v => Z1 vs P D ops r (up f d v) K k ()) ()) () := _root_.id rfl
theorem QPf (vs ops r) (k : Fr → KS → Option β) (op t pos after j want l) : Z1 vs P D ops (⟨none, op, t, pos, after, some (j, want)⟩ :: r) f K k l =
  ogd ((ops[j]?).bind (·.dst)) want f (fun f => Qmz vs P D op f K (fun v K' => Z1 vs P D ops r f K' k ()) ()) (fun f => Z1 vs P D ops r f K k ()) () := _root_.id rfl
def QfM : Op → Bool
 | .call ⟨.value (.func _), _, _⟩ => true
 | _ => false
theorem QU5 (vs o l) (k : AV → KS → Option β) (h : QfM o = false) : Qmz vs P D o f K k l = oop P D o f K k () := by
 unfold QfM at h
 unfold Qmz
 split
 ·cases h
 ·rfl
theorem QPi (vs g args ts l) (k : AV → KS → Option β) : Qmz vs P D (.call ⟨.value (.func g), args, ts⟩) f K k l = cond (vs.contains g) (Qef P D (.call ⟨.value (.func g), args, ts⟩) f K k ()) (oop P D (.call ⟨.value (.func g), args, ts⟩) f K k ()) := _root_.id rfl
theorem QAo (x args ts) : QfM (.call ⟨.value (.tmp x), args, ts⟩) = false := _root_.id rfl
theorem QMX (b args ts) : QfM (.call ⟨.builtin b, args, ts⟩) = false := _root_.id rfl
theorem QCL (x) : QfM (.move x) = false := _root_.id rfl
theorem QGg (x) : QfM (.assign x) = false := _root_.id rfl
theorem QCF (t x) : QfM (.load t x) = false := _root_.id rfl
theorem Qx7 (t x y) : QfM (.store t x y) = false := _root_.id rfl
theorem QMq (t x i) : QfM (.fieldAddr t x i) = false := _root_.id rfl
theorem QIx (t x i) : QfM (.indexAddr t x i) = false := _root_.id rfl
theorem QFa (x i) : QfM (.extract x i) = false := _root_.id rfl
theorem QGL (o t x y u) : QfM (.binOp o t x y u) = false := _root_.id rfl
theorem QJC (o t x) : QfM (.unOp o t x) = false := _root_.id rfl
theorem QD8 (c x y) : QfM (.pick c x y) = false := _root_.id rfl
theorem QzM (t ps) : QfM (.build t ps) = false := _root_.id rfl
theorem QNn (t n ps) : QfM (.buildSlice t n ps) = false := _root_.id rfl
theorem Qy0 (t) : QfM (.alloc t) = false := _root_.id rfl
theorem QGM (t x) : QfM (.box t x) = false := _root_.id rfl
theorem QGo (t x lo hi m) : QfM (.slice t x lo hi m) = false := _root_.id rfl
theorem QFM (t x i) : QfM (.index t x i) = false := _root_.id rfl
theorem QK2 (s t x) : QfM (.convert s t x) = false := _root_.id rfl
theorem Qvp (id ops ol l) : QsY P D a id none ops ol Q f K l = QsO P D a id (lk a.ac id) ops ol Q f K () := _root_.id rfl
theorem Qvg (id us ops ol l) : QsY P D a id (some us) ops ol Q f K l = QiK P D ops us ol f K (fun f K => Q .normal f K) () := _root_.id rfl
theorem QuX (id ops ol l) : QsO P D a id none ops ol Q f K l = QnE P D a id ops ol Q f K () := _root_.id rfl
theorem Qu5 (id x ops ol l) : QsO P D a id (some x) ops ol Q f K l = QgB P D ops ol f K (fun f K => Q .normal f K) () := _root_.id rfl
theorem QHz (ops) (k : Fr → KS → Option β) (l) : QgB P D ops [] f K k l = k f K := _root_.id rfl
theorem QEa (ops d o t p af r) (k : Fr → KS → Option β) (l) : QgB P D ops (⟨some d, o, t, p, af, none⟩ :: r) f K k l = Qef P D o f K (fun v K' => QmO v (fun v => QgB P D ops r (up f d v) K' k ()) ()) () := _root_.id rfl
theorem QyI (ops o t p af r) (k : Fr → KS → Option β) (l) : QgB P D ops (⟨none, o, t, p, af, none⟩ :: r) f K k l = Qef P D o f K (fun v K' => QgB P D ops r f K' k ()) () := _root_.id rfl
theorem QBu (x l) : Qef P D (.move x) f K k l = oop P D (.move x) f K k () := _root_.id rfl
theorem QwL (x l) : Qef P D (.assign x) f K k l = oop P D (.assign x) f K k () := _root_.id rfl
theorem QCf (t x l) : Qef P D (.load t x) f K k l = oop P D (.load t x) f K k () := _root_.id rfl
theorem Qx0 (t x y l) : Qef P D (.store t x y) f K k l = oop P D (.store t x y) f K k () := _root_.id rfl
theorem QLp (t x i l) : Qef P D (.fieldAddr t x i) f K k l = oop P D (.fieldAddr t x i) f K k () := _root_.id rfl
theorem QM1 (t x i l) : Qef P D (.indexAddr t x i) f K k l = oop P D (.indexAddr t x i) f K k () := _root_.id rfl
theorem QF6 (x i l) : Qef P D (.extract x i) f K k l = oop P D (.extract x i) f K k () := _root_.id rfl
theorem QFg (o t x y u l) : Qef P D (.binOp o t x y u) f K k l = oop P D (.binOp o t x y u) f K k () := _root_.id rfl
theorem QzO (t ps l) : Qef P D (.build t ps) f K k l = oop P D (.build t ps) f K k () := _root_.id rfl
theorem QNf (o t x l) : Qef P D (.unOp o t x) f K k l = oop P D (.unOp o t x) f K k () := _root_.id rfl
theorem QCK (c x y l) : Qef P D (.pick c x y) f K k l = oop P D (.pick c x y) f K k () := _root_.id rfl
theorem QxA (t l) : Qef P D (.alloc t) f K k l = oop P D (.alloc t) f K k () := _root_.id rfl
theorem QGO (t x lo hi m l) : Qef P D (.slice t x lo hi m) f K k l = oop P D (.slice t x lo hi m) f K k () := _root_.id rfl
theorem QGK (t x i l) : Qef P D (.index t x i) f K k l = oop P D (.index t x i) f K k () := _root_.id rfl
theorem QLV (b xs ts l) : Qef P D (.call ⟨.builtin b, xs, ts⟩) f K k l = oop P D (.call ⟨.builtin b, xs, ts⟩) f K k () := _root_.id rfl
theorem QJ5 (s t x l) : Qef P D (.convert s t x) f K k l = oop P D (.convert s t x) f K k () := _root_.id rfl
theorem QFD (t x l) : Qef P D (.box t x) f K k l = oop P D (.box t x) f K k () := _root_.id rfl
def QvV (b c d e : Bool) (D : Orc) (g : FuncId) (K : KS) (vs : List AV) (k : AV → KS → Option β) (_ : Lk (vs, k)) : Option β := cond b (Qqh K vs k ()) (cond c (Qos K vs k ()) (cond d (QlV D g K vs k ()) (cond e (QiX D g K vs k ()) (Qgz D g K vs k ()))))
theorem QCi (x xs ts l) : Qef P D (.call ⟨.value x, List.toArray xs, ts⟩) f K k l = QtD (ev f x) (fun g caps => QvV (D.s g) (D.q g) (D.w g) (D.v g) D g K (xs.map (ev f) ++ caps) k ()) () := _root_.id rfl
theorem s_t (g c d e) (K : KS) (vs) (k : AV → KS → Option β) (l) : QvV true c d e D g K vs k l = Qqh K vs k () := _root_.id rfl
theorem s_q (g d e) (K : KS) (vs) (k : AV → KS → Option β) (l) : QvV false true d e D g K vs k l = Qos K vs k () := _root_.id rfl
theorem s_f (g) (K : KS) (vs) (k : AV → KS → Option β) (l) : QvV false false false false D g K vs k l = Qgz D g K vs k () := _root_.id rfl
theorem s_w (g e) (K : KS) (vs) (k : AV → KS → Option β) (l) : QvV false false true e D g K vs k l = Qnb D g K (Qfu vs) vs k () := _root_.id rfl
theorem w_j (g) (K : KS) (js vs) (k : AV → KS → Option β) (l) : Qnb D g K js vs k l = Vi (ndB js) (Qnm D g K js (Qd3 js vs) k ()) () := _root_.id rfl
theorem w_s (g) (K : KS) (js cs) (k : AV → KS → Option β) (l) : Qnm D g K js (some cs) k l = Vi (QmD (Zn K js)) (Ju (D.a g (Zn K js) cs) (fun r => k r.1 (J3 K js r.2)) ()) () := _root_.id rfl
theorem s_v (g) (K : KS) (vs) (k : AV → KS → Option β) (l) : QvV false false false true D g K vs k l = Qnk D g K (Qfu vs) vs k () := _root_.id rfl
theorem v_j (g) (K : KS) (js vs) (k : AV → KS → Option β) (l) : Qnk D g K js vs k l = Vi (ndB js) (Qne D g K js (Qd3 js vs) k ()) () := _root_.id rfl
theorem v_s (g) (K : KS) (js cs) (k : AV → KS → Option β) (l) : Qne D g K js (some cs) k l = Vi (QmD (Zn K js)) (Ju (D.m g (Zn K js) cs) (fun x => k (VH K.length x).1 (J3 K js (Qbc js) ++ (VH K.length x).2)) ()) () := _root_.id rfl
theorem QIO : Qbc [] = [] := _root_.id rfl
theorem QJV (j js) : Qbc (j :: js) = none :: Qbc js := _root_.id rfl
theorem p_0 (vs) : Qpn [] vs = vs := by cases vs <;> rfl
theorem p_e (ss) : Qpn ss [] = [] := by cases ss <;> rfl
theorem p_s (s ss v vs) : Qpn (s :: ss) (v :: vs) = Qtp s v :: Qpn ss vs := _root_.id rfl
theorem p_n (v) : Qtp .n v = v := by cases v <;> rfl
theorem p_z (k v) : Qtp (.z k) v = nic k v := by cases v <;> rfl
theorem p_a (ns cs) : Qtp (.a ns) (.agg cs) = .agg (ni ns cs) := _root_.id rfl
theorem QSm (cs) : ni [] cs = cs := by cases cs <;> rfl
theorem QRs (n ns c cs) : ni (n :: ns) (c :: cs) = nic n c :: ni ns cs := _root_.id rfl
theorem QTw (n) : nic (n + 1) .nil = .imm (n + 1) [] := _root_.id rfl
theorem QQm : nic 0 .nil = .nil := _root_.id rfl
theorem QQa (n c x) : nic n (.i c x) = .i c x := _root_.id rfl
theorem QVe (n x) : nic n (.b x) = .b x := _root_.id rfl
theorem QRU (n x) : nic n (.s x) = .s x := _root_.id rfl
theorem QUv (n m r) : nic n (.imm m r) = .imm m r := _root_.id rfl
theorem QVj : Qfu [] = [] := _root_.id rfl
theorem QUN (c cs) : Qfu (c :: cs) = Qpu c ++ Qfu cs := _root_.id rfl
theorem QN7 (j) : Qpu (.sl j) = [j] := _root_.id rfl
theorem QGp (cs) : Qpu (.agg cs) = Qfu cs := _root_.id rfl
theorem QQY (c n) : Qpu (.i c n) = [] := _root_.id rfl
theorem QVb (x) : Qpu (.b x) = [] := _root_.id rfl
theorem QPs (x) : Qpu (.s x) = [] := _root_.id rfl
theorem QTO : Qpu .nil = [] := _root_.id rfl
theorem QSj (n r) : Qpu (.imm n r) = [] := _root_.id rfl
theorem QUE (g l) : Qpu (.clo g l) = [] := _root_.id rfl
theorem QUP (js) : Qd3 js [] = some [] := _root_.id rfl
theorem QRw (js c cs) : Qd3 js (c :: cs) = (Qd1 js c).bind fun c' => (Qd3 js cs).map (c' :: ·) := _root_.id rfl
theorem QKZ (js j) : Qd1 js (.sl j) = (Qdn js j).map .sl := _root_.id rfl
theorem QE6 (js cs) : Qd1 js (.agg cs) = (Qd3 js cs).map .agg := _root_.id rfl
theorem QSs (js c n) : Qd1 js (.i c n) = some (.i c n) := _root_.id rfl
theorem QRt (js x) : Qd1 js (.b x) = some (.b x) := _root_.id rfl
theorem QPd (js x) : Qd1 js (.s x) = some (.s x) := _root_.id rfl
theorem QP6 (js) : Qd1 js .nil = some .nil := _root_.id rfl
theorem QRA (js n r) : Qd1 js (.imm n r) = some (.imm n r) := _root_.id rfl
theorem QP2 (js g) : Qd1 js (.clo g []) = some (.clo g []) := _root_.id rfl
theorem Qlc (x y : Nat) : Nat.beq x y = (x == y) := by rw [Bool.eq_iff_iff]; simp
theorem QTs (x l j) : Qdn (x :: l) j = sel (x == j) (some 0) ((Qdn l j).map (· + 1)) () := by rw [← Qlc]; rfl
theorem QR9 (K) : Zn K [] = [] := _root_.id rfl
theorem QTS (K j js) : Zn K (j :: js) = kg K j :: Zn K js := _root_.id rfl
theorem QRr (K es) : J3 K [] es = K := by cases es <;> rfl
theorem QSB (K j js e es) : J3 K (j :: js) (e :: es) = J3 (K.set j e) js es := _root_.id rfl
theorem QSO : QmD [] = true := _root_.id rfl
theorem QTp (n r K) : QmD (some (.lst n r) :: K) = QmD K := _root_.id rfl
theorem QR6 (c n) : AV.scal (.i c n) = true := _root_.id rfl
theorem QQE (x) : AV.scal (.b x) = true := _root_.id rfl
theorem QRu (x) : AV.scal (.s x) = true := _root_.id rfl
theorem QSG (c n) : AV.flat (.i c n) = true := _root_.id rfl
theorem QT5 (x) : AV.flat (.b x) = true := _root_.id rfl
theorem QQG (x) : AV.flat (.s x) = true := _root_.id rfl
theorem QQX : AV.flat (.tup []) = true := _root_.id rfl
theorem QVk : Qzp .one = true := _root_.id rfl
theorem w_p (x g j i o) (k : AV → KS → Option β) (l) : onp D f K (.ptr j i o) x g k l = onj D f K x g j i o (kg K j) k () := _root_.id rfl
theorem QRE (x g j i o q r) (k : AV → KS → Option β) (l) : onj D f K x g j i o (some (.lst q r)) k l = onx D f K x g j i o q r ((QR r i).drop o) k () := _root_.id rfl
theorem w_x (x g j i o q r m rs cs) (k : AV → KS → Option β) (l) : onx D f K x g j i o q r (.own m rs :: cs) k l = Vi x.scal (Ju (D.a g [some (.lst m rs)] [.sl 0, x]) (fun s => onr D f K j i o q r s k ()) ()) () := _root_.id rfl
theorem QUG (u us ops d o t p af r) (k : Fr → KS → Option β) (l) : QiK P D ops (u :: us) (⟨some d, o, t, p, af, none⟩ :: r) f K k l = oop P D o f K (fun v K' => QmO v (fun v => QiK P D ops us r (up f d v) K' k ()) ()) () := _root_.id rfl
def QEp (d : Option Tmp) (v : AV) (f : Fr) (k : Fr → Option β) (_ : Lk (f, k)) : Option β := match d with
 | some d => QmO v (fun v => k (up f d v)) ()
 | none => k f
theorem QEL (d v f) (k : Fr → Option β) (l) : QEp (some d) v f k l = QmO v (fun v => k (up f d v)) () := _root_.id rfl
theorem QSQ (ops d t p y1 p1 a1 e x y2 p2 a2 dst g d' e' ts y3 p3 a3 r) (k : Fr → KS → Option β) (l) : QiK P D ops [] (⟨some d, .load t p, y1, p1, a1, none⟩ :: ⟨some e, .move x, y2, p2, a2, none⟩ :: ⟨dst, .call ⟨.value (.func g), List.toArray [.tmp d', .tmp e'], ts⟩, y3, p3, a3, none⟩ :: r) f K k l =
  Vi (Qzp (tk P t) && ((d == d') && ((e == e') && !(d == e)))) (onp D f K (ev f p) (ev (up f d (.sl K.length)) x) g (fun v K' => QEp dst v (up (up f d (.sl K.length)) e (ev (up f d (.sl K.length)) x)) (fun f => QgB P D ops r f K' k ()) ()) ()) () := by rw [← Qlc, ← Qlc, ← Qlc]; cases dst <;> rfl
theorem QNJ (a b l) : oop P D (.makeInterface a b) f K k l = none := _root_.id rfl
theorem QJI (a l) : oop P D (.panic a) f K k l = none := _root_.id rfl
theorem Qqm (t len ps l) : Qef P D (.buildSlice t len ps) f K k l = oop P D (.buildSlice t len ps) f K k () := _root_.id rfl
def QtL (o : Option (List Int)) (K : KS) (j : Nat) (k : AV → KS → Option β) (_ : Lk k) : Option β := match o with
 | some xs => Vi (decide (xs.length < 4611686018427387904)) (V3 (K.set j none ++ [some (.lst 1 ((JN xs).map cI))]) (fun K' => k (.sl K.length) K') ()) ()
 | none => none
def QxB (e : Option Ent) (K : KS) (j : Nat) (k : AV → KS → Option β) (_ : Lk k) : Option β := match e with
 | some (.lst 1 rows) => QtL (Qdy rows) K j k ()
 | _ => none
theorem QQJ (K : KS) (j) (k : AV → KS → Option β) (l) : Qos K [.sl j] k l = QxB (kg K j) K j k () := _root_.id rfl
theorem QN9 (r) (K : KS) (j) (k : AV → KS → Option β) (l) : QxB (some (.lst 1 r)) K j k l = QtL (Qdy r) K j k () := _root_.id rfl
theorem QFs (xs) (K : KS) (j) (k : AV → KS → Option β) (l) : QtL (some xs) K j k l = Vi (decide (xs.length < 4611686018427387904)) (V3 (K.set j none ++ [some (.lst 1 ((JN xs).map cI))]) (fun K' => k (.sl K.length) K') ()) () := _root_.id rfl
def QtQ (o : Option (List Int)) (K : KS) (j : Nat) (k : AV → KS → Option β) (_ : Lk k) : Option β := match o with
 | some xs => Vi (decide (xs.length < 4611686018427387904)) (V3 (K.set j (some (.lst 1 ((Qcs xs).map cI)))) (fun K => k (.tup []) K) ()) ()
 | none => none
def QxD (e : Option Ent) (K : KS) (j : Nat) (k : AV → KS → Option β) (_ : Lk k) : Option β := match e with
 | some (.lst 1 rows) => QtQ (Qdy rows) K j k ()
 | _ => none
theorem QTc (K : KS) (j) (k : AV → KS → Option β) (l) : Qqh K [.sl j] k l = QxD (kg K j) K j k () := _root_.id rfl
theorem QOd (r) (K : KS) (j) (k : AV → KS → Option β) (l) : QxD (some (.lst 1 r)) K j k l = QtQ (Qdy r) K j k () := _root_.id rfl
theorem QGm (xs) (K : KS) (j) (k : AV → KS → Option β) (l) : QtQ (some xs) K j k l = Vi (decide (xs.length < 4611686018427387904)) (V3 (K.set j (some (.lst 1 ((Qcs xs).map cI)))) (fun K => k (.tup []) K) ()) () := _root_.id rfl
theorem Quc : ∀ xs : List Int, Qdy (xs.map fun x => [.i .i64 x]) = some xs
 | [] => rfl
 | x :: xs => by rw [List.map_cons, Qdy, Quc xs]; rfl
noncomputable def Qxp (P : Program) (D : Orc) (a : Ann) (id : Nat) (ops : Array Oper) (o : Option (List Nat)) (Q : KT β) (f : Fr) (K : KS) (_ : Lk (ops, Q, f)) : Option β := QnE P D a id ops (QsH ops o) Q f K ()
theorem QCS (id ol l) : VK P D a (.region id (List.toArray ol) true) Q f K l = ofz (lk a.fz id) f K (fun f K => QkB P D a id (lk a.av id) (List.toArray ol) Q f K ()) () := _root_.id rfl
theorem QOJ (id ol l) : QkB P D a id none (List.toArray ol) Q f K l = Qs5 P D a id (lk a.eb id) (List.toArray ol) Q f K () := _root_.id rfl
theorem QL2 (id vs ol l) : QkB P D a id (some vs) (List.toArray ol) Q f K l = QrZ vs P D a id (lk a.ot id) (List.toArray ol) Q f K () := _root_.id rfl
theorem QLv (id vs ol l) : QrZ vs P D a id none (List.toArray ol) Q f K l = QuL vs P D (List.toArray ol) (lk a.ord id) Q f K () := _root_.id rfl
theorem QH7 (id vs t ops l) : QrZ vs P D a id (some t) ops Q f K l = Qcy vs P D ops t f K (fun f K => Q .normal f K) () := _root_.id rfl
theorem QOh (vs ol l) : QuL vs P D (List.toArray ol) none Q f K l = Z1 vs P D (List.toArray ol) ol f K (fun f K => Q .normal f K) () := _root_.id rfl
theorem QOf (id ops l) : Qs5 P D a id none ops Q f K l = Qhw P D a id ops (lk a.ot id) Q f K () := _root_.id rfl
noncomputable def QEA (P : Program) (D : Orc) (a : Ann) (id : Nat) (ol : List Oper) (Q : KT β) (f : Fr) (K : KS) (_ : Lk (Q, f)) : Option β := Qhw P D a id (List.toArray ol) (lk a.ot id) Q f K ()
theorem QID (id ds ol l) : Qs5 P D a id (some ds) (List.toArray ol) Q f K l = QEA P D a id (ol.map (X3 ds)) Q f K () := by
 show Qhw P D a id ((List.toArray ol).map (X3 ds)) (lk a.ot id) Q f K () = Qhw P D a id (List.toArray (ol.map (X3 ds))) (lk a.ot id) Q f K ()
 rw [List.map_toArray]
theorem c_M (id o r l) : QEA P D a id (o :: r) Q f K l = Qhw P D a id (List.toArray (o :: r)) (lk a.ot id) Q f K () := _root_.id rfl
theorem QNN (ds d t y p e g) : X3 ds ⟨d, .buildSlice t 0 (List.toArray []), y, p, e, g⟩ = ⟨d, .move (.const (.slice none 0 0)), y, p, e, g⟩ := _root_.id rfl
theorem QOY (ds d t m ps y p e g) : X3 ds ⟨d, .buildSlice t (m + 1) ps, y, p, e, g⟩ = ⟨d, .buildSlice t (m + 1) ps, y, p, e, g⟩ := _root_.id rfl
theorem QHA (ds d s x ts y p e g) : X3 ds ⟨d, .call ⟨.builtin .append, List.toArray [.tmp s, x], ts⟩, y, p, e, g⟩ = cond (ds.contains s) ⟨d, .call ⟨.builtin .append, List.toArray [.const (.slice none 0 0), x], ts⟩, y, p, e, g⟩ ⟨d, .call ⟨.builtin .append, List.toArray [.tmp s, x], ts⟩, y, p, e, g⟩ := _root_.id rfl
theorem QHH (ds d xs ts y p e g) : X3 ds ⟨d, .call ⟨.builtin .len, xs, ts⟩, y, p, e, g⟩ = ⟨d, .call ⟨.builtin .len, xs, ts⟩, y, p, e, g⟩ := _root_.id rfl
theorem QDW (ds d v xs ts y p e g) : X3 ds ⟨d, .call ⟨.value v, xs, ts⟩, y, p, e, g⟩ = ⟨d, .call ⟨.value v, xs, ts⟩, y, p, e, g⟩ := _root_.id rfl
theorem QB8 (ds d x y p e g) : X3 ds ⟨d, .move x, y, p, e, g⟩ = ⟨d, .move x, y, p, e, g⟩ := _root_.id rfl
theorem QF5 (ds d x y p e g) : X3 ds ⟨d, .assign x, y, p, e, g⟩ = ⟨d, .assign x, y, p, e, g⟩ := _root_.id rfl
theorem QDB (ds d t x y p e g) : X3 ds ⟨d, .load t x, y, p, e, g⟩ = ⟨d, .load t x, y, p, e, g⟩ := _root_.id rfl
theorem QzW (ds d t x z y p e g) : X3 ds ⟨d, .store t x z, y, p, e, g⟩ = ⟨d, .store t x z, y, p, e, g⟩ := _root_.id rfl
theorem QMe (ds d t x i y p e g) : X3 ds ⟨d, .fieldAddr t x i, y, p, e, g⟩ = ⟨d, .fieldAddr t x i, y, p, e, g⟩ := _root_.id rfl
theorem QOB (ds d t x i y p e g) : X3 ds ⟨d, .indexAddr t x i, y, p, e, g⟩ = ⟨d, .indexAddr t x i, y, p, e, g⟩ := _root_.id rfl
theorem Qw9 (ds d t ps y p e g) : X3 ds ⟨d, .build t ps, y, p, e, g⟩ = ⟨d, .build t ps, y, p, e, g⟩ := _root_.id rfl
theorem QFf (ds d o t x z u y p e g) : X3 ds ⟨d, .binOp o t x z u, y, p, e, g⟩ = ⟨d, .binOp o t x z u, y, p, e, g⟩ := _root_.id rfl
theorem QJu (ds d o t x y p e g) : X3 ds ⟨d, .unOp o t x, y, p, e, g⟩ = ⟨d, .unOp o t x, y, p, e, g⟩ := _root_.id rfl
theorem QHv (ds d x i y p e g) : X3 ds ⟨d, .extract x i, y, p, e, g⟩ = ⟨d, .extract x i, y, p, e, g⟩ := _root_.id rfl
theorem QHp (ds d t x y p e g) : X3 ds ⟨d, .box t x, y, p, e, g⟩ = ⟨d, .box t x, y, p, e, g⟩ := _root_.id rfl
theorem QyJ (ds d t y p e g) : X3 ds ⟨d, .alloc t, y, p, e, g⟩ = ⟨d, .alloc t, y, p, e, g⟩ := _root_.id rfl
theorem Qz6 (ds d t x lo hi mx y p e g) : X3 ds ⟨d, .slice t x lo hi mx, y, p, e, g⟩ = ⟨d, .slice t x lo hi mx, y, p, e, g⟩ := _root_.id rfl
theorem Qz1 (id ol l) : Qhw P D a id (List.toArray ol) none Q f K l = Qxp P D a id (List.toArray ol) (lk a.ord id) Q f K () := _root_.id rfl
theorem Qxr (id ops t l) : Qhw P D a id ops (some t) Q f K l = QeM P D ops t f K (fun f K => Q .normal f K) () := _root_.id rfl
noncomputable def Qul (P : Program) (D : Orc) (ops : Array Oper) (o : Option Oper) (t : OT) (f : Fr) (K : KS) (k : Fr → KS → Option β) (_ : Lk (ops, f, k)) : Option β := match o with
 | some o => Qd9 P D ops [o] f K (fun f K => QeM P D ops t f K k ()) ()
 | none => none
theorem Qye (ops) (k : Fr → KS → Option β) (l) : QeM P D ops .done f K k l = k f K := _root_.id rfl
theorem QJN (ol i t) (k : Fr → KS → Option β) (l) : QeM P D (List.toArray ol) (.one i t) f K k l = Qul P D (List.toArray ol) (ol[i]?) t f K k () := by
 have : (List.toArray ol)[i]? = ol[i]? := by simp
 unfold QeM Qul
 rw [this]
 cases ol[i]? <;> rfl
theorem QAb (ops o t) (k : Fr → KS → Option β) (l) : Qul P D ops (some o) t f K k l = Qd9 P D ops [o] f K (fun f K => QeM P D ops t f K k ()) () := _root_.id rfl
theorem QzF (vs ops) (k : Fr → KS → Option β) (l) : Qcy vs P D ops .done f K k l = k f K := _root_.id rfl
noncomputable def Qry (vs : List Nat) (P : Program) (D : Orc) (ops : Array Oper) (o : Option Oper) (t : OT) (f : Fr) (K : KS) (k : Fr → KS → Option β) (_ : Lk (ops, f, k)) : Option β := match o with
 | some o => Z1 vs P D ops [o] f K (fun f K => Qcy vs P D ops t f K k ()) ()
 | none => none
theorem QEn (vs ol i t) (k : Fr → KS → Option β) (l) : Qcy vs P D (List.toArray ol) (.one i t) f K k l = Qry vs P D (List.toArray ol) (ol[i]?) t f K k () := by
 have : (List.toArray ol)[i]? = ol[i]? := by simp
 unfold Qcy Qry
 rw [this]
 cases ol[i]? <;> rfl
theorem Qyz (vs ops o t) (k : Fr → KS → Option β) (l) : Qry vs P D ops (some o) t f K k l = Z1 vs P D ops [o] f K (fun f K => Qcy vs P D ops t f K k ()) () := _root_.id rfl
theorem QEq (vs ops a b) (k : Fr → KS → Option β) (l) : Qcy vs P D ops (.alt a b) f K k l = oeq (Qcy vs P D ops a f K k ()) (Qcy vs P D ops b f K k ()) := _root_.id rfl
theorem QMg (ops a b) (k : Fr → KS → Option β) (l) : QeM P D ops (.alt a b) f K k l = oeq (QeM P D ops a f K k ()) (QeM P D ops b f K k ()) := _root_.id rfl
theorem VL (x : Option β) : oeq x x = x := by simp [oeq]
theorem VC (p q : Bool) (x : Option β) (l l' : Unit) : Vi p (Vi q x l) l' = Vi q (Vi p x l) l' := by cases p <;> cases q <;> rfl
theorem QEN (id ol l) : Qxp P D a id (List.toArray ol) none Q f K l = QnE P D a id (List.toArray ol) ol Q f K () := _root_.id rfl
def pk : List Oper → List Nat → List Oper
 | _, [] => []
 | ol, i :: is => match ol[i]? with | some o => o :: pk ol is | none => pk ol is
noncomputable def QEG (P : Program) (D : Orc) (a : Ann) (id : Nat) (ops : Array Oper) (l : List Oper) (Q : KT β) (f : Fr) (K : KS) (_ : Lk (ops, Q, f)) : Option β := QnE P D a id ops l Q f K ()
theorem Qp7 (ol is) : QsH (List.toArray ol) (some is) = pk ol is := by
 show is.filterMap (fun i => (List.toArray ol)[i]?) = _
 induction is with
 | nil => rfl
 | cons i is ih =>
  rw [pk, List.filterMap_cons]
  have : (List.toArray ol)[i]? = ol[i]? := by simp
  rw [this]
  cases ol[i]? with
  | none => simpa using ih
  | some o => rw [← ih]
theorem QGx (id ol is l) : Qxp P D a id (List.toArray ol) (some is) Q f K l = QEG P D a id (List.toArray ol) (pk ol is) Q f K () := by
 show QnE P D a id _ (QsH _ _) Q f K () = _
 rw [Qp7]; rfl
noncomputable def QEl (vs : List Nat) (P : Program) (D : Orc) (ops : Array Oper) (l : List Oper) (Q : KT β) (f : Fr) (K : KS) (_ : Lk (ops, Q, f)) : Option β := Z1 vs P D ops l f K (fun f K => Q .normal f K) ()
theorem QQg (vs ol is l) : QuL vs P D (List.toArray ol) (some is) Q f K l = QEl vs P D (List.toArray ol) (pk ol is) Q f K () := by
 show Z1 vs P D _ (QsH _ _) f K _ () = _
 rw [Qp7]; rfl
theorem c_K (vs ops o r l) : QEl vs P D ops (o :: r) Q f K l = Z1 vs P D ops (o :: r) f K (fun f K => Q .normal f K) () := _root_.id rfl
theorem QIX (ol) : pk ol [] = [] := _root_.id rfl
def pkO (o : Option Oper) (l : List Oper) : List Oper := match o with | some o => o :: l | none => l
theorem QML (ol i is) : pk ol (i :: is) = pkO (ol[i]?) (pk ol is) := by rw [pk]; cases ol[i]? <;> rfl
theorem QNY (o l) : pkO (some o) l = o :: l := _root_.id rfl
theorem QFT (id ops o r l) : QEG P D a id ops (o :: r) Q f K l = QnE P D a id ops (o :: r) Q f K () := _root_.id rfl
theorem QJU {α : Type} (x : α) (l : List α) : (x :: l)[0]? = some x := _root_.id rfl
theorem QPc {α : Type} (x : α) (l : List α) (i : Nat) : (x :: l)[i + 1]? = l[i]? := _root_.id rfl
theorem QNg {α : Type} (l : List α) (i : Nat) : (List.toArray l)[i]? = l[i]? := by simp
theorem Qvb {α γ : Type} (x : α) (g : α → Option γ) : (some x).bind g = g x := _root_.id rfl
noncomputable def Qxi (P : Program) (D : Orc) (j : Option (Nat × Nat × Nat)) (ops : Array Oper) (l : List Oper) (Q : KT β) (f : Fr) (K : KS) (_ : Lk (l, Q, f)) : Option β :=
 match j with
 | none => Qd9 P D ops l f K (fun f K => Q .normal f K) ()
 | some (s, lo, hi) => QpV (Qd9 P D ops l f K (fun f _ => asB (f s)) ()) (fun c => Q .normal (up (Qv3 lo hi f) s (.b c)) K) ()
theorem QJh (id ops ol l) : QnE P D a id ops ol Q f K l = Qxi P D (lk a.jn id) ops ol Q f K () := _root_.id rfl
theorem QAl (ops ol l) : Qxi P D none ops ol Q f K l = Qd9 P D ops ol f K (fun f K => Q .normal f K) () := _root_.id rfl
theorem Qyf (s lo hi ops ol l) : Qxi P D (some (s, lo, hi)) ops ol Q f K l = QpV (Qd9 P D ops ol f K (fun f _ => asB (f s)) ()) (fun c => Q .normal (up (Qv3 lo hi f) s (.b c)) K) () := _root_.id rfl
theorem QCm (o) (k : Bool → Option β) (l) : QpV o k l = o.bind k := _root_.id rfl
theorem QOS (b) (k : Bool → Option β) (l) : QpV (Qmi b) k l = k b := _root_.id rfl
theorem QCh (b x y) : cond b (Qmi x) (Qmi y) = Qmi (cond b x y) := by cases b <;> rfl
theorem QTT (b) : Qmi b = some b := _root_.id rfl
theorem QMU (a b : Bool) : cond a b false = (a && b) := by cases a <;> rfl
theorem QRk (a b : Bool) : cond a true b = (a || b) := by cases a <;> rfl
theorem QHP (a b : Bool) : cond a false b = (!a && b) := by cases a <;> rfl
theorem QIs (b) : asB (.b b) = Qmi b := _root_.id rfl
def QEK (D : Orc) (t : Nat) (z : List Nat) (la : Option LA) (Q : KT β) (f : Fr) (K : KS) (_ : Lk Q) : Option β :=
 match la with
 | some la => QgF z la.sl la.rg f K (fun f K => Ju (D.l t f K) (fun o => Q o.1 o.2.1 o.2.2) ()) ()
 | none => none
theorem QE3 (c l) : VK P D a (.loop c) Q f K l = QEK D (tag c) a.ak (lk a.lp (tag c)) Q f K () := _root_.id rfl
theorem Qu8 (t z la l) : QEK D t z (some la) Q f K l = QgF z la.sl la.rg f K (fun f K => Ju (D.l t f K) (fun o => Q o.1 o.2.1 o.2.2) ()) () := _root_.id rfl
theorem Qkr (id o d) : tag (.region id o d) = id := _root_.id rfl
theorem Qv8 (x y) : tag (.seq x y) = tag x := _root_.id rfl
theorem Qtt (c x y) : tag (.cond c x y) = tag x := _root_.id rfl
theorem Qs7 (i x) : tag (.block i x) = tag x := _root_.id rfl
theorem QtX (x) : tag (.loop x) = tag x := _root_.id rfl
theorem QxO (k : Fr → KS → Option β) (Q f K) : Qsw k Q .normal f K = k f K := _root_.id rfl
theorem Qxh (k : Fr → KS → Option β) (Q f K) : Qsw k Q .ret f K = Q .ret f K := _root_.id rfl
theorem Qxs (k : Fr → KS → Option β) (Q id f K) : Qsw k Q (.exit id) f K = Q (.exit id) f K := _root_.id rfl
theorem QEe (i f K) : Qwr i Q .normal f K = Q .normal f K := _root_.id rfl
theorem QDY (i f K) : Qwr i Q .ret f K = Q .ret f K := _root_.id rfl
theorem QDx (i j f K) : Qwr i Q (.exit j) f K = sel (j == i) (Q .normal f K) (Q (.exit j) f K) () := _root_.id rfl
theorem QPg (ops) (k : Fr → KS → Option β) (l) : Qd9 P D ops [] f K k l = k f K := _root_.id rfl
theorem QFC (ops r) (k : Fr → KS → Option β) (d op t pos after l) : Qd9 P D ops (⟨some d, op, t, pos, after, none⟩ :: r) f K k l = oop P D op f K (fun v K' => QmO v (fun v => Qd9 P D ops r (up f d v) K' k ()) ()) () := _root_.id rfl
theorem QCW (ops r) (k : Fr → KS → Option β) (op t pos after l) : Qd9 P D ops (⟨none, op, t, pos, after, none⟩ :: r) f K k l = oop P D op f K (fun v K' => Qd9 P D ops r f K' k ()) () := _root_.id rfl
theorem c_g (ops r) (k : Fr → KS → Option β) (d op t pos after j want l) : Qd9 P D ops (⟨some d, op, t, pos, after, some (j, want)⟩ :: r) f K k l =
  ogd ((ops[j]?).bind (·.dst)) want f (fun f => oop P D op f K (fun v K' => QmO v (fun v => Qd9 P D ops r (up f d v) K' k ()) ()) ()) (fun f => QmO (.tup []) (fun v => Qd9 P D ops r (up f d v) K k ()) ()) () := _root_.id rfl
theorem QSN (ops r) (k : Fr → KS → Option β) (op t pos after j want l) : Qd9 P D ops (⟨none, op, t, pos, after, some (j, want)⟩ :: r) f K k l =
  ogd ((ops[j]?).bind (·.dst)) want f (fun f => oop P D op f K (fun v K' => Qd9 P D ops r f K' k ()) ()) (fun f => Qd9 P D ops r f K k ()) () := _root_.id rfl
def QD6 (v : AV) (d : Nat) (want : Bool) (f : Fr) (yes no : Fr → Option β) (_ : Lk (f, yes, no)) : Option β :=
 match v with
 | .b x => cond x (cond want (yes (up f d (.b true))) (no (up f d (.b true)))) (cond want (no (up f d (.b false))) (yes (up f d (.b false))))
 | .tup [] => no f
 | _ => none
theorem QTE (d want) (yes no : Fr → Option β) (l) : ogd (some d) want f yes no l = QD6 (f d) d want f yes no () := by
 cases want <;> rfl
theorem QEt (b d) (yes no : Fr → Option β) (l) : QD6 (.b b) d true f yes no l = cond b (yes (up f d (.b true))) (no (up f d (.b false))) := _root_.id rfl
theorem QEH (b d) (yes no : Fr → Option β) (l) : QD6 (.b b) d false f yes no l = cond b (no (up f d (.b true))) (yes (up f d (.b false))) := _root_.id rfl
theorem QEC (d w) (yes no : Fr → Option β) (l) : QD6 (.tup []) d w f yes no l = no f := _root_.id rfl
theorem QHt (x l) : oop P D (.move x) f K k l = k (ev f x) K := _root_.id rfl
theorem QwQ (x l) : oop P D (.assign x) f K k l = k (ev f x) K := _root_.id rfl
theorem QFz (c x y l) : oop P D (.pick c x y) f K k l = QoE (ev f c) (ev f x) (ev f y) (fun v => k v K) () := _root_.id rfl
theorem QDO (t l) : oop P D (.alloc t) f K k l = Qpc K (tzc P t) k () := _root_.id rfl
theorem QPR (t v l) : oop P D (.box t v) f K k l = QtH K (ev f v) k () := _root_.id rfl
theorem QAP (t ps l) : oop P D (.build t (List.toArray ps)) f K k l = QlK K (tbd P t) (ps.map fun p => (p.1, ev f p.2)) (fun v => k v K) () := _root_.id rfl
theorem Qw6 (t len ps l) : oop P D (.buildSlice t len (List.toArray ps)) f K k l = QhY (zB (Qfb P t)) (Qfb P t) K (tse P t) len (ps.map fun p => (p.1, ev f p.2)) k () := _root_.id rfl
theorem QFN (t x l) : oop P D (.load t x) f K k l = QiO (tk P t) (X5 K (ev f x)) (fun v => k v K) () := _root_.id rfl
theorem QCV (t p v l) : oop P D (.store t p v) f K k l = Qk2 (flT P t) (slz P 9 t) K (tk P t) (ev f p) (ev f v) (fun K => k .u K) () := _root_.id rfl
theorem QJO (op t x y s l) : oop P D (.binOp op t x (.tmp y) s) f K k l = QaH (Qmr P t) op (ev f x) (ev f (.tmp y)) (fun v => k v K) () := _root_.id rfl
theorem QES (op t x c n s l) : oop P D (.binOp op t x (.const (.int c n)) s) f K k l = QaH (Qmr P t) op (ev f x) (ev f (.const (.int c n))) (fun v => k v K) () := _root_.id rfl
theorem QFc (op t x c s l) : oop P D (.binOp op t x (.const (.bool c)) s) f K k l = QaH (Qmr P t) op (ev f x) (ev f (.const (.bool c))) (fun v => k v K) () := _root_.id rfl
theorem QFU (op t x c s l) : oop P D (.binOp op t x (.const (.string c)) s) f K k l = QaH (Qmr P t) op (ev f x) (ev f (.const (.string c))) (fun v => k v K) () := _root_.id rfl
theorem QFS (op t x s l) (h : Qfq P t = true) : oop P D (.binOp op t x (.const (.slice none 0 0)) s) f K k l = Qk8 op (ev f x) (fun v => k v K) () := by simp [oop, Qcw, h]
theorem QI3 (g caps l) : oop P D (.makeFunc (.func g) (List.toArray []) (List.toArray caps)) f K k l = k (.clo g (caps.map (ev f))) K := by simp [oop]
theorem QJj (s t x l) (h : bsl P s = true) : oop P D (.convert s t x) f K k l = QsK K (ti P t) (ev f x) (fun v => k v K) () := by simp [oop, h]
theorem QH3 (s t x l) (h : bsl P s = false) (h2 : tok P s = true) : oop P D (.convert s t x) f K k l = QsU (ti P t) (ev f x) (fun v => k v K) () := by simp [oop, h, h2]
theorem QPF (t x lo hi l) : oop P D (.slice t x lo hi none) f K k l = Qh7 (ti P t) (ev f x) (lo.map (ev f)) (hi.map (ev f)) (fun v => k v K) () := _root_.id rfl
theorem QPO (t x i l) : oop P D (.index t x i) f K k l = Qyo (ti P t) (ev f x) (ev f i) (fun v => k v K) () := _root_.id rfl
theorem QT3 (op t x l) : oop P D (.unOp op t x) f K k l = oun op (ev f x) (fun v => k v K) () := _root_.id rfl
theorem QTd (t x fl l) : oop P D (.fieldAddr t x fl) f K k l = Qv5 K (ev f x) (tfo P t fl) (fun v => k v K) () := _root_.id rfl
theorem QUB (t x i l) : oop P D (.indexAddr t x i) f K k l = QsN K (ti P t) (ev f x) (ev f i) (fun v => k v K) () := _root_.id rfl
theorem QOs (x i l) : oop P D (.extract x i) f K k l = Qxt (ev f x) i (fun v => k v K) () := _root_.id rfl
theorem QKd (x t ts l) : oop P D (.call ⟨.builtin .len, List.toArray [x], List.toArray (t :: ts)⟩) f K k l = QrU K (ti P t) (ev f x) (fun v => k v K) () := _root_.id rfl
theorem QNH (x y ts l) : oop P D (.call ⟨.builtin .min, List.toArray [x, y], ts⟩) f K k l = QxT (ev f x) (ev f y) (fun v => k v K) () := _root_.id rfl
theorem QPa (x y ts l) : oop P D (.call ⟨.builtin .max, List.toArray [x, y], ts⟩) f K k l = Qw2 (ev f x) (ev f y) (fun v => k v K) () := _root_.id rfl
theorem QE1 (g args ts l) : oop P D (.call ⟨.value g, List.toArray args, ts⟩) f K k l = QtD (ev f g) (fun g caps => Qgz D g K (args.map (ev f) ++ caps) k ()) () := _root_.id rfl
theorem QKR (g caps) (k : FuncId → List AV → Option β) (l) : QtD (.clo g caps) k l = k g caps := _root_.id rfl
theorem QCl (g vs l) : Qgz D g K vs k l = Ju (D.p g (Qpn (D.z g) (Qd7 K vs))) (fun x => k (VH K.length x).1 (K ++ (VH K.length x).2)) () := _root_.id rfl
end
def QFB {β : Type} (o : Option Bool) (k : Bool → Option β) (_ : Lk k) : Option β := match o with | some b => k b | none => none
section
variable {β : Type} {k : AV → Option β} {c : IntKind} {a b : Int} {te : Option (List CK)}
theorem QIh (l) : QaH te .add (.i c a) (.i c b) k l = k (.i c (c.wrap (a + b))) := by simp [QaH]
theorem QOG (l) : QaH te .sub (.i c a) (.i c b) k l = k (.i c (c.wrap (a - b))) := by simp [QaH]
theorem QOT (l) : QaH te .mul (.i c a) (.i c b) k l = k (.i c (c.wrap (a * b))) := by simp [QaH]
theorem QIT (l) : QaH te .quo (.i c a) (.i c b) k l = Vi (!decide (b = 0)) (k (.i c (c.wrap (a.tdiv b)))) () := by simp [QaH]
theorem QIM (l) : QaH te .rem (.i c a) (.i c b) k l = Vi (!decide (b = 0)) (k (.i c (a.tmod b))) () := by simp [QaH]
theorem QLA (l) : QaH te .eql (.i c a) (.i c b) k l = k (.b (decide (a = b))) := by simp [QaH]
theorem QNR (l) : QaH te .neq (.i c a) (.i c b) k l = k (.b (!decide (a = b))) := by simp [QaH]
theorem QMS (l) : QaH te .lss (.i c a) (.i c b) k l = k (.b (decide (a < b))) := by simp [QaH]
theorem QMQ (l) : QaH te .leq (.i c a) (.i c b) k l = k (.b (decide (a ≤ b))) := by simp [QaH]
theorem QN1 (l) : QaH te .gtr (.i c a) (.i c b) k l = k (.b (decide (b < a))) := by simp [QaH]
theorem QLm (l) : QaH te .geq (.i c a) (.i c b) k l = k (.b (decide (b ≤ a))) := by simp [QaH]
theorem QOx (ks xs ys l) : QaH (some ks) .eql (.agg xs) (.agg ys) k l = QFB (QZ ks xs ys) (fun b => k (.b b)) () := _root_.id rfl
theorem QI6 (ks xs ys l) : QaH (some ks) .neq (.agg xs) (.agg ys) k l = QFB (QZ ks xs ys) (fun b => k (.b (!b))) () := _root_.id rfl
theorem QPk (x y l) : QaH (some [.t]) .eql (.b x) (.b y) k l = k (.b (decide (x = y))) := _root_.id rfl
theorem QPw (x y l) : QaH (some [.t]) .neq (.b x) (.b y) k l = k (.b (!decide (x = y))) := _root_.id rfl
theorem QLJ (b) (k : Bool → Option β) (l) : QFB (some b) k l = k b := _root_.id rfl
theorem QH0 (x y l) : QaH te .add (.s x) (.s y) k l = Vi (QMh x y) (k (.s (QNM x y))) () := by simp [QaH, QMh, QNM]
theorem QF9 (x y l) : QaH te .eql (.s x) (.s y) k l = k (.b (decide (x = y))) := by simp [QaH]
theorem QHO (x y l) : QaH te .neq (.s x) (.s y) k l = k (.b (!decide (x = y))) := by simp [QaH]
def QEF (o : Option AV) (k : AV → Option β) (_ : Lk k) : Option β := match o with | some c => k c | none => none
theorem QPM (cs i l) : Qxt (.tup cs) i k l = QEF (cs[i]?) k () := _root_.id rfl
theorem QGH (c l) : QEF (some c) k l = k c := _root_.id rfl
theorem QIe : QZ [] [] [] = some true := _root_.id rfl
theorem QPT (ks c x y xs ys) : QZ (.i :: ks) (.i c x :: xs) (.i c y :: ys) = (QZ ks xs ys).map (decide (x = y) && ·) := by simp [QZ]
theorem QOb (ks x y xs ys) : QZ (.b :: ks) (.b x :: xs) (.b y :: ys) = (QZ ks xs ys).map (decide (x = y) && ·) := _root_.id rfl
theorem QMW (ks x y xs ys) : QZ (.s :: ks) (.s x :: xs) (.s y :: ys) = (QZ ks xs ys).map (decide (x = y) && ·) := _root_.id rfl
theorem QKL (x l) : oun .not (.b x) k l = k (.b (!x)) := _root_.id rfl
theorem QO6 (l) : oun .neg (.i c a) k l = k (.i c (c.wrap (-a))) := _root_.id rfl
theorem QCr (x y : AV) (l) : QoE (.b true) x y k l = k x := _root_.id rfl
theorem QCX (x y : AV) (l) : QoE (.b false) x y k l = k y := _root_.id rfl
theorem QB3 (x y : Bool) (c : Bool) (l) : QoE (.b c) (.b x) (.b y) k l = k (.b (cond c x y)) := by cases c <;> rfl
theorem QOX (l) : QxT (.i c a) (.i c b) k l = k (.i c (if b < a then b else a)) := _root_.id rfl
theorem QLt (l) : Qw2 (.i c a) (.i c b) k l = k (.i c (if a < b then b else a)) := _root_.id rfl
theorem QKN (e : Option Ent) (K : KS) : kg (e :: K) 0 = e := _root_.id rfl
theorem QJc (e : Option Ent) (K : KS) (j : Nat) : kg (e :: K) (j + 1) = kg K j := _root_.id rfl
theorem QGJ {α : Type} (e e' : α) (K : List α) : (e :: K).set 0 e' = e' :: K := _root_.id rfl
theorem QG0 {α : Type} (e e' : α) (K : List α) (j : Nat) : (e :: K).set (j + 1) e' = e :: K.set j e' := _root_.id rfl
theorem QIa {α : Type} (e : α) (K L : List α) : (e :: K) ++ L = e :: (K ++ L) := _root_.id rfl
theorem QGw {α : Type} (L : List α) : [] ++ L = L := _root_.id rfl
theorem QFo {α : Type} : ([] : List α).length = 0 := _root_.id rfl
theorem QFu {α : Type} (e : α) (K : List α) : (e :: K).length = K.length + 1 := _root_.id rfl
theorem QBZ {α : Type} (K : List α) : K.drop 0 = K := _root_.id rfl
theorem QAZ {α : Type} (e : α) (K : List α) (n : Nat) : (e :: K).drop (n + 1) = K.drop n := _root_.id rfl
theorem QDQ {α : Type} (K : List α) : K.take 0 = [] := by simp
theorem QBV {α : Type} (e : α) (K : List α) (n : Nat) : (e :: K).take (n + 1) = e :: K.take n := _root_.id rfl
def lnR (r : List (List AV)) : Int := r.length
theorem QxC (K e m n r l) : QrU K (.sl e m) (.imm n r) k l = k (.i .i64 (lnR r)) := _root_.id rfl
theorem QNQ (n r) (k : AV → Option β) (l) : Qk8 .eql (.imm n r) k l = QmC r.isEmpty (k (.b true)) (k (.b false)) := _root_.id rfl
theorem QGX (n r) (k : AV → Option β) (l) : Qk8 .neq (.imm n r) k l = QmC r.isEmpty (k (.b false)) (k (.b true)) := _root_.id rfl
theorem QHK (x : Option β) (b) : QmC b x x = x := by cases b <;> simp [QmC, oeq]
theorem QEP (n : Nat) (R : List (List AV)) (b : Nat) (m) : QmC R.isEmpty (some (AV.own n [])) (Vi (decide (R.length * b ≤ 140737488355328)) (some (AV.own n R)) m) = Vi (decide (R.length * b ≤ 140737488355328)) (some (AV.own n R)) () := by
 cases R with
 | nil => simp [QmC, oeq, Vi]
 | cons r R => rfl
theorem Qz2 (K e m l) : QrU K (.sl e m) .nil k l = k (.i .i64 0) := _root_.id rfl
def QEI (e : Option Ent) (k : AV → Option β) (_ : Lk k) : Option β := match e with | some e => k (.i .i64 (lnR e.rows)) | none => none
theorem QGI (c d a l) : QsU (.int c) (.i d a) k l = k (.i c (c.wrap a)) := _root_.id rfl
def QuB (o : Option (List UInt8)) (k : AV → Option β) (_ : Lk k) : Option β := match o with | some s => k (.s s) | none => none
def Qxw (e : Option Ent) (k : AV → Option β) (_ : Lk k) : Option β := match e with | some (.lst 1 rows) => QuB (Qc2 rows) k () | _ => none
theorem QPL (K j l) : QsK K .str (.sl j) k l = Qxw (kg K j) k () := _root_.id rfl
theorem QEZ (r l) : Qxw (some (.lst 1 r)) k l = QuB (Qc2 r) k () := _root_.id rfl
theorem QG7 (s l) : QuB (some s) k l = k (.s s) := _root_.id rfl
theorem QHn : Qc2 [] = some [] := _root_.id rfl
theorem QBQ (n r) : Qc2 ([.i .u8 n] :: r) = (Qc2 r).map (UInt8.ofNat n.toNat :: ·) := by
 show (match QqA [.i .u8 n], Qc2 r with | some x, some xs => some (x :: xs) | _, _ => none) = _
 simp only [QqA]
 cases Qc2 r <;> rfl
theorem QBi (K e m j l) : QrU K (.sl e m) (.sl j) k l = QEI (kg K j) k () := _root_.id rfl
theorem Qys (n r l) : QEI (some (.lst n r)) k l = k (.i .i64 (lnR r)) := _root_.id rfl
theorem QzB (K x l) : QrU K .str (.s x) k l = k (.i .i64 (ln x)) := _root_.id rfl
theorem QFY (K n r i p o t l) : Qv5 K (.iptr n r i p) (some (o, t)) k l = k (.iptr n r i (p + o)) := _root_.id rfl
def QEi (e : Option Ent) (v : AV) (k : AV → Option β) (_ : Lk k) : Option β := match e with | some _ => k v | none => none
theorem QJt (K j i p o t l) : Qv5 K (.ptr j i p) (some (o, t)) k l = QEi (kg K j) (.ptr j i (p + o)) k () := _root_.id rfl
theorem QET (e v l) : QEi (some e) v k l = k v := _root_.id rfl
theorem QEM (K e m r kd i l) : QsN K (.sl e m) (.imm m r) (.i kd i) k l = Vi (inb r i) (k (.iptr m r i.toNat 0)) () := by simp [QsN]
def Qxk (e : Option Ent) (m : Nat) (j : Nat) (i : Int) (k : AV → Option β) (_ : Lk k) : Option β := match e with | some e => if m = e.n then Vi (inb e.rows i) (k (.ptr j i.toNat 0)) () else none | none => none
theorem QH8 (K e m j kd i l) : QsN K (.sl e m) (.sl j) (.i kd i) k l = Qxk (kg K j) m j i k () := _root_.id rfl
theorem QFH (m r j i l) : Qxk (some (.lst m r)) m j i k l = Vi (inb r i) (k (.ptr j i.toNat 0)) () := by simp [Qxk, Ent.n, Ent.rows]
def QEk (e : Option Ent) (n : Nat) (i : Int) (p : AV) (k : AV → Option β) (_ : Lk k) : Option β := match e with | some _ => Vi (QvR n i) (k p) () | none => none
theorem QGC (K e n m j r o kd i l) : QsN K (.arr n e m) (.ptr j r o) (.i kd i) k l = QEk (kg K j) n i (.ptr j r (o + i.toNat * m)) k () := _root_.id rfl
theorem QHa (e n i p l) : QEk (some e) n i p k l = Vi (QvR n i) (k p) () := _root_.id rfl
theorem QFO (e m r h c l) : Qh7 (.sl e m) (.imm m r) none (some (.i c h)) k l = Vi (slB 0 h (lnR r)) (k (.imm m (cut r 0 h))) () := by simp [Qh7, bd, lnR]
theorem QFd (e m r h c l) : Qh7 (.sl e m) (.imm m r) (some (.i c h)) none k l = Vi (slB h (lnR r) (lnR r)) (k (.imm m (cut r h (lnR r)))) () := by simp [Qh7, bd, lnR]
theorem QE4 (e m r h h' c c' l) : Qh7 (.sl e m) (.imm m r) (some (.i c h)) (some (.i c' h')) k l = Vi (slB h h' (lnR r)) (k (.imm m (cut r h h'))) () := by simp [Qh7, bd, lnR]
theorem QFh (r h c l) : Qh7 .str (.s r) none (some (.i c h)) k l = Vi (slB 0 h (ln r)) (k (.s (cut r 0 h))) () := by simp [Qh7, bd, ln]
theorem QHe (r h c l) : Qh7 .str (.s r) (some (.i c h)) none k l = Vi (slB h (ln r) (ln r)) (k (.s (cut r h (ln r)))) () := by simp [Qh7, bd, ln]
theorem QFG (r h h' c c' l) : Qh7 .str (.s r) (some (.i c h)) (some (.i c' h')) k l = Vi (slB h h' (ln r)) (k (.s (cut r h h'))) () := by simp [Qh7, bd, ln]
theorem QIL (r i c l) : Qyo .str (.s r) (.i c i) k l = Vi (inb r i) (k (.i .u8 ((gt r i).toNat : Int))) () := _root_.id rfl
class Strs (cs : List AV) (xs : outParam (List (List UInt8))) : Prop where
 eq : cs = xs.map AV.s
instance : Strs [] [] := ⟨rfl⟩
instance (x cs xs) [h : Strs cs xs] : Strs (.s x :: cs) (x :: xs) := ⟨by rw [h.eq]; rfl⟩
theorem QHk {cs : List AV} {xs : List (List UInt8)} [h : Strs cs xs] (i : Int) (hi : QvR cs.length i = true) (l) : QiO .one (cs.drop (0 + i.toNat * 1)) k l = k (.s (gt xs i)) := by
 have hcs := h.eq
 subst hcs
 simp [QvR] at hi
 have h2 : i.toNat < xs.length := by omega
 rw [Nat.zero_add, Nat.mul_one, List.drop_eq_getElem_cons (by simpa using h2)]
 simp [QiO, gt, List.getD_eq_getElem?_getD, h2]
theorem QVi (K n r i o) : X5 K (.iptr n r i o) = ((QR r i).drop o).map ld := _root_.id rfl
def QtE (e : Option Ent) (i o : Nat) : List AV := match e with | some (.box cs) => if i = 0 then cs.drop o else [] | some (.lst _ rows) => ((QR rows i).drop o).map ld | none => []
theorem m_c (K j i o) : X5 K (.ptr j i o) = QtE (kg K j) i o := _root_.id rfl
theorem QFA (cs o) : QtE (some (.box cs)) 0 o = cs.drop o := _root_.id rfl
theorem QHy (n r i o) : QtE (some (.lst n r)) i o = ((QR r i).drop o).map ld := _root_.id rfl
theorem QGr {α γ : Type} (g : α → γ) : [].map g = [] := _root_.id rfl
theorem QFP {α γ : Type} (g : α → γ) (x l) : (x :: l).map g = g x :: l.map g := _root_.id rfl
theorem QJf (x) : ld (.b x) = .b x := _root_.id rfl
theorem QN3 (c x) : ld (.i c x) = .i c x := _root_.id rfl
theorem QOy (x) : ld (.s x) = .s x := _root_.id rfl
theorem QBA (n x) : ld (.imm n x) = .imm n x := _root_.id rfl
theorem QBH : ld .nil = .nil := _root_.id rfl
theorem QA3 (n x) : ld (.own n x) = .u := _root_.id rfl
theorem QBd (c cs l) : QiO .one (c :: cs) k l = k c := _root_.id rfl
def QxE (b : Bool) (v : AV) (k : AV → Option β) (_ : Lk k) : Option β := cond b (k v) none
theorem QD1 (m cs l) : QiO (.agg m) cs k l = QxE (Nat.blt 0 m && Nat.ble m cs.length) (.agg (cs.take m)) k () :=
 Qdt (by simp only [Bool.and_eq_true, Qnh, QjR]) _ _
theorem QDd (v l) : QxE true v k l = k v := _root_.id rfl
theorem QBx (K cs) (k : AV → KS → Option β) (l) : Qpc K (some cs) k l = V3 (K ++ [some (.box cs)]) (fun K' => k (.ptr K.length 0 0) K') () := _root_.id rfl
def okB (b : Bool) (x : Option β) (_ : Lk x) : Option β := cond b x none
theorem QVp (x : Option β) (l) : okB true x l = x := _root_.id rfl
theorem QHG (K cs) (k : AV → KS → Option β) (l) : QtH K (.agg cs) k l = okB (cs.all (ZI K)) (V3 (K ++ [some (.box cs)]) (fun K' => k (.ptr K.length 0 0) K') ()) () := by
 simp only [QtH, okB]; cases cs.all (ZI K) <;> rfl
theorem QG6 (K c x) (k : AV → KS → Option β) (l) : QtH K (.i c x) k l = V3 (K ++ [some (.box [.i c x])]) (fun K' => k (.ptr K.length 0 0) K') () := _root_.id rfl
theorem QFl {α : Type} (p : α → Bool) : [].all p = true := _root_.id rfl
theorem QHR {α : Type} (p : α → Bool) (x l) : (x :: l).all p = (p x && l.all p) := _root_.id rfl
theorem QPu (K x) : ZI K (.b x) = true := _root_.id rfl
theorem QNS (K c x) : ZI K (.i c x) = true := _root_.id rfl
theorem QOi (K x) : ZI K (.s x) = true := _root_.id rfl
theorem QNx (K) : ZI K .nil = true := _root_.id rfl
theorem QAY (K n r) : ZI K (.imm n r) = true := _root_.id rfl
theorem QBs (K n r) : ZI K (.clo n r) = true := _root_.id rfl
theorem QG4 (K j) : ZI K (.sl j) = (kg K j).isSome := _root_.id rfl
theorem QDg (K j i o) : ZI K (.ptr j i o) = (kg K j).isSome := _root_.id rfl
theorem QUR {α : Type} (x : α) : (some x).isSome = true := _root_.id rfl
theorem QNT (x) : AV.closed (.b x) = true := _root_.id rfl
theorem QI4 (c x) : AV.closed (.i c x) = true := _root_.id rfl
theorem QPn (x) : AV.closed (.s x) = true := _root_.id rfl
theorem QIu : AV.closed .nil = true := _root_.id rfl
theorem QBr (n r) : AV.closed (.imm n r) = true := _root_.id rfl
theorem QG3 (x : Bool) : (false && x) = false := _root_.id rfl
theorem QOR (x : Bool) : (true && x) = x := _root_.id rfl
def QhV (fl : Bool) (ns : List Nat) (K : KS) (e : Option Ent) (t : TK) (j i o : Nat) (v : AV) (k : KS → Option β) (_ : Lk k) : Option β :=
 match e with
  | some (.box cs) => if i = 0 then Qid cs o t v (ZI K) (fun cs => V3 (K.set j (some (.box cs))) k ()) () else none
  | some (.lst n rows) => if (Qaq v).all clq = true then (if i < rows.length then Qid (QR rows i) o t v AV.closed (fun r => V3 (K.set j (some (.lst n (rows.set i r)))) k ()) () else none) else if fl = false then Qkl ns K t j i o n rows v k () else none
  | none => none
theorem QBY (fl ns K t j i o v) (k : KS → Option β) (l) : Qk2 fl ns K t (.ptr j i o) v k l = QhV fl ns K (kg K j) t j i o v k () := by
 show (match kg K j with | some (.lst n rows) => _ | _ => _) = _
 cases h : kg K j with
 | none => simp [QhV, Qlr, h]
 | some e => cases e <;> simp [QhV, Qlr, h]
theorem QzV (fl ns K cs t j o v) (k : KS → Option β) (l) : QhV fl ns K (some (.box cs)) t j 0 o v k l = Qid cs o t v (ZI K) (fun cs => V3 (K.set j (some (.box cs))) k ()) () := _root_.id rfl
def Qnf (b fl : Bool) (ns : List Nat) (K : KS) (n : Nat) (r : List (List AV)) (t : TK) (j i o : Nat) (v : AV) (k : KS → Option β) (_ : Lk k) : Option β :=
 cond b (if i < r.length then Qid (QR r i) o t v AV.closed (fun r' => V3 (K.set j (some (.lst n (r.set i r')))) k ()) () else none) (if fl = false then Qkl ns K t j i o n r v k () else none)
theorem QAd (fl ns K n r t j i o v) (k : KS → Option β) (l) : QhV fl ns K (some (.lst n r)) t j i o v k l = Qnf ((Qaq v).all clq) fl ns K n r t j i o v k () := by
 simp only [QhV, Qnf]
 cases (Qaq v).all clq <;> rfl
theorem QJa (ds) : Qaq (.agg ds) = ds := _root_.id rfl
theorem QKC (c x) : Qaq (.i c x) = [.i c x] := _root_.id rfl
theorem QPH (x) : Qaq (.b x) = [.b x] := _root_.id rfl
theorem QMY (x) : Qaq (.s x) = [.s x] := _root_.id rfl
theorem QLz : Qaq .nil = [.nil] := _root_.id rfl
theorem QMf (n r) : Qaq (.imm n r) = [.imm n r] := _root_.id rfl
theorem QI7 (j) : Qaq (.sl j) = [.sl j] := _root_.id rfl
theorem QEQ (j) : clq (.sl j) = false := _root_.id rfl
theorem QJr (x) : clq (.b x) = true := _root_.id rfl
theorem QJ1 (c x) : clq (.i c x) = true := _root_.id rfl
theorem QO8 (x) : clq (.s x) = true := _root_.id rfl
theorem QLw : clq .nil = false := _root_.id rfl
theorem QKh (n r) : clq (.imm n r) = true := _root_.id rfl
theorem QQ8 (cs) : nz [] cs = cs := by cases cs <;> rfl
theorem QQv (ns) : nz ns [] = [] := by cases ns <;> rfl
theorem QTB (n ns c cs) : nz (n :: ns) (c :: cs) = nzc n c :: nz ns cs := _root_.id rfl
theorem QP5 (n x) : nzc n (.b x) = .b x := _root_.id rfl
theorem QQs (n c x) : nzc n (.i c x) = .i c x := _root_.id rfl
theorem QRK (n x) : nzc n (.s x) = .s x := _root_.id rfl
theorem QUg (n) : nzc n .nil = .own n [] := _root_.id rfl
theorem QSE (n m r) : nzc n (.own m r) = .own m r := _root_.id rfl
theorem QUh (n m r) : nzc n (.imm m r) = .imm m r := _root_.id rfl
theorem QSr (k v) : Qrf (.z k) v = nzc k v := _root_.id rfl
theorem QSR (v) : Qrf .n v = v := _root_.id rfl
theorem QQ4 (ns cs) : Qrf (.a ns) (.agg cs) = .agg (nz ns cs) := _root_.id rfl
theorem QQD (v) : QpG [] v = v := _root_.id rfl
theorem QUn (s v) : QpG [s] v = Qrf s v := _root_.id rfl
theorem QQf (s s' ss vs) : QpG (s :: s' :: ss) (.tup vs) = .tup (Qtg (s :: s' :: ss) vs) := _root_.id rfl
theorem QSJ (s ss v vs) : Qtg (s :: ss) (v :: vs) = Qrf s v :: Qtg ss vs := _root_.id rfl
theorem QNc (vs) : Qtg [] vs = vs := _root_.id rfl
theorem QNG (m ds l) : QqC (.agg m) (.agg ds) l = (m == l) := _root_.id rfl
theorem QIC (j l) : QqC .one (.sl j) l = (l == 1) := _root_.id rfl
def Qvn (ns : List Nat) (K : KS) (a : Option (KS × List AV)) (t : TK) (j o n i : Nat) (r : List (List AV)) (v : AV) (k : KS → Option β) (_ : Lk k) : Option β :=
 match a with
  | some (K1, ds) => if (kg K1 j).isSome = true ∧ QqC t v ds.length = true ∧ o + ds.length ≤ (QR r i).length then V3 (K1.set j (some (.lst n (r.set i (putCells (QR r i) o (nz ns ds)))))) k () else none
  | none => none
theorem QRl (ns K K1 ds t j o n i r v) (k : KS → Option β) (l) : Qvn ns K (some (K1, ds)) t j o n i r v k l = okB ((kg K1 j).isSome && (QqC t v ds.length && Nat.ble (o + ds.length) (QR r i).length)) (V3 (K1.set j (some (.lst n (r.set i (putCells (QR r i) o (nz ns ds)))))) k ()) () :=
 Qdt (by simp only [Bool.and_eq_true, QjR]) _ _
def QpK (r : List (List AV)) (i : Nat) : Bool := Nat.blt i r.length
theorem w_n (D : Orc) (f : Fr) (K : KS) (j i o q r v m rs) (k : AV → KS → Option β) (l) : onr D f K j i o q r (v, [some (.lst m rs)]) k l = Vi (QpK r i) (V3 (K.set j (some (.lst q (r.set i (putCells (QR r i) o [.own m rs])))) ++ [none]) (fun K' => k v K') ()) () := _root_.id rfl
theorem QFp (x r) : QpK (x :: r) 0 = true := by simp [QpK, Nat.blt_eq]
theorem QHo (x r i) : QpK (x :: r) (i + 1) = QpK r i := by
 unfold QpK; rw [Bool.eq_iff_iff, Nat.blt_eq, Nat.blt_eq]; simp
theorem QGu (fl ns K n r t j i o v) (k : KS → Option β) (l) : Qnf true fl ns K n r t j i o v k l = okB (QpK r i) (Qid (QR r i) o t v AV.closed (fun r' => V3 (K.set j (some (.lst n (r.set i r')))) k ()) ()) () :=
 Qdt Qnh _ _
theorem QGk (ns K n r t j i o v) (k : KS → Option β) (l) : Qnf false false ns K n r t j i o v k l = okB (QpK r i) (Qvn ns K (Vv K (Qaq v)) t j o n i r v k ()) () :=
 Qdt Qnh _ _
theorem QHi (cs o m ds ok) (k : List AV → Option β) (l) : Qid cs o (.agg m) (.agg ds) ok k l = okB ((m == ds.length) && (Nat.ble (o + m) cs.length && ds.all ok)) (k (putCells cs o ds)) () :=
 Qdt (by simp only [Bool.and_eq_true, beq_iff_eq, QjR]) _ _
theorem QwM (cs : List AV) (o : Nat) (v : AV) (ok : AV → Bool) (k : List AV → Option β) : (if o < cs.length ∧ ok v = true then k (cs.set o v) else none) = okB (Nat.blt o cs.length && ok v) (k (cs.set o v)) () :=
 Qdt (by simp only [Bool.and_eq_true, Qnh]) _ _
theorem QFK (cs o x ok) (k : List AV → Option β) (l) : Qid cs o .one (.b x) ok k l = okB (Nat.blt o cs.length && ok (.b x)) (k (cs.set o (.b x))) () := QwM ..
theorem QFq (cs o c x ok) (k : List AV → Option β) (l) : Qid cs o .one (.i c x) ok k l = okB (Nat.blt o cs.length && ok (.i c x)) (k (cs.set o (.i c x))) () := QwM ..
theorem QFW (cs o x ok) (k : List AV → Option β) (l) : Qid cs o .one (.s x) ok k l = okB (Nat.blt o cs.length && ok (.s x)) (k (cs.set o (.s x))) () := QwM ..
theorem QGV (cs o ok) (k : List AV → Option β) (l) : Qid cs o .one .nil ok k l = okB (Nat.blt o cs.length && ok .nil) (k (cs.set o .nil)) () := QwM ..
theorem QDb (cs o j ok) (k : List AV → Option β) (l) : Qid cs o .one (.sl j) ok k l = okB (Nat.blt o cs.length && ok (.sl j)) (k (cs.set o (.sl j))) () := QwM ..
theorem Qyc (cs o n r ok) (k : List AV → Option β) (l) : Qid cs o .one (.imm n r) ok k l = okB (Nat.blt o cs.length && ok (.imm n r)) (k (cs.set o (.imm n r))) () := QwM ..
theorem QR5 (cs o ds) : putCells cs o ds = cs.take o ++ ds ++ cs.drop (o + ds.length) := _root_.id rfl
theorem QHV (P z rs f K) : Qf0 P z rs .normal f K = Ju (Qd4 f K P rs) (fun vs => Vi ((QgW vs).flat && (QmD (tkl z K) && Nat.ble z.length K.length)) (some (QgW vs, tkl z K)) ()) () := _root_.id rfl
theorem QHj (P z rs f K) : Qf0 P z rs .ret f K = Ju (Qd4 f K P rs) (fun vs => Vi ((QgW vs).flat && (QmD (tkl z K) && Nat.ble z.length K.length)) (some (QgW vs, tkl z K)) ()) () := _root_.id rfl
theorem QMl (K) : tkl [] K = [] := by cases K <;> rfl
theorem QKe (x z e K) : tkl (x :: z) (e :: K) = e :: tkl z K := _root_.id rfl
theorem QCR (P sh rs f K) : QiT P sh rs .normal f K = Ju (Qd4 f K P rs) (fun vs => (QcS K (QgW vs)).map fun p => QpG sh p.2) () := _root_.id rfl
theorem QDa (P sh rs f K) : QiT P sh rs .ret f K = Ju (Qd4 f K P rs) (fun vs => (QcS K (QgW vs)).map fun p => QpG sh p.2) () := _root_.id rfl
theorem QK9 (f K P) : Qd4 f K P [] = some [] := _root_.id rfl
theorem QMD (f K P t rs) : Qd4 f K P (.tmp t :: rs) = (Qd4 f K P rs).map (f t :: ·) := _root_.id rfl
theorem QHg (f K P x t rs) : Qd4 f K P (.cell x t :: rs) = Ju (QiO (tk P t) (X5 K (f x)) some ()) (fun v => (Qd4 f K P rs).map (v :: ·)) () := _root_.id rfl
theorem QnY {α γ : Type} (g : α → γ) (x : α) : (some x).map g = some (g x) := _root_.id rfl
theorem Quq {α γ : Type} (g : α → γ) : (none : Option α).map g = none := _root_.id rfl
theorem QIr (v) : QgW [v] = v := _root_.id rfl
theorem QIF (v w vs) : QgW (v :: w :: vs) = .tup (v :: w :: vs) := _root_.id rfl
theorem QHS : QgW [] = .tup [] := _root_.id rfl
theorem x_b (K x) : QcS K (.b x) = some (K, .b x) := _root_.id rfl
theorem x_i (K c x) : QcS K (.i c x) = some (K, .i c x) := _root_.id rfl
theorem x_s (K x) : QcS K (.s x) = some (K, .s x) := _root_.id rfl
theorem QNa (K) : QcS K .nil = some (K, .nil) := _root_.id rfl
theorem QIZ (K n r) : QcS K (.imm n r) = none := by simp [QcS]
theorem QM6 (K cs) : QcS K (.agg cs) = (Qfo K cs).map fun p => (p.1, .agg p.2) := by simp [QcS]
theorem QNs (K cs) : QcS K (.tup cs) = (Qfo K cs).map fun p => (p.1, .tup p.2) := by simp [QcS]
def QEy (K : KS) (e : Option Ent) (j : Nat) : Option (KS × AV) := match e with | some (.lst n rows) => if Qs rows = true then some (K.set j none, .own n rows) else none | _ => none
theorem QTC (K j) : QcS K (.sl j) = QEy K (kg K j) j := by rw [QcS]; rfl
theorem QKw (K n r j) : QEy K (some (.lst n r)) j = cond (Qs r) (some (K.set j none, .own n r)) none := Qdt Iff.rfl _ _
theorem QHE (K) : Qfo K [] = some (K, []) := by simp [Qfo]
def Qt4 (e : Option (KS × AV)) (cs : List AV) : Option (KS × List AV) := match e with | some (K1, c') => (Qfo K1 cs).map fun p => (p.1, c' :: p.2) | none => none
theorem QEc (K c cs) : Qfo K (c :: cs) = Qt4 (QcS K c) cs := by rw [Qfo]; rfl
theorem QUT (K c cs) : Qt4 (some (K, c)) cs = (Qfo K cs).map fun p => (p.1, c :: p.2) := _root_.id rfl
theorem QQL (cs) : Qt4 none cs = none := _root_.id rfl
theorem QGN (z sl rg f K) (k : Fr → KS → Option β) (l) : QgF z sl rg f K k l = VG rg f K [] (fun f K π => Vi (ndB π) (onz z π (V3 (QCI K π) (fun K' => k (QAn f π sl) K') ()) ()) ()) () := _root_.id rfl
theorem QMF (π) (q : Option β) (l) : onz [] π q l = q := _root_.id rfl
theorem QJR (x z π) (q : Option β) (l) : onz (x :: z) π q l = Vi (pfx (x :: z) π) q () := _root_.id rfl
theorem QSK (π) : pfx [] π = true := _root_.id rfl
theorem QUW (x z y π) : pfx (x :: z) (y :: π) = ((x == y) && pfx z π) := by rw [← Qlc]; rfl
theorem QT2 (x : Nat) : ([] : List Nat).contains x = false := _root_.id rfl
theorem QRf (x y : Nat) (l : List Nat) : (y :: l).contains x = ((x == y) || l.contains x) := List.contains_cons
theorem QUf (b : Bool) : (false || b) = b := by cases b <;> rfl
theorem QVo (b : Bool) : (true || b) = true := by cases b <;> rfl
theorem QEv (f K π) (k : Fr → KS → List Nat → Option β) (l) : VG [] f K π k l = k f K π := _root_.id rfl
theorem n_r (i r f K π) (k : Fr → KS → List Nat → Option β) (l) : VG (.r i :: r) f K π k l = VG r f K (π ++ [i]) k () := _root_.id rfl
def Qn4 (v : AV) (t n : Nat) (r : List Pt) (f : Fr) (K : KS) (π : List Nat) (k : Fr → KS → List Nat → Option β) (_ : Lk (f, k)) : Option β := match v with
  | .sl j => VG r f K (π ++ [j]) k ()
  | .ptr j _ _ => VG r f K (π ++ [j]) k ()
  | .nil => VG r (up f t (.sl K.length)) (K ++ [some (.lst n [])]) (π ++ [K.length]) k ()
  | _ => none
theorem n_s (t n r f K π) (k : Fr → KS → List Nat → Option β) (l) : VG (.s t n :: r) f K π k l = Qn4 (f t) t n r f K π k () := by simp only [VG, Qn4]; rfl
theorem QKf (j t n r f K π) (k : Fr → KS → List Nat → Option β) (l) : Qn4 (.sl j) t n r f K π k l = VG r f K (π ++ [j]) k () := _root_.id rfl
theorem QGF (j i o t n r f K π) (k : Fr → KS → List Nat → Option β) (l) : Qn4 (.ptr j i o) t n r f K π k l = VG r f K (π ++ [j]) k () := _root_.id rfl
theorem QFj (t n r f K π) (k : Fr → KS → List Nat → Option β) (l) : Qn4 .nil t n r f K π k l = VG r (up f t (.sl K.length)) (K ++ [some (.lst n [])]) (π ++ [K.length]) k () := _root_.id rfl
def Qou (c : Option AV) (r : List Pt) (f : Fr) (K : KS) (π : List Nat) (k : Fr → KS → List Nat → Option β) (_ : Lk (f, k)) : Option β := match c with
  | some (.sl i) => VG r f K (π ++ [i]) k ()
  | some (.ptr i _ _) => VG r f K (π ++ [i]) k ()
  | _ => none
def QqS (e : Option Ent) (o : Nat) (r : List Pt) (f : Fr) (K : KS) (π : List Nat) (k : Fr → KS → List Nat → Option β) (_ : Lk (f, k)) : Option β := match e with
  | some (.box cs) => Qou (cs[o]?) r f K π k ()
  | _ => none
def Qt5 (q : Option Nat) (o : Nat) (r : List Pt) (f : Fr) (K : KS) (π : List Nat) (k : Fr → KS → List Nat → Option β) (_ : Lk (f, k)) : Option β := match q with
  | some j => QqS (kg K j) o r f K π k ()
  | none => none
theorem n_c (q o n r f K π) (k : Fr → KS → List Nat → Option β) (l) : VG (.c q o n :: r) f K π k l = Qt5 (π[q]?) o r f K π k () := by
 simp only [VG, Qt5, QqS, Qou]
 cases π[q]? with
 | none => rfl
 | some j =>
  simp only
  cases kg K j with
  | none => rfl
  | some e =>
   cases e with
   | box cs =>
    simp only
    cases cs[o]? with
    | none => rfl
    | some c => cases c <;> rfl
   | lst _ _ => rfl
theorem QOO (j o r f K π) (k : Fr → KS → List Nat → Option β) (l) : Qt5 (some j) o r f K π k l = QqS (kg K j) o r f K π k () := _root_.id rfl
theorem QJP (cs o r f K π) (k : Fr → KS → List Nat → Option β) (l) : QqS (some (.box cs)) o r f K π k l = Qou (cs[o]?) r f K π k () := _root_.id rfl
theorem QOc (i r f K π) (k : Fr → KS → List Nat → Option β) (l) : Qou (some (.sl i)) r f K π k l = VG r f K (π ++ [i]) k () := _root_.id rfl
theorem QMC (i a b r f K π) (k : Fr → KS → List Nat → Option β) (l) : Qou (some (.ptr i a b)) r f K π k l = VG r f K (π ++ [i]) k () := _root_.id rfl
def Qor (c : Option AV) (cs : List AV) (t o n : Nat) (r : List Pt) (f : Fr) (K : KS) (π : List Nat) (k : Fr → KS → List Nat → Option β) (_ : Lk (f, k)) : Option β := match c with
  | some (.sl j) => VG r f K (π ++ [j]) k ()
  | some .nil => VG r (up f t (.agg (cs.set o (.sl K.length)))) (K ++ [some (.lst n [])]) (π ++ [K.length]) k ()
  | _ => none
def Quu (v : AV) (t o n : Nat) (r : List Pt) (f : Fr) (K : KS) (π : List Nat) (k : Fr → KS → List Nat → Option β) (_ : Lk (f, k)) : Option β := match v with
  | .agg cs => Qor (cs[o]?) cs t o n r f K π k ()
  | _ => none
theorem n_g (t o n r f K π) (k : Fr → KS → List Nat → Option β) (l) : VG (.g t o n :: r) f K π k l = Quu (f t) t o n r f K π k () := by
 simp only [VG, Quu, Qor]
 cases f t with
 | agg cs =>
  simp only
  cases cs[o]? with
  | none => rfl
  | some c => cases c <;> rfl
 | _ => rfl
theorem QKF (cs t o n r f K π) (k : Fr → KS → List Nat → Option β) (l) : Quu (.agg cs) t o n r f K π k l = Qor (cs[o]?) cs t o n r f K π k () := _root_.id rfl
theorem QOv (j cs t o n r f K π) (k : Fr → KS → List Nat → Option β) (l) : Qor (some (.sl j)) cs t o n r f K π k l = VG r f K (π ++ [j]) k () := _root_.id rfl
theorem QOU (cs t o n r f K π) (k : Fr → KS → List Nat → Option β) (l) : Qor (some .nil) cs t o n r f K π k l = VG r (up f t (.agg (cs.set o (.sl K.length)))) (K ++ [some (.lst n [])]) (π ++ [K.length]) k () := _root_.id rfl
theorem QJL : ndB [] = true := _root_.id rfl
theorem QMc (x l) : ndB (x :: l) = (!l.contains x && ndB l) := _root_.id rfl
def krn (K : KS) (π : List Nat) (l : List Nat) : KS := l.map fun j => (kg K j).map (Qjp π)
theorem QP3 (K π) : QCI K π = krn K π π := _root_.id rfl
theorem QHb (K π) : krn K π [] = [] := _root_.id rfl
theorem QF1 (K π j l) : krn K π (j :: l) = (kg K j).map (Qjp π) :: krn K π l := _root_.id rfl
theorem QND (π cs) : Qjp π (.box cs) = .box (Qfj π cs) := _root_.id rfl
theorem QIn (π n r) : Qjp π (.lst n r) = .lst n r := _root_.id rfl
theorem QJQ (π) : Qfj π [] = [] := by simp [Qfj]
theorem QPB (π c cs) : Qfj π (c :: cs) = ren π c :: Qfj π cs := by simp [Qfj]
def slO : Option Nat → AV | some i => .sl i | none => .u
def QHI (i o : Nat) : Option Nat → AV | some j => .ptr j i o | none => .u
theorem QIk (i) : slO (some i) = .sl i := _root_.id rfl
theorem QLd : slO none = .u := _root_.id rfl
theorem QFk (i o j) : QHI i o (some j) = .ptr j i o := _root_.id rfl
theorem QHh (i o) : QHI i o none = .u := _root_.id rfl
theorem QGb (π j) : ren π (.sl j) = slO (Qm3 π j) := by simp only [ren]; rfl
theorem QAC (π j i o) : ren π (.ptr j i o) = QHI i o (Qm3 π j) := by simp only [ren]; rfl
theorem QC3 (π cs) : ren π (.agg cs) = .agg (Qfj π cs) := by simp [ren]
theorem QCs (π cs) : ren π (.tup cs) = .tup (Qfj π cs) := by simp [ren]
theorem QAr (π g cs) : ren π (.clo g cs) = .clo g (Qfj π cs) := by simp [ren]
theorem QFv (π x) : ren π (.b x) = .b x := by simp [ren]
theorem QLy (π c x) : ren π (.i c x) = .i c x := by simp [ren]
theorem QLa (π x) : ren π (.s x) = .s x := by simp [ren]
theorem QM5 (π) : ren π .nil = .nil := by simp [ren]
theorem QOg (π) : ren π .u = .u := by simp [ren]
theorem QCD (π n r) : ren π (.imm n r) = .imm n r := by simp [ren]
theorem QxN (π n r i o) : ren π (.iptr n r i o) = .iptr n r i o := by simp [ren]
theorem QFZ (j) : Qm3 [] j = none := _root_.id rfl
theorem QHB (x l j) : Qm3 (x :: l) j = sel (x == j) (some 0) ((Qm3 l j).map (· + 1)) () := by
 rw [Qm3]; exact Qdt (by simp) _ _
theorem QEX (f π l) : QAn f π l = frm (frl f π l) := _root_.id rfl
theorem QGn (f π) : frl f π [] = [] := _root_.id rfl
theorem QFe (f π t l) : frl f π (t :: l) = (t, ren π (f t)) :: frl f π l := _root_.id rfl
theorem QTq (z la rt f K) : Qg2 z la rt .normal f K = QgF z la.sl la.rg f K (fun f K => some (.inl (f, K))) () := _root_.id rfl
theorem QT8 (z la rt f K) : Qg2 z la rt .ret f K = QgF z rt.sl rt.rg f K (fun f K => some (.inr (.ret, f, K))) () := _root_.id rfl
theorem QTH (z la rt i f K) : Qg2 z la rt (.exit i) f K = QgF z la.xs la.xr f K (fun f K => some (.inr (.exit i, f, K))) () := _root_.id rfl
theorem QOH (t x y) : QW t (.seq x y) = (QW t x).or (QW t y) := _root_.id rfl
theorem QGA (t c x y) : QW t (.cond c x y) = (QW t x).or (QW t y) := _root_.id rfl
theorem QBO (t i x) : QW t (.block i x) = QW t x := _root_.id rfl
theorem QHY (t x) : QW t (.loop x) = sel (tag x == t) (some x) (QW t x) () := _root_.id rfl
theorem QxV (t i o d) : QW t (.region i o d) = none := _root_.id rfl
theorem QGi (t) : QW t .skip = none := _root_.id rfl
theorem QLX (t) : QW t .ret = none := _root_.id rfl
theorem QGS (t i) : QW t (.exit i) = none := _root_.id rfl
theorem QEj (x : Option Code) : (none : Option Code).or x = x := by cases x <;> rfl
theorem QEo (x : Code) (y : Option Code) : (some x).or y = some x := _root_.id rfl
theorem l_0 (K) : Qd7 K [] = [] := by simp [Qd7]
theorem l_s (K c cs) : Qd7 K (c :: cs) = Qa9 K c :: Qd7 K cs := by simp [Qd7]
def Qy1 (e : Option Ent) : AV := match e with | some (.lst n rows) => .imm n (QE rows) | _ => .u
theorem QS1 (K j) : Qa9 K (.sl j) = Qy1 (kg K j) := by simp only [Qa9]; rfl
theorem QJp (n r) : Qy1 (some (.lst n r)) = .imm n (QE r) := _root_.id rfl
theorem QNU (K j) : QpT K j = Qy1 (kg K j) := _root_.id rfl
def QtA (K : KS) (e : Option Ent) (i o : Nat) : AV := match e with
 | some (.lst n rows) => .iptr n (QE rows) i o
 | some (.box cs) => .iptr cs.length [cs.map (QgA K)] i o
 | none => .u
theorem QLK (K j i o) : Qa9 K (.ptr j i o) = QtA K (kg K j) i o := by simp only [Qa9]; rfl
theorem QE8 (K cs i o) : QtA K (some (.box cs)) i o = .iptr cs.length [cs.map (QgA K)] i o := _root_.id rfl
theorem QGs (K n r i o) : QtA K (some (.lst n r)) i o = .iptr n (QE r) i o := _root_.id rfl
theorem QER (K n r i o) : Qa9 K (.iptr n r i o) = .iptr n r i o := by simp [Qa9]
theorem QJx (K j) : QgA K (.sl j) = QpT K j := _root_.id rfl
theorem QS9 (K x) : QgA K (.b x) = .b x := _root_.id rfl
theorem QUx (K c x) : QgA K (.i c x) = .i c x := _root_.id rfl
theorem QQi (K x) : QgA K (.s x) = .s x := _root_.id rfl
theorem QRz (K) : QgA K .nil = .nil := _root_.id rfl
theorem QQ3 (K n r) : QgA K (.imm n r) = .imm n r := _root_.id rfl
theorem QF3 (r : List AV) (rs) : QR (r :: rs) 0 = r := _root_.id rfl
theorem QLH (K cs) : Qa9 K (.agg cs) = .agg (Qd7 K cs) := by simp [Qa9]
theorem QL4 (K cs) : Qa9 K (.tup cs) = .tup (Qd7 K cs) := by simp [Qa9]
theorem QPx (K g cs) : Qa9 K (.clo g cs) = .clo g (Qd7 K cs) := by simp [Qa9]
theorem l_b (K x) : Qa9 K (.b x) = .b x := by simp [Qa9]
theorem l_i (K c x) : Qa9 K (.i c x) = .i c x := by simp [Qa9]
theorem QUQ (K x) : Qa9 K (.s x) = .s x := by simp [Qa9]
theorem l_n (K) : Qa9 K .nil = .nil := by simp [Qa9]
theorem QIB (K n r) : Qa9 K (.imm n r) = .imm n r := by simp [Qa9]
theorem QCY : QE [] = [] := by simp [QE]
theorem QAK (r rs) : QE (r :: rs) = VE r :: QE rs := by simp [QE]
theorem QF0 : VE [] = [] := by simp [VE]
theorem QFx (c cs) : VE (c :: cs) = Xe c :: VE cs := by simp [VE]
theorem QUK (x) : Xe (.b x) = .b x := by simp [Xe]
theorem QQF (c x) : Xe (.i c x) = .i c x := by simp [Xe]
theorem QRP (x) : Xe (.s x) = .s x := by simp [Xe]
theorem QUF : Xe .nil = .nil := by simp [Xe]
theorem QG8 (n r) : Xe (.imm n r) = .imm n r := by simp [Xe]
theorem QFw (n r) : Xe (.own n r) = .imm n (QE r) := by simp [Xe]
theorem QNl (m n r) : VH m (.own n r) = (.sl m, [some (.lst n r)]) := by simp [VH]
theorem QNC (m cs) : VH m (.agg cs) = (.agg (Qct m cs).1, (Qct m cs).2) := by simp [VH]
theorem QOA (m cs) : VH m (.tup cs) = (.tup (Qct m cs).1, (Qct m cs).2) := by simp [VH]
theorem i_b (m x) : VH m (.b x) = (.b x, []) := by simp [VH]
theorem i_i (m c x) : VH m (.i c x) = (.i c x, []) := by simp [VH]
theorem QVu (m x) : VH m (.s x) = (.s x, []) := by simp [VH]
theorem i_n (m) : VH m .nil = (.nil, []) := by simp [VH]
theorem QRj (m) : Qct m [] = ([], []) := by simp [Qct]
theorem QTx (m c cs) : Qct m (c :: cs) = ((VH m c).1 :: (Qct (m + (VH m c).2.length) cs).1, (VH m c).2 ++ (Qct (m + (VH m c).2.length) cs).2) := by simp [Qct]
theorem QEB {α γ : Type} (x : α) (y : γ) : (x, y).1 = x := _root_.id rfl
theorem QMP {α γ : Type} (x : α) (y : γ) : (x, y).2 = y := _root_.id rfl
def QqB (e : Option (List AV)) (k : AV → Option β) (_ : Lk k) : Option β := match e with | some cs => k (.agg cs) | none => none
theorem QJv (K z p ps l) : QlK K (.st z p) ps k l = QqB (Qa5 K (p[·]?) z ps) k () := _root_.id rfl
theorem QGT (K z m ps l) : QlK K (.arr z m) ps k l = QqB (Qa5 K (fun i => some (i * m, m)) z ps) k () := _root_.id rfl
theorem QKy (cs l) : QqB (some cs) k l = k (.agg cs) := _root_.id rfl
def QEz (fl : Bool) (ns : List Nat) (e : Option (List AV)) (K : KS) (len m : Nat) (k : AV → KS → Option β) (_ : Lk k) : Option β := match e with
  | some cs => cond (yB fl cs) (match Vv K cs with
   | some (K1, cs) => V3 (K1 ++ [some (.lst m ((QbH m len cs).map (nz ns)))]) (fun K' => k (.sl K.length) K') ()
   | none => none) none
  | none => none
theorem QQe (fl ns K e m z) (k : AV → KS → Option β) (l) : QhY fl ns K (some (e, m, z)) 0 [] k l = V3 (K ++ [some (.lst m [])]) (fun K' => k (.sl K.length) K') () := _root_.id rfl
theorem s_b (fl ns K e m z len ps) (k : AV → KS → Option β) (l) : QhY fl ns K (some (e, m, z)) (len + 1) ps k l = okB (Nat.ble ((len + 1) * m) 16777216) (QEz fl ns (Qa5 K (fun i => some (i * m, m)) (Qes (len + 1) z) ps) K (len + 1) m k ()) () :=
 Qdt QjR _ _
def QEJ (ns : List Nat) (e : Option (KS × List AV)) (n len m : Nat) (k : AV → KS → Option β) (_ : Lk k) : Option β := match e with
   | some (K1, cs) => V3 (K1 ++ [some (.lst m ((QbH m len cs).map (nz ns)))]) (fun K' => k (.sl n) K') ()
   | none => none
theorem QSn (fl ns K cs len m) (k : AV → KS → Option β) (l) : QEz fl ns (some cs) K len m k l = cond (yB fl cs) (QEJ ns (Vv K cs) K.length len m k ()) none := _root_.id rfl
theorem QTM : zB [] = true := _root_.id rfl
theorem QRa (l : List Nat) : zB (0 :: l) = zB l := _root_.id rfl
theorem QQQ (n : Nat) (l : List Nat) : zB ((n + 1) :: l) = false := _root_.id rfl
theorem QSA (cs) : yB false cs = true := _root_.id rfl
theorem QUy (cs) : yB true cs = noS cs := _root_.id rfl
theorem QRC : noS [] = true := _root_.id rfl
theorem QRL (c n l) : noS (.i c n :: l) = noS l := _root_.id rfl
theorem QTl (x l) : noS (.b x :: l) = noS l := _root_.id rfl
theorem QRn (x l) : noS (.s x :: l) = noS l := _root_.id rfl
theorem QUH (l) : noS (.nil :: l) = noS l := _root_.id rfl
theorem QS7 (n r l) : noS (.imm n r :: l) = noS l := _root_.id rfl
theorem QRR (j l) : noS (.sl j :: l) = false := _root_.id rfl
theorem QQz (ns K1 cs n len m) (k : AV → KS → Option β) (l) : QEJ ns (some (K1, cs)) n len m k l = V3 (K1 ++ [some (.lst m ((QbH m len cs).map (nz ns)))]) (fun K' => k (.sl n) K') () := _root_.id rfl
theorem QTy (K p cs) : Qa5 K p cs [] = some cs := _root_.id rfl
def Qxy (K : KS) (place : Nat → Option (Nat × Nat)) (cs : List AV) (p : Option (Nat × Nat)) (d : Option (List AV)) (rest : List (Nat × AV)) : Option (List AV) := match p, d with
  | some (o, m), some ds => if ds.length = m ∧ o + m ≤ cs.length then Qa5 K place (putCells cs o ds) rest else none
  | _, _ => none
theorem QSH (K p cs i v r) : Qa5 K p cs ((i, v) :: r) = Qxy K p cs (p i) (QdM K v) r := by simp only [Qa5]; rfl
theorem QUe (K p cs o m ds r) : Qxy K p cs (some (o, m)) (some ds) r = cond ((ds.length == m) && Nat.ble (o + m) cs.length) (Qa5 K p (putCells cs o ds) r) none :=
 Qdt (by simp only [Bool.and_eq_true, beq_iff_eq, QjR]) _ _
theorem QVf (K cs) : QdM K (.agg cs) = some cs := _root_.id rfl
theorem QTm (K x) : QdM K (.b x) = some [.b x] := _root_.id rfl
theorem QP4 (K c x) : QdM K (.i c x) = some [.i c x] := _root_.id rfl
theorem QSI (K x) : QdM K (.s x) = some [.s x] := _root_.id rfl
theorem QT9 (K) : QdM K .nil = some [.nil] := _root_.id rfl
theorem QEW (K n r) : QdM K (.imm n r) = some [.imm n r] := _root_.id rfl
theorem QNo (K j) : QdM K (.sl j) = cond (kg K j).isSome (some [.sl j]) none := by
 show (if ZI K (.sl j) = true then some [AV.sl j] else none) = _; exact Qdt Iff.rfl _ _
theorem QVl (z) : Qes 0 z = [] := by simp [Qes]
theorem QTG (n z) : Qes (n + 1) z = z ++ Qes n z := by simp [Qes, List.replicate_succ]
theorem QOF (K) : Vv K [] = some (K, []) := _root_.id rfl
theorem QKU (K x cs) : Vv K (.b x :: cs) = (Vv K cs).map fun p => (p.1, .b x :: p.2) := by simp [Vv, AV.closed]
theorem QLL (K c x cs) : Vv K (.i c x :: cs) = (Vv K cs).map fun p => (p.1, .i c x :: p.2) := by simp [Vv, AV.closed]
theorem QPG (K x cs) : Vv K (.s x :: cs) = (Vv K cs).map fun p => (p.1, .s x :: p.2) := by simp [Vv, AV.closed]
theorem QKg (K cs) : Vv K (.nil :: cs) = (Vv K cs).map fun p => (p.1, .nil :: p.2) := by simp [Vv, AV.closed]
theorem QC7 (K n r cs) : Vv K (.imm n r :: cs) = (Vv K cs).map fun p => (p.1, .imm n r :: p.2) := by simp [Vv, AV.closed]
def QLr (e : Option Ent) (K : KS) (j : Nat) (cs : List AV) : Option (KS × List AV) := match e with
  | some (.lst n rows) => (Vv (K.set j none) cs).map fun p => (p.1, .own n rows :: p.2)
  | _ => none
theorem QFr (K j cs) : Vv K (.sl j :: cs) = QLr (kg K j) K j cs := by simp only [Vv]; rfl
theorem QKO (K n r j cs) : QLr (some (.lst n r)) K j cs = (Vv (K.set j none) cs).map fun p => (p.1, .own n r :: p.2) := _root_.id rfl
theorem QH9 (m cs) : QbH m 0 cs = [] := _root_.id rfl
theorem QPt (m l cs) : QbH m (l + 1) cs = cs.take m :: QbH m l (cs.drop m) := _root_.id rfl
def Qvc (e : Option (List (List AV) × KS)) (n m b : Nat) (s : AV) (k : AV → KS → Option β) (_ : Lk k) : Option β := match e with
  | some (rows', K1) => match s with
   | .sl j => match kg K1 j with
    | some (.lst n' rows) => if n' = m then Vi (decide ((rows.length + rows'.length) * (b + 1) ≤ 140737488355328)) (V3 (K1.set j none ++ [some (.lst m (rows ++ rows'))]) (fun K' => k (.sl n) K') ()) () else none
    | _ => none
   | .nil => Vi (decide (rows'.length * (b + 1) ≤ 140737488355328)) (V3 (K1 ++ [some (.lst m rows')]) (fun K' => k (.sl n) K') ()) ()
   | _ => none
  | none => none
def QyD (e : Option Ent) (r : List (List AV)) (K1 : KS) (n m b j : Nat) (k : AV → KS → Option β) (_ : Lk k) : Option β := match e with
    | some (.lst n' rows) => if n' = m then Vi (decide ((rows.length + r.length) * (b + 1) ≤ 140737488355328)) (V3 (K1.set j none ++ [some (.lst m (rows ++ r))]) (fun K' => k (.sl n) K') ()) () else none
    | _ => none
def QFV (K : KS) (t : Option (TypeId × Nat × List AV)) (bytes : Option Nat) (s x : AV) (k : AV → KS → Option β) (_ : Lk k) : Option β := Qnd K t bytes s x k ()
def QAv (P : Program) (t : Option (TypeId × Nat × List AV)) : Option Nat := t.bind fun q => tb P q.1
theorem QMA {P : Program} {D : Orc} {f : Fr} {K : KS} (s x t tx ts) (k : AV → KS → Option β) (l) : oop P D (.call ⟨.builtin .append, List.toArray [s, x], List.toArray (t :: tx :: ts)⟩) f K k l = okB (QbK P tx && !(Qcw s && QfW (ev f x))) (QFV K (tse P t) (QAv P (tse P t)) (ev f s) (ev f x) k ()) () := by
 simp only [oop, okB, QFV, QAv]; cases QbK P tx <;> cases (Qcw s && QfW (ev f x)) <;> rfl
theorem QT6 (d) : Qcw (.tmp d) = false := _root_.id rfl
theorem QSW : Qcw (.const (.slice none 0 0)) = true := _root_.id rfl
theorem QVn (n r) : QfW (.imm n r) = false := _root_.id rfl
theorem QU7 : QfW .nil = false := _root_.id rfl
theorem QQk (j) : QfW (.sl j) = true := _root_.id rfl
def Qzw (ns : List Nat) (K : KS) (t : Option (TypeId × Nat × List AV)) (bytes : Option Nat) (l c : AV) (k : AV → KS → Option β) (_ : Lk k) : Option β := Qu0 ns K t bytes l c k ()
theorem QQ2 {P : Program} {D : Orc} {f : Fr} {K : KS} (t x c) (k : AV → KS → Option β) (l) : oop P D (.makeSlice t x c) f K k l = Qzw (Qfb P t) K (tse P t) (QAv P (tse P t)) (ev f x) (ev f c) k () := _root_.id rfl
theorem QIy (ns K e m z b i c) (k : AV → KS → Option β) (l) : Qzw ns K (some (e, m, z)) (some (b + 1)) (.i .i64 i) (.i .i64 c) k l = Vi (decide (i = c)) (Vi (mkB i (b + 1)) (V3 (K ++ [some (.lst m (List.replicate i.toNat (nz ns z)))]) (fun K' => k (.sl K.length) K') ()) ()) () := _root_.id rfl
theorem QUL (i : Int) : (i = i) = True := by simp
theorem QM2 (P e m z) : QAv P (some (e, m, z)) = tb P e := _root_.id rfl
theorem a_1 (K e m z b s x) (k : AV → KS → Option β) (l) : QFV K (some (e, m, z)) (some (b + 1)) s x k l = Qvc (QdJ K m x) K.length m b s k () := _root_.id rfl
theorem a_2 (r K1 n m b j) (k : AV → KS → Option β) (l) : Qvc (some (r, K1)) n m b (.sl j) k l = QyD (kg K1 j) r K1 n m b j k () := _root_.id rfl
theorem a_3 (r K1 n m b) (k : AV → KS → Option β) (l) : Qvc (some (r, K1)) n m b .nil k l = Vi (rm r.length (b + 1)) (V3 (K1 ++ [some (.lst m r)]) (fun K' => k (.sl n) K') ()) () := by
 simp [Qvc, rm]
theorem a_4 (r' r K1 n m b j) (k : AV → KS → Option β) (l) : QyD (some (.lst m r')) r K1 n m b j k l = Vi (rm (r'.length + r.length) (b + 1)) (V3 (K1.set j none ++ [some (.lst m (r' ++ r))]) (fun K' => k (.sl n) K') ()) () := by
 simp [QyD, rm]
theorem QUY (K m) : QdJ K m .nil = some ([], K) := _root_.id rfl
theorem QUc (K m r) : QdJ K m (.imm m r) = some (r, K) := by simp [QdJ]
def QHN (e : Option Ent) (K : KS) (m k : Nat) : Option (List (List AV) × KS) := match e with
  | some (.lst n rows) => if n = m then some (rows, K.set k none) else none
  | _ => none
theorem QTD (K m j) : QdJ K m (.sl j) = QHN (kg K j) K m j := _root_.id rfl
theorem QTJ (K m j r) : QHN (some (.lst m r)) K m j = some (r, K.set j none) := by simp [QHN]
end
section
variable (T : Tld)
theorem QNk (n h) : (orc T (n + 1) h).w = T.wt := _root_.id rfl
theorem QO1 (n h g) : (orc T n h).z g = (lk T.pz g).getD [] := by cases n <;> rfl
theorem QJD (n h) : (orc T (n + 1) h).v = T.vt := _root_.id rfl
theorem QPA (n h) : (orc T n h).m = CM T n := by cases n <;> rfl
theorem QMr (n h) : (orc T n h).a = CA T n := by cases n <;> rfl
theorem QON (n h) : (orc T (n + 1) h).q = T.qt := _root_.id rfl
theorem QM0 (n h) : (orc T (n + 1) h).s = T.st := _root_.id rfl
theorem QJY (n h) : (orc T n h).p = CP T n := by cases n <;> rfl
theorem QPl (n h) : (orc T n h).l = LP T n h := _root_.id rfl
noncomputable def cpF (T : Tld) (n g : Nat) (fn : Option Func) (a : Option Ann) (args : List AV) : Option AV := match a with
 | some a => match fn with
  | some f => cond (Nat.ble args.length f.ntmps) (VK T.P (orc T n g) a (f.body.getD .skip) (QiT T.P a.sh f.results.toList) (VQ args) [] ()) none
  | none => cond (Nat.ble args.length 0) (VK T.P (orc T n g) a .skip (QiT T.P a.sh []) (VQ args) [] ()) none
 | none => T.xt g args
noncomputable def caF (T : Tld) (n g : Nat) (fn : Option Func) (a : Option Ann) (K : KS) (args : List AV) : Option (AV × KS) := match a with
 | some a => match fn with
  | some f => cond (!a.ak.isEmpty && (Nat.beq K.length a.ak.length && Nat.ble args.length f.ntmps)) (VK T.P (orc T n g) a (f.body.getD .skip) (Qf0 T.P a.ak f.results.toList) (VQ args) K ()) none
  | none => cond (!a.ak.isEmpty && (Nat.beq K.length a.ak.length && Nat.ble args.length 0)) (VK T.P (orc T n g) a .skip (Qf0 T.P a.ak []) (VQ args) K ()) none
 | none => none
theorem Qft (n g K args) : CA T (n + 1) g K args = caF T n g (T.P.funcs[g]?) (T.at g) K args := by
 show (match T.at g with | some a => cond _ _ _ | none => none) = _
 unfold caF body Qmy ntm
 cases T.at g with
 | none => rfl
 | some a => cases T.P.funcs[g]? <;> rfl
theorem Qyk (n g K args a) (x1 x2 x3 x4 x5 x6 m) (rs : List ResultVar) (c x7 x8 x9 x10 x11 x12 x13) : caF T n g (some ⟨x1, x2, x3, x4, x5, x6, m, List.toArray rs, some c, x7, x8, x9, x10, x11, x12, x13⟩) (some a) K args = cond (!a.ak.isEmpty && ((K.length == a.ak.length) && Nat.ble args.length m)) (VK T.P (orc T n g) a c (Qf0 T.P a.ak rs) (VQ args) K ()) none := by rw [← Qlc]; rfl
theorem QHT {α : Type} (x : α) (l : List α) : (x :: l).isEmpty = false := _root_.id rfl
theorem QRJ : (!false) = true := _root_.id rfl
noncomputable def cmF (T : Tld) (n g : Nat) (fn : Option Func) (a : Option Ann) (K : KS) (args : List AV) : Option AV := match a with
 | some a => cond (Nat.ble args.length (match fn with | some f => f.ntmps | none => 0)) (VK T.P (orc T n g) a (match fn with | some f => f.body.getD .skip | none => .skip) (QiT T.P a.sh (match fn with | some f => f.results.toList | none => [])) (VQ args) K ()) none
 | none => T.mt g K args
theorem Qqc (n g K args) : CM T (n + 1) g K args = cmF T n g (T.P.funcs[g]?) (T.at g) K args := by
 show (match T.at g with | some a => _ | none => _) = _
 unfold cmF body Qmy ntm
 cases T.at g with
 | none => rfl
 | some a => cases T.P.funcs[g]? <;> rfl
theorem QBC (n g K args) (h : T.at g = none) : CM T (n + 1) g K args = T.mt g K args := by rw [Qqc, h]; rfl
theorem Qxo (n g K args a) (x1 x2 x3 x4 x5 x6 m) (rs : List ResultVar) (c x7 x8 x9 x10 x11 x12 x13) : cmF T n g (some ⟨x1, x2, x3, x4, x5, x6, m, List.toArray rs, some c, x7, x8, x9, x10, x11, x12, x13⟩) (some a) K args = cond (Nat.ble args.length m) (VK T.P (orc T n g) a c (QiT T.P a.sh rs) (VQ args) K ()) none := _root_.id rfl
theorem Qc (n g args) : CP T (n + 1) g args = cpF T n g (T.P.funcs[g]?) (T.at g) args := by
 show (match T.at g with | some a => cond _ _ _ | none => T.xt g args) = _
 unfold cpF body Qmy ntm
 cases T.at g with
 | none => rfl
 | some a => cases T.P.funcs[g]? <;> rfl
theorem QVr (n g args) (h : T.at g = none) : CP T (n + 1) g args = T.xt g args := by rw [Qc, h]; rfl
theorem Qxm (n g args a) (x1 x2 x3 x4 x5 x6 m) (rs : List ResultVar) (c x7 x8 x9 x10 x11 x12 x13) : cpF T n g (some ⟨x1, x2, x3, x4, x5, x6, m, List.toArray rs, some c, x7, x8, x9, x10, x11, x12, x13⟩) (some a) args = cond (Nat.ble args.length m) (VK T.P (orc T n g) a c (QiT T.P a.sh rs) (VQ args) [] ()) none := _root_.id rfl
noncomputable def lpG (T : Tld) (n h : Nat) (a : Ann) (c : Option Code) (la : Option LA) (f : Fr) (K : KS) : Option (XE × Fr × KS) := match c, la with
    | some c, some la => run (fun s => VK T.P (orc T n h) a c (Qg2 a.ak la a.rt) s.1 s.2 ()) (f, K)
    | _, _ => none
noncomputable def lpF (T : Tld) (n h t : Nat) (fn : Option Func) (a : Option Ann) (f : Fr) (K : KS) : Option (XE × Fr × KS) := match a with
 | some a => lpG T n h a (QW t (match fn with | some f => f.body.getD .skip | none => .skip)) (lk a.lp t) f K
 | none => none
theorem Qn (n h t f K) : LP T (n + 1) h t f K = lpF T n h t (T.P.funcs[h]?) (T.at h) f K := by
 show (match T.at h with | some a => _ | none => none) = _
 unfold lpF
 cases T.at h <;> rfl
theorem QzR (n h t a f K) (x1 x2 x3 x4 x5 x6 m rs c x7 x8 x9 x10 x11 x12 x13) : lpF T n h t (some ⟨x1, x2, x3, x4, x5, x6, m, rs, some c, x7, x8, x9, x10, x11, x12, x13⟩) (some a) f K = lpG T n h a (QW t c) (lk a.lp t) f K := _root_.id rfl
theorem Qf (n h a c la f K) : lpG T n h a (some c) (some la) f K = run (fun s => VK T.P (orc T n h) a c (Qg2 a.ak la a.rt) s.1 s.2 ()) (f, K) := _root_.id rfl
theorem getD_some {α : Type} (x d : α) : (some x).getD d = x := _root_.id rfl
theorem Qle {α : Type} (d : α) : (none : Option α).getD d = d := _root_.id rfl
end
end Go.Proofs.YtcdffihcfeajfaaGreat.Am
namespace Go.Proofs.YtcdffihcfeajfaaGreat.Am
open Go
set_option linter.unusedVariables false
set_option linter.unusedSimpArgs false
section
variable {α β γ : Type} {c : α → List AV}
theorem Qtb (xs : List α) (i) : inb (xs.map c) i = inb xs i := by simp [inb]
theorem QQS (xs : List α) : lnR (xs.map c) = ln xs := by simp [lnR, ln]
theorem Qr6 [Inhabited α] (xs : List α) (i : Int) (h : inb xs i = true) : QR (xs.map c) i.toNat = c (gt xs i) := by
 obtain ⟨h0, h1⟩ := QfB.1 h
 have h2 : i.toNat < xs.length := by omega
 simp [QR, gt, List.getD_eq_getElem?_getD, h2]
theorem QLi (xs : List α) (i : Int) (h : inb xs i = true) : QpK (xs.map c) i.toNat = true := by
 unfold QpK
 obtain ⟨h0, h1⟩ := QfB.1 h
 rw [Nat.blt_eq]; simp; omega
theorem QPm (xs : List α) (l h : Int) : cut (xs.map c) l h = (cut xs l h).map c := by simp [cut, List.map_take, List.map_drop]
theorem QqZ (xs : List α) (i : Int) (ys : List α) (b : Nat) : Qez (xs.map c) i (ys.map c) b = Qez xs i ys b := by simp [Qez]
theorem QrF (xs : List α) (i : Int) (ys : List α) : Q4 (xs.map c) i (ys.map c) = (Q4 xs i ys).map c := by simp [Q4, List.map_take, List.map_drop]
theorem QIY (xs : List α) : (xs.map c).length = xs.length := by simp
theorem Qx8 (xs : List α) (n : Nat) (x : α) (i : Int) : inb (xs.set n x) i = inb xs i := by simp [inb]
theorem QDD [Inhabited α] (xs : List α) (x : α) (i : Int) (h : inb xs i = true) : gt (xs.set i.toNat x) i = x := by
 obtain ⟨h0, h1⟩ := QfB.1 h
 have h2 : i.toNat < xs.length := by omega
 simp [gt, List.getD_eq_getElem?_getD, h2]
theorem Qxx (xs : List α) (n : Nat) (x y : α) : (xs.set n x).set n y = xs.set n y := by simp
theorem Qwv (o : Option α) (g : β → γ) (f : α → Option β) : (o.bind f).map g = o.bind fun x => (f x).map g := by cases o <;> rfl
theorem QwC (b : Bool) (o : Option β) (g : β → γ) (l) : (Vi b o l).map g = Vi b (o.map g) () := by cases b <;> rfl
theorem Qv4 (b : Bool) (x y : Option β) (g : β → γ) : (cond b x y).map g = cond b (x.map g) (y.map g) := by cases b <;> rfl
theorem QyN {ρ δ : Type} (p : ρ → Option β) (q : δ → Option β) (x) (g : β → γ) : (evO p q x).map g = evO (fun r => (p r).map g) (fun r => (q r).map g) x := by cases x <;> rfl
theorem Qr1 (x : α) (f : α → Option β) : (some x).bind f = f x := _root_.id rfl
theorem QrT (o : Option α) (f : α → Option β) (g : β → Option γ) : (o.bind f).bind g = o.bind fun x => (f x).bind g := by cases o <;> rfl
theorem QCG {α' β' : Type} (f : α → α') (g : β → β') (x) : Sum.map f g (.inl x) = .inl (f x) := _root_.id rfl
theorem QDc {α' β' : Type} (f : α → α') (g : β → β') (x) : Sum.map f g (.inr x) = .inr (g x) := _root_.id rfl
end
class EncR {α : Type} (c : α → List AV) (r : List AV) (x : outParam α) : Prop where
 eq : r = c x
class EncL {α : Type} (c : α → List AV) (R : List (List AV)) (xs : outParam (List α)) : Prop where
 eq : R = xs.map c
instance {α : Type} (c : α → List AV) (x : α) : EncR c (c x) x := ⟨rfl⟩
instance {α : Type} (c : α → List AV) (xs : List α) : EncL c (xs.map c) xs := ⟨rfl⟩
instance {α : Type} (c : α → List AV) : EncL c [] [] := ⟨rfl⟩
instance {α : Type} (c : α → List AV) (r R x xs) [h : EncR c r x] [H : EncL c R xs] : EncL c (r :: R) (x :: xs) := ⟨by rw [h.eq, H.eq]; rfl⟩
instance {α : Type} (c : α → List AV) (R S xs ys) [h : EncL c R xs] [H : EncL c S ys] : EncL c (R ++ S) (xs ++ ys) := ⟨by rw [h.eq, H.eq]; simp⟩
instance {α : Type} (c : α → List AV) (R xs) (i : Nat) (r x) [h : EncL c R xs] [H : EncR c r x] : EncL c (R.set i r) (xs.set i x) := ⟨by rw [h.eq, H.eq, List.map_set]⟩
instance {α : Type} (c : α → List AV) (n : Nat) (r x) [H : EncR c r x] : EncL c (List.replicate n r) (List.replicate n x) := ⟨by rw [H.eq, List.map_replicate]⟩
theorem QHW {α : Type} {c : α → List AV} (xs : List α) (R) {ys} [h : EncL c R ys] : xs.map c ++ R = (xs ++ ys).map c := by rw [h.eq]; simp
theorem QHX {α : Type} {c : α → List AV} (xs : List α) (n : Nat) (R) {x} [h : EncR c R x] : (xs.map c).set n R = (xs.set n x).map c := by rw [h.eq, List.map_set]
theorem ZT {α : Type} {c : α → List AV} (h : ∀ x, X6 (c x) = true) (xs : List α) : Qs (xs.map c) = true := by
 induction xs with
 | nil => simp [Qs]
 | cons x xs ih => simp [Qs, h, ih]
theorem Qpa {α : Type} {c : α → List AV} (h : ∀ x, (c x).all AV.scal = true) (xs : List α) : QbL (xs.map c) = true := by
 induction xs with
 | nil => rfl
 | cons x xs ih => unfold QbL at ih ⊢; rw [List.map_cons, List.all_cons, h, ih]; rfl
theorem Qbz {α : Type} {c c' : α → List AV} (h : ∀ x, VE (c x) = c' x) (xs : List α) : QE (xs.map c) = xs.map c' := by
 induction xs with
 | nil => simp [QE]
 | cons x xs ih => simp [QE, h, ih]
theorem QHQ {α : Type} {c : α → List AV} (xs : List α) (n b : Nat) (m) : QmC (xs.map c).isEmpty (some (AV.own n [])) (Vi (rm (0 + xs.length) b) (some (AV.own n (xs.map c))) m) = Vi (rm (0 + xs.length) b) (some (AV.own n (xs.map c))) () := by
 cases xs with
 | nil => simp [QmC, oeq, Vi, rm]
 | cons r R => rfl
set_option linter.defProp false
set_option maxRecDepth 100000
def evA := aI @QLv <| aI @QH7 <| aI @QzF <| aI @QEn <| aI @Qyz <| aI @QEq <| aI @QN8 <| aI @QKj <| aI @QGc <| aI @QB2 <| aI @QxM <| aI @QQW <| aI @QPf <| aI @QU5 <| aI @QPi <| aI @QAo <| aI @QMX <| aI @QCL <| aI @QGg <| aI @QCF <| aI @Qx7 <| aI @QMq <| aI @QIx <| aI @QFa <| aI @QGL <| aI @QJC <| aI @QD8 <| aI @QzM <| aI @QNn <| aI @Qy0 <| aI @QGM <| aI @QGo <| aI @QFM <| aI @QK2 <| aI @QOJ <| aI @QL2 <| aI @QOh <| aI @QzO <| aI @Qqm <| aI @QNf <| aI @QCK <| aI @QxA <| aI @QGO <| aI @QGK <| aI @QLV <| aI @QJ5 <| aI @s_v <| aI @v_j <| aI @v_s <| aI @QIO <| aI @QJV <| aI @Qxo <| aI @Qvb <| aI @n_c <| aI @QOO <| aI @QJP <| aI @QOc <| aI @QMC <| aI @n_g <| aI @QKF <| aI @QOv <| aI @QOU <| aI @QGa <| aI @QJT <| aI @QFb <| aI @QIS <| aI @QGZ <| aI @QDZ <| aI @Qx6 <| aI @Qvp <| aI @Qvg <| aI @QuX <| aI @Qu5 <| aI @QUG <| aI @QSQ <| aI @QEL <| aI @QMF <| aI @QJR <| aI @QHV <| aI @QHj <| aI @QHz <| aI @QEa <| aI @QyI <| aI @QBu <| aI @QwL <| aI @QCf <| aI @Qx0 <| aI @QLp <| aI @QM1 <| aI @QF6 <| aI @QFg <| aI @QFD <|  aI @QCi <| aI @Qqm <| aI @QNJ <| aI @QJI <| aI @QCS <| aI @QOf <| aI @QID <| aI @Qz1 <| aI @Qxr <| aI @Qye <| aI @QJN <| aI @QAb <| aI @QMg <| aI @QJh <|
 aI @QAl <| aI @Qyf <| aI @QE3 <| aI @Qu8 <| aI @QxO <| aI @Qxh <| aI @Qxs <| aI @QEe <| aI @QDY <| aI @QDx <|
 aI @QPg <| aI @QFC <| aI @QCW <| aI @c_g <| aI @QSN <| aI @QEt <| aI @QEH <| aI @QEC <|
 aI @Qkr <| aI @Qv8 <| aI @Qtt <| aI @Qs7 <| aI @QtX <|
 aI @QHt <| aI @QwQ <| aI @QFz <| aI @QDO <| aI @QPR <| aI @QAP <| aI @Qw6 <| aI @QFN <| aI @QCV <| aI @QJO <| aI @QES <| aI @QFc <| aI @QFU <| aI @QFS <| aI @QI3 <| aI @QJj <| aI @QH3 <| aI @QPF <| aI @QPO <| aI @QT3 <|
 aI @QTd <| aI @QUB <| aI @QOs <| aI @QKd <| aI @QNH <| aI @QPa <| aI @QE1 <| aI @QCl <| aI @QMA <| aI @QQ2 <|
 aI @QO2 <| aI @QGG <| aI @QwF <| aI @QtP <| aI @QuC <| aI @Qr7 <| aI @Qsm <| aI @Qzq <| aI @QuD <| aI @QwJ <|
 aI @Qs2 <| aI @Qso <| aI @VF <| aI @QjG <| aI @QoS <| aI @QpP <|
 aI @QCR <| aI @QDa <| aI @QGN <| aI @QEv <| aI @n_r <| aI @n_s <| aI @QTq <| aI @QT8 <| aI @QTH <|
 aI @QOH <| aI @QGA <| aI @QBO <| aI @QHY <| aI @QxV <| aI @QGi <| aI @QLX <| aI @QGS <| aI @QEj <| aI @QEo <|
 aI @getD_some <| aI @Qle <| aI @Qxm <| aI @Qyk <| aI @QzR @QEB
def evB := aI @Qrd <| aI @Qqw <| aI @QR4 <| aI @QSl <| aI @QUi <| aI @QTv <| aI @QRp <| aI @QU6 <| aI @QTM <| aI @QRa <| aI @QQQ <| aI @QSA <| aI @QUy <| aI @QRC <| aI @QRL <| aI @QTl <| aI @QRn <| aI @QUH <| aI @QS7 <| aI @QRR <| aI @QLv <| aI @QH7 <| aI @QzF <| aI @QEn <| aI @Qyz <| aI @QEq <| aI @QN8 <| aI @QKj <| aI @QOJ <| aI @QL2 <| aI @QOh <| aI @QQg <| aI @c_K <| aI @QPi <| aI @QIZ <| aI @QQL <| aI @s_v <| aI @v_j <| aI @v_s <| aI @QIO <| aI @QJV <| aI @Qxo <| aI @p_0 <| aI @p_e <| aI @p_s <| aI @p_n <| aI @p_z <| aI @p_a <| aI @QSm <| aI @QRs <| aI @QTw <| aI @QQm <| aI @QQa <| aI @QVe <| aI @QRU <| aI @QUv <| aI @QO1 <| aI @QoS <| aI @QpP <| aI @Qle <| aI @getD_some <| aI @n_c <| aI @QOO <| aI @QJP <| aI @QOc <| aI @QMC <| aI @n_g <| aI @QKF <| aI @QOv <| aI @QOU <| aI @QEv <| aI @n_r <| aI @n_s <| aI @QCm <| aI @QBk <| aI @QDK <| aI @Qs2 <| aI @Qso <| aI @VF <| aI @QjG <| aI @QAl <| aI @Qyf <| aI @Qu8 <| aI @QEt <| aI @QEH <| aI @QEj <| aI @QEo <| aI @getD_some <| aI @Qle <| aI @Qz1 <| aI @Qxr <| aI @QAb <| aI @Qye <| aI @VL <| aI @QOf <| aI @QID <| aI @c_M <| aI @QT6 <| aI @QSW <| aI @QVn <| aI @QU7 <| aI @QQk <| aI @QNN <| aI @QOY <| aI @QHA <| aI @QHH <| aI @QDW <| aI @QB8 <| aI @QF5 <| aI @QDB <| aI @QzW <| aI @QMe <| aI @QOB <| aI @Qw9 <| aI @QFf <| aI @QJu <| aI @QHv <| aI @QHp <| aI @QyJ <| aI @Qz6 <| aI @Qvp <| aI @Qvg <| aI @QMF <| aI @QJR <| aI @QSK <| aI @QUW <| aI @QT2 <| aI @QRf <| aI @QUf <| aI @QVo <| aI @s_w <| aI @w_j <| aI @w_s <| aI @QVj <| aI @QUN <| aI @QN7 <| aI @QGp <| aI @QQY <| aI @QVb <| aI @QPs <| aI @QTO <| aI @QSj <| aI @QUP <| aI @QRw <| aI @QKZ <| aI @QE6 <| aI @QSs <| aI @QRt <| aI @QPd <| aI @QP6 <| aI @QRA <| aI @QP2 <| aI @QUE <| aI @QTs <| aI @QR9 <| aI @QTS <| aI @QRr <| aI @QSB <| aI @QSO <| aI @QTp <| aI @QR6 <| aI @QQE <| aI @QRu <| aI @QSG <| aI @QT5 <| aI @QQG <| aI @QQX <| aI @QVk <| aI @w_p <| aI @QRE <| aI @w_x <| aI @w_n <| aI @QEL <| aI @QMl <| aI @QKe <| aI @Qyk <| aI @QHT <| aI @QRJ <| aI @QuX <| aI @Qu5 <| aI @s_t <| aI @s_q <| aI @s_f <| aI @QQJ <| aI @QN9 <| aI @QFs <| aI @QTc <| aI @QOd <| aI @QGm <| aI @Quc <| aI @QEN <| aI @QGx <| aI @QIX <| aI @QML <| aI @QNY <| aI @QFT <| aI @QJU <| aI @QPc <| aI @QNg <| aI @Qvb <| aI @Qxm <| aI @QzR <| aI @QoS <| aI @Qkr <|
 aI @QLD <| aI @QLh <| aI @QS5 <| aI @QUt <| aI @QFp <| aI @QHo <| aI @QF8 <| aI @QAq <| aI @Qws <| aI @QzU <| aI @QxI <| aI @QwY <| aI @QsB <| aI @QMv <| aI @QIs <| aI @QTE <| aI @QKR <|
 aI @QIh <| aI @QOG <| aI @QOT <| aI @QIT <| aI @QIM <| aI @QLA <| aI @QNR <| aI @QMS <| aI @QMQ <| aI @QN1 <| aI @QLm <| aI @QKL <| aI @QO6 <|
 aI @QOx <| aI @QI6 <| aI @QLJ <| aI @QPk <| aI @QPw <| aI @QG3 <| aI @QH0 <| aI @QF9 <| aI @QHO <| aI @QPM <| aI @QGH <| aI @QIe <| aI @QPT <| aI @QOb <| aI @QMW <| aI @QGC <| aI @QHa <| aI @QFO <| aI @QFd <| aI @QE4 <| aI @QFh <| aI @QHe <| aI @QFG <| aI @QIL <| aI @QHk <|
 aI @QB3 <| aI @QCr <| aI @QCX <| aI @QOS <| aI @QCh <| aI @QMU <| aI @QRk <| aI @QHP <| aI @QqG <| aI @QOX <| aI @QLt <|
 aI @QKN <| aI @QJc <| aI @QGJ <| aI @QG0 <| aI @QIa <| aI @QGw <| aI @QFo <| aI @QFu <| aI @QBZ <| aI @QAZ <| aI @QDQ <| aI @QBV <|
 aI @QGI <| aI @QPL <| aI @QEZ <| aI @QG7 <| aI @QHn <| aI @QBQ <| aI @QNQ <| aI @QGX <| aI @QHK <| aI @QEP <| aI @QxC <| aI @Qz2 <| aI @QBi <| aI @Qys <| aI @QzB <| aI @QFY <| aI @QJt <| aI @QET <| aI @QEM <| aI @QH8 <| aI @QFH <|
 aI @QVi <| aI @m_c <| aI @QFA <| aI @QHy <| aI @QGr <| aI @QFP <| aI @QJf <| aI @QN3 <| aI @QOy <| aI @QBA <| aI @QBH <| aI @QA3 <|
 aI @QBd <| aI @QD1 <| aI @QDd <| aI @QBx <| aI @QVp <| aI @QHG <| aI @QG6 <| aI @QFl <| aI @QHR <|
 aI @QPu <| aI @QNS <| aI @QOi <| aI @QNx <| aI @QAY <| aI @QBs <| aI @QG4 <| aI @QDg <| aI @QUR <| aI @QNT <| aI @QI4 <| aI @QPn <| aI @QIu <| aI @QBr <| aI @QOR <|
 aI @QBY <| aI @QzV <| aI @QAd <| aI @QGu <| aI @QGk <| aI @QRl <| aI @QJa <| aI @QKC <| aI @QPH <| aI @QMY <| aI @QLz <| aI @QMf <| aI @QI7 <| aI @QEQ <| aI @QJr <| aI @QJ1 <| aI @QO8 <| aI @QLw <| aI @QKh <| aI @QQ8 <| aI @QQv <| aI @QTB <| aI @QP5 <| aI @QQs <| aI @QRK <| aI @QUg <| aI @QSE <| aI @QUh <| aI @QSr <| aI @QSR <| aI @QQ4 <| aI @QQD <| aI @QUn <| aI @QQf <| aI @QSJ <| aI @QNc <| aI @QNG <| aI @QIC <| aI @QHi <| aI @QFK <| aI @QFq <| aI @QFW <| aI @QGV <| aI @QDb <| aI @Qyc <| aI @QR5 <|
 aI @QK9 <| aI @QMD <| aI @QHg <| aI @QnY <| aI @Quq <| aI @QIr <| aI @QIF <| aI @QHS <| aI @x_b <| aI @x_i <| aI @x_s <| aI @QNa <| aI @QM6 <| aI @QNs <| aI @QTC <| aI @QKw <| aI @QHE <| aI @QEc <| aI @QUT <|
 aI @QKf <| aI @QGF <| aI @QFj <| aI @QJL <| aI @QMc <| aI @QP3 <| aI @QHb <| aI @QF1 <| aI @QND <| aI @QIn <| aI @QJQ <| aI @QPB <| aI @QIk <| aI @QLd <| aI @QFk <| aI @QHh <|
 aI @QGb <| aI @QAC <| aI @QC3 <| aI @QCs <| aI @QAr <| aI @QFv <| aI @QLy <| aI @QLa <| aI @QM5 <| aI @QOg <| aI @QCD <| aI @QxN <| aI @QFZ <| aI @QHB <| aI @QEX <| aI @QGn <| aI @QFe <|
 aI @l_0 <| aI @l_s <| aI @QS1 <| aI @QJp <| aI @QNU <| aI @QLK <| aI @QE8 <| aI @QGs <| aI @QER <| aI @QJx <| aI @QS9 <| aI @QUx <| aI @QQi <| aI @QRz <| aI @QQ3 <| aI @QF3 <| aI @QLH <| aI @QL4 <| aI @QPx <| aI @l_b <| aI @l_i <| aI @QUQ <| aI @l_n <| aI @QIB <| aI @QCY <| aI @QAK <| aI @QF0 <| aI @QFx <| aI @QUK <| aI @QQF <| aI @QRP <| aI @QUF <| aI @QG8 <| aI @QFw <|
 aI @QNl <| aI @QNC <| aI @QOA <| aI @i_b <| aI @i_i <| aI @QVu <| aI @i_n <| aI @QRj <| aI @QTx <| aI @QEB <| aI @QMP <|
 aI @QJv <| aI @QGT <| aI @QKy <| aI @QQe <| aI @s_b <| aI @QSn <| aI @QQz <| aI @QTy <| aI @QSH <| aI @QUe <| aI @QVf <| aI @QTm <| aI @QP4 <| aI @QSI <| aI @QT9 <| aI @QEW <| aI @QNo <| aI @QVl <| aI @QTG <|
 aI @QOF <| aI @QKU <| aI @QLL <| aI @QPG <| aI @QKg <| aI @QC7 <| aI @QFr <| aI @QKO <| aI @QH9 <| aI @QPt <|
 aI @QM2 <| aI @QIy <| aI @QUL <| aI @QEC <| aI @a_1 <| aI @a_2 <| aI @a_3 <| aI @a_4 <| aI @QUY <| aI @QUc <| aI @QTD @QTJ
def evT := aI @Qtb <| aI @QHQ <| aI @QPm <| aI @QQS <| aI @Qr6 <| aI @QLi <| aI @QHX <| aI @QHW <| aI @QFL <| aI @QIY <| aI @Qx8 <| aI @QDD <| aI @Qxx <| aI @QAj <| aI @QJi <| aI @Qwv <| aI @QwC <| aI @Qv4 <| aI @Qr1 <| aI @QyN <| aI @QrT <| aI @QCG @QDc
def evN := aI @VF <| aI @List.contains_nil <| aI @Bool.not_false <| aI @Bool.and_true <| aI @List.length_append <| aI @List.length_cons <| aI @List.length_nil <| aI @Nat.zero_add <| aI @VC <| @VL
end Go.Proofs.YtcdffihcfeajfaaGreat.Am
