import Derived.Test.YtcdffihcfeajfaaGreatEvA
namespace Go.Proofs.YtcdffihcfeajfaaGreat.Am
open Go
set_option linter.unusedVariables false
set_option linter.unusedSimpArgs false
section
variable {β : Type}
theorem Qdw {α : Type} {p : Prop} [Decidable p] {b : Bool} (h : b = true ↔ p) (x y : α) : (if p then x else y) = cond b x y := by
 cases b with
 | true => rw [if_pos (h.1 rfl)]; rfl
 | false => rw [if_neg (fun hp => by have := h.2 hp; cases this)]; rfl
theorem QmN {m n : Nat} : Nat.blt m n = true ↔ m < n := by rw [Nat.blt_eq]
theorem QkJ {m n : Nat} : Nat.ble m n = true ↔ m ≤ n := by rw [Nat.ble_eq]
def sel {α : Type} (b : Bool) (x y : α) (_ : Lk (x, y)) : α := cond b x y
theorem QAj {α : Type} (x y : α) (l) : sel true x y l = x := _root_.id rfl
theorem QB6 {α : Type} (x y : α) (l) : sel false x y l = y := _root_.id rfl
theorem QGL (v) (k : AV → Option β) (l) : QmA v k l = k v := _root_.id rfl
theorem QAa (K) (k : KS → Option β) (l) : VY K k l = k K := _root_.id rfl
theorem QIw (f : Fr) (d : Nat) (v : AV) (t : Nat) : up f d v t = sel (d == t) v (f t) () := by
 unfold up sel
 by_cases h : t = d
 ·simp [h]
 ·have : (d == t) = false := by simp; exact fun h' => h h'.symm
  simp [h, this]
theorem QLy (m n : Nat) : Nat.ble m n = decide (m ≤ n) := by rw [Bool.eq_iff_iff, Nat.ble_eq]; simp
theorem QMg (m n : Nat) : Nat.blt m n = decide (m < n) := by rw [Bool.eq_iff_iff, Nat.blt_eq]; simp
theorem QTN (h : Decidable True) : @decide True h = true := by simp
theorem QUr (h : Decidable False) : @decide False h = false := by simp
theorem QF8 (m n : Nat) (f : Fr) (t : Nat) : QvE m n f t = sel (Nat.ble m t && Nat.blt t n) .u (f t) () := _root_.id rfl
theorem Qvr (t : Nat) : frm [] t = .u := _root_.id rfl
theorem Qtl (d : Nat) (v : AV) (l : List (Nat × AV)) (t : Nat) : frm ((d, v) :: l) t = sel (d == t) v (frm l t) () := by
 show up (frm l) d v t = _; exact QIw _ _ _ _
theorem Qtt (t : Nat) : VR [] t = .u := by simp [VR]
theorem Qrq (v : AV) (l : List AV) : VR (v :: l) 0 = v := _root_.id rfl
theorem Qsf (v : AV) (l : List AV) (t : Nat) : VR (v :: l) (t + 1) = VR l t := _root_.id rfl
theorem Qy7 (f : Fr) (t : Tmp) : ev f (.tmp t) = f t := _root_.id rfl
theorem Qti (f : Fr) (v : Value) : ev f (.const v) = cv v := _root_.id rfl
theorem Qu9 (f : Fr) (g : FuncId) : ev f (.func g) = .clo g [] := _root_.id rfl
theorem Qv9 (b : Bool) : cv (.bool b) = .b b := _root_.id rfl
theorem QzT (k : IntKind) (i : Int) : cv (.int k i) = .i k i := _root_.id rfl
theorem QwN (x : ByteArray) : cv (.string x) = .s x.data.toList := _root_.id rfl
theorem Qxo : cv (.slice none 0 0) = .nil := _root_.id rfl
theorem QrR {α : Type} (x y : α) : cond true x y = x := _root_.id rfl
theorem QsH {α : Type} (x y : α) : cond false x y = y := _root_.id rfl
theorem VC (q : Option β) (l) : Vi true q l = q := _root_.id rfl
def VU {ρ δ γ : Type} (o : Option (Fl ρ δ)) (p : ρ → γ) (q : δ → γ) : Option γ := o.map (evO p q)
theorem Qri {ρ δ γ : Type} (o : Option (Fl ρ δ)) (p : ρ → γ) (q : δ → γ) (k : γ → Option β) (l) : Jk (VU o p q) k l = o.bind (evO (fun r => k (p r)) (fun r => k (q r))) := by
 cases o with
 | none => rfl
 | some o => cases o <;> rfl
theorem QkH {α : Type} (x : α) (k : α → Option β) (l) : Jk (some x) k l = k x := _root_.id rfl
theorem Qql {α : Type} (k : α → Option β) (l) : Jk (none : Option α) k l = none := _root_.id rfl
theorem Qq3 {α : Type} (b : Bool) (q : Option α) (k : α → Option β) (l) (l') : Jk (Vi b q l') k l = Vi b (Jk q k l) () := by cases b <;> rfl
theorem QsK {α γ : Type} (o : Option γ) (e : γ → α) (k : α → Option β) (l) : Jk (o.map e) k l = o.bind (fun r => k (e r)) := by cases o <;> rfl
theorem Qn5 {α : Type} (i) : lk ([] : List (Nat × α)) i = none := _root_.id rfl
theorem QpK {α : Type} (i) (x : α) (l j) : lk ((i, x) :: l) j = sel (i == j) (some x) (lk l j) () := _root_.id rfl
end
section
variable {β : Type} {P : Program} {D : Orc} {a : Ann} {f : Fr} {K : KS} {Q : KT β} {k : AV → KS → Option β}
theorem QGq (l) : VL P D a .skip Q f K l = Q .normal f K := _root_.id rfl
theorem QJ7 (l) : VL P D a .ret Q f K l = Q .ret f K := _root_.id rfl
theorem QFC (id l) : VL P D a (.exit id) Q f K l = Q (.exit id) f K := _root_.id rfl
theorem QJv (x y l) : VL P D a (.seq x y) Q f K l = VL P D a x (QsB (fun f K => VL P D a y Q f K ()) Q) f K () := _root_.id rfl
def QJ0 (v : AV) (x y : Option β) (_ : Lk (x, y)) : Option β := match v with | .b b => cond b x y | _ => none
theorem QFv (c x y l) : VL P D a (.cond c x y) Q f K l = QJ0 (ev f c) (VL P D a x Q f K ()) (VL P D a y Q f K ()) () := _root_.id rfl
theorem QLW (b) (x y : Option β) (l) : QJ0 (.b b) x y l = cond b x y := _root_.id rfl
theorem QCh (id c l) : VL P D a (.block id c) Q f K l = VL P D a c (Qwg id Q) f K () := _root_.id rfl
theorem Qy1 (id ol l) : VL P D a (.region id (List.toArray ol) false) Q f K l = ofz (lk a.fz id) f K (fun f K => QkG P D a id (lk a.av id) (List.toArray ol) Q f K ()) () := _root_.id rfl
theorem QQz (f : Fr) (K : KS) (k : Fr → KS → Option β) (l) : ofz none f K k l = k f K := _root_.id rfl
theorem QSw (f : Fr) (K : KS) (ss) (k : Fr → KS → Option β) (l) : ofz (some ss) f K k l = Qss ss f K k () := _root_.id rfl
theorem QQx (f : Fr) (K : KS) (k : Fr → KS → Option β) (l) : Qss [] f K k l = k f K := _root_.id rfl
theorem QR8 (f : Fr) (K : KS) (s ss) (k : Fr → KS → Option β) (l) : Qss (s :: ss) f K k l = QDl s (f s) f K (fun f K => Qss ss f K k ()) () := _root_.id rfl
theorem QQa (f : Fr) (K : KS) (s j) (k : Fr → KS → Option β) (l) : QDl s (.sl j) f K k l = QDy s j (kg K j) f K k () := _root_.id rfl
theorem QSh (f : Fr) (K : KS) (s j m rows) (k : Fr → KS → Option β) (l) : QDy s j (some (.lst m rows)) f K k l = Vi (Qbv rows) (k (up f s (.imm m rows)) (K.set j none)) () := _root_.id rfl
theorem QPs (id ol l) : QkG P D a id none (List.toArray ol) Q f K l = Qrt P D a id (lk a.an id) (List.toArray ol) ol Q f K () := _root_.id rfl
theorem QKU (id vs ol l) : QkG P D a id (some vs) (List.toArray ol) Q f K l = ZV vs P D (List.toArray ol) ol f K (fun f K => Q .normal f K) () := _root_.id rfl
theorem QFS (vs ops) (k : Fr → KS → Option β) (l) : ZV vs P D ops [] f K k l = k f K := _root_.id rfl
theorem QAP (vs ops d o t p af r) (k : Fr → KS → Option β) (l) : ZV vs P D ops (⟨some d, o, t, p, af, none⟩ :: r) f K k l = QmB vs P D o f K (fun v K' => QmA v (fun v => ZV vs P D ops r (up f d v) K' k ()) ()) () := _root_.id rfl
theorem QzP (vs ops o t p af r) (k : Fr → KS → Option β) (l) : ZV vs P D ops (⟨none, o, t, p, af, none⟩ :: r) f K k l = QmB vs P D o f K (fun v K' => ZV vs P D ops r f K' k ()) () := _root_.id rfl
theorem QPQ (vs ops r) (k : Fr → KS → Option β) (d op t pos after j want l) : ZV vs P D ops (⟨some d, op, t, pos, after, some (j, want)⟩ :: r) f K k l =
  ogd ((ops[j]?).bind (·.dst)) want f (fun f => QmB vs P D op f K (fun v K' => QmA v (fun v => ZV vs P D ops r (up f d v) K' k ()) ()) ()) (fun f => QmA (.tup []) (fun v => ZV vs P D ops r (up f d v) K k ()) ()) () := _root_.id rfl
theorem QIi (vs ops r) (k : Fr → KS → Option β) (op t pos after j want l) : ZV vs P D ops (⟨none, op, t, pos, after, some (j, want)⟩ :: r) f K k l =
  ogd ((ops[j]?).bind (·.dst)) want f (fun f => QmB vs P D op f K (fun v K' => ZV vs P D ops r f K' k ()) ()) (fun f => ZV vs P D ops r f K k ()) () := _root_.id rfl
def QfB : Op → Bool
 | .call ⟨.value (.func _), _, _⟩ => true
 | _ => false
theorem QQN (vs o l) (k : AV → KS → Option β) (h : QfB o = false) : QmB vs P D o f K k l = oop P D o f K k () := by
 unfold QfB at h
 unfold QmB
 split
 ·cases h
 ·rfl
theorem QPa (vs g args ts l) (k : AV → KS → Option β) : QmB vs P D (.call ⟨.value (.func g), args, ts⟩) f K k l = cond (vs.contains g) (QdW P D (.call ⟨.value (.func g), args, ts⟩) f K k ()) (oop P D (.call ⟨.value (.func g), args, ts⟩) f K k ()) := _root_.id rfl
theorem QCX (x args ts) : QfB (.call ⟨.value (.tmp x), args, ts⟩) = false := _root_.id rfl
theorem QMB (b args ts) : QfB (.call ⟨.builtin b, args, ts⟩) = false := _root_.id rfl
theorem QBr (x) : QfB (.move x) = false := _root_.id rfl
theorem QEl (x) : QfB (.assign x) = false := _root_.id rfl
theorem QCe (t x) : QfB (.load t x) = false := _root_.id rfl
theorem QwV (t x y) : QfB (.store t x y) = false := _root_.id rfl
theorem QK6 (t x i) : QfB (.fieldAddr t x i) = false := _root_.id rfl
theorem QOp (t x i) : QfB (.indexAddr t x i) = false := _root_.id rfl
theorem QGM (x i) : QfB (.extract x i) = false := _root_.id rfl
theorem QFI (o t x y u) : QfB (.binOp o t x y u) = false := _root_.id rfl
theorem QMi (o t x) : QfB (.unOp o t x) = false := _root_.id rfl
theorem QCO (c x y) : QfB (.pick c x y) = false := _root_.id rfl
theorem QwM (t ps) : QfB (.build t ps) = false := _root_.id rfl
theorem QJH (t n ps) : QfB (.buildSlice t n ps) = false := _root_.id rfl
theorem Qxs (t) : QfB (.alloc t) = false := _root_.id rfl
theorem QGD (t x) : QfB (.box t x) = false := _root_.id rfl
theorem QGZ (t x lo hi m) : QfB (.slice t x lo hi m) = false := _root_.id rfl
theorem QFL (t x i) : QfB (.index t x i) = false := _root_.id rfl
theorem QI3 (s t x) : QfB (.convert s t x) = false := _root_.id rfl
theorem QuM (id ops ol l) : Qrt P D a id none ops ol Q f K l = Qsd P D a id (lk a.ac id) ops ol Q f K () := _root_.id rfl
theorem Qu0 (id us ops ol l) : Qrt P D a id (some us) ops ol Q f K l = Qiq P D ops us ol f K (fun f K => Q .normal f K) () := _root_.id rfl
theorem QuD (id ops ol l) : Qsd P D a id none ops ol Q f K l = QnD P D a id ops ol Q f K () := _root_.id rfl
theorem QuS (id x ops ol l) : Qsd P D a id (some x) ops ol Q f K l = QgA P D ops ol f K (fun f K => Q .normal f K) () := _root_.id rfl
theorem QGR (ops) (k : Fr → KS → Option β) (l) : QgA P D ops [] f K k l = k f K := _root_.id rfl
theorem QDA (ops d o t p af r) (k : Fr → KS → Option β) (l) : QgA P D ops (⟨some d, o, t, p, af, none⟩ :: r) f K k l = QdW P D o f K (fun v K' => QmA v (fun v => QgA P D ops r (up f d v) K' k ()) ()) () := _root_.id rfl
theorem Qyl (ops o t p af r) (k : Fr → KS → Option β) (l) : QgA P D ops (⟨none, o, t, p, af, none⟩ :: r) f K k l = QdW P D o f K (fun v K' => QgA P D ops r f K' k ()) () := _root_.id rfl
theorem QCb (x l) : QdW P D (.move x) f K k l = oop P D (.move x) f K k () := _root_.id rfl
theorem QvN (x l) : QdW P D (.assign x) f K k l = oop P D (.assign x) f K k () := _root_.id rfl
theorem QC1 (t x l) : QdW P D (.load t x) f K k l = oop P D (.load t x) f K k () := _root_.id rfl
theorem QwQ (t x y l) : QdW P D (.store t x y) f K k l = oop P D (.store t x y) f K k () := _root_.id rfl
theorem QHS (t x i l) : QdW P D (.fieldAddr t x i) f K k l = oop P D (.fieldAddr t x i) f K k () := _root_.id rfl
theorem QPi (t x i l) : QdW P D (.indexAddr t x i) f K k l = oop P D (.indexAddr t x i) f K k () := _root_.id rfl
theorem QEW (x i l) : QdW P D (.extract x i) f K k l = oop P D (.extract x i) f K k () := _root_.id rfl
theorem QHx (o t x y u l) : QdW P D (.binOp o t x y u) f K k l = oop P D (.binOp o t x y u) f K k () := _root_.id rfl
theorem QwD (t ps l) : QdW P D (.build t ps) f K k l = oop P D (.build t ps) f K k () := _root_.id rfl
theorem QIP (o t x l) : QdW P D (.unOp o t x) f K k l = oop P D (.unOp o t x) f K k () := _root_.id rfl
theorem QzX (c x y l) : QdW P D (.pick c x y) f K k l = oop P D (.pick c x y) f K k () := _root_.id rfl
theorem Qyc (t l) : QdW P D (.alloc t) f K k l = oop P D (.alloc t) f K k () := _root_.id rfl
theorem QHn (t x lo hi m l) : QdW P D (.slice t x lo hi m) f K k l = oop P D (.slice t x lo hi m) f K k () := _root_.id rfl
theorem QES (t x i l) : QdW P D (.index t x i) f K k l = oop P D (.index t x i) f K k () := _root_.id rfl
theorem QNE (b xs ts l) : QdW P D (.call ⟨.builtin b, xs, ts⟩) f K k l = oop P D (.call ⟨.builtin b, xs, ts⟩) f K k () := _root_.id rfl
theorem QMk (s t x l) : QdW P D (.convert s t x) f K k l = oop P D (.convert s t x) f K k () := _root_.id rfl
theorem QEH (t x l) : QdW P D (.box t x) f K k l = oop P D (.box t x) f K k () := _root_.id rfl
def Qvl (b c d e : Bool) (D : Orc) (g : FuncId) (K : KS) (vs : List AV) (k : AV → KS → Option β) (_ : Lk (vs, k)) : Option β := cond b (Qp3 K vs k ()) (cond c (Qns K vs k ()) (cond d (QkU D g K vs k ()) (cond e (QiL D g K vs k ()) (Qgx D g K vs k ()))))
theorem QCL (x xs ts l) : QdW P D (.call ⟨.value x, List.toArray xs, ts⟩) f K k l = Qtm (ev f x) (fun g caps => Qvl (D.s g) (D.q g) (D.w g) (D.v g) D g K (xs.map (ev f) ++ caps) k ()) () := _root_.id rfl
theorem s_t (g c d e) (K : KS) (vs) (k : AV → KS → Option β) (l) : Qvl true c d e D g K vs k l = Qp3 K vs k () := _root_.id rfl
theorem s_q (g d e) (K : KS) (vs) (k : AV → KS → Option β) (l) : Qvl false true d e D g K vs k l = Qns K vs k () := _root_.id rfl
theorem s_f (g) (K : KS) (vs) (k : AV → KS → Option β) (l) : Qvl false false false false D g K vs k l = Qgx D g K vs k () := _root_.id rfl
theorem s_w (g e) (K : KS) (vs) (k : AV → KS → Option β) (l) : Qvl false false true e D g K vs k l = QmU D g K (Qfl vs) vs k () := _root_.id rfl
theorem w_j (g) (K : KS) (js vs) (k : AV → KS → Option β) (l) : QmU D g K js vs k l = Vi (ndB js) (QmP D g K js (QdQ js vs) k ()) () := _root_.id rfl
theorem w_s (g) (K : KS) (js cs) (k : AV → KS → Option β) (l) : QmP D g K js (some cs) k l = Vi (Qmc (Zh K js)) (Jk (D.a g (Zh K js) cs) (fun r => k r.1 (J0 K js r.2)) ()) () := _root_.id rfl
theorem s_v (g) (K : KS) (vs) (k : AV → KS → Option β) (l) : Qvl false false false true D g K vs k l = Qm0 D g K (Qfl vs) vs k () := _root_.id rfl
theorem v_j (g) (K : KS) (js vs) (k : AV → KS → Option β) (l) : Qm0 D g K js vs k l = Vi (ndB js) (QmS D g K js (QdQ js vs) k ()) () := _root_.id rfl
theorem v_s (g) (K : KS) (js cs) (k : AV → KS → Option β) (l) : QmS D g K js (some cs) k l = Vi (Qmc (Zh K js)) (Jk (D.m g (Zh K js) cs) (fun x => k (VH K.length x).1 (J0 K js (Qa5 js) ++ (VH K.length x).2)) ()) () := _root_.id rfl
theorem QKs : Qa5 [] = [] := _root_.id rfl
theorem QOn (j js) : Qa5 (j :: js) = none :: Qa5 js := _root_.id rfl
theorem p_0 (vs) : Qpa [] vs = vs := by cases vs <;> rfl
theorem p_e (ss) : Qpa ss [] = [] := by cases ss <;> rfl
theorem p_s (s ss v vs) : Qpa (s :: ss) (v :: vs) = Qs8 s v :: Qpa ss vs := _root_.id rfl
theorem p_n (v) : Qs8 .n v = v := by cases v <;> rfl
theorem p_z (k v) : Qs8 (.z k) v = nic k v := by cases v <;> rfl
theorem p_a (ns cs) : Qs8 (.a ns) (.agg cs) = .agg (ni ns cs) := _root_.id rfl
theorem QPw (cs) : ni [] cs = cs := by cases cs <;> rfl
theorem QQU (n ns c cs) : ni (n :: ns) (c :: cs) = nic n c :: ni ns cs := _root_.id rfl
theorem QQj (n) : nic (n + 1) .nil = .imm (n + 1) [] := _root_.id rfl
theorem QRV : nic 0 .nil = .nil := _root_.id rfl
theorem QRf (n c x) : nic n (.i c x) = .i c x := _root_.id rfl
theorem QTE (n x) : nic n (.b x) = .b x := _root_.id rfl
theorem QRd (n x) : nic n (.s x) = .s x := _root_.id rfl
theorem QUi (n m r) : nic n (.imm m r) = .imm m r := _root_.id rfl
theorem QTF : Qfl [] = [] := _root_.id rfl
theorem QRg (c cs) : Qfl (c :: cs) = Qo4 c ++ Qfl cs := _root_.id rfl
theorem QIo (j) : Qo4 (.sl j) = [j] := _root_.id rfl
theorem QEP (cs) : Qo4 (.agg cs) = Qfl cs := _root_.id rfl
theorem QRU (c n) : Qo4 (.i c n) = [] := _root_.id rfl
theorem QSP (x) : Qo4 (.b x) = [] := _root_.id rfl
theorem QN0 (x) : Qo4 (.s x) = [] := _root_.id rfl
theorem QRb : Qo4 .nil = [] := _root_.id rfl
theorem QSp (n r) : Qo4 (.imm n r) = [] := _root_.id rfl
theorem QUy (g l) : Qo4 (.clo g l) = [] := _root_.id rfl
theorem QSC (js) : QdQ js [] = some [] := _root_.id rfl
theorem QRu (js c cs) : QdQ js (c :: cs) = (QdN js c).bind fun c' => (QdQ js cs).map (c' :: ·) := _root_.id rfl
theorem QJC (js j) : QdN js (.sl j) = (Qc6 js j).map .sl := _root_.id rfl
theorem QGN (js cs) : QdN js (.agg cs) = (QdQ js cs).map .agg := _root_.id rfl
theorem QRW (js c n) : QdN js (.i c n) = some (.i c n) := _root_.id rfl
theorem QQH (js x) : QdN js (.b x) = some (.b x) := _root_.id rfl
theorem QM3 (js x) : QdN js (.s x) = some (.s x) := _root_.id rfl
theorem QQm (js) : QdN js .nil = some .nil := _root_.id rfl
theorem QRS (js n r) : QdN js (.imm n r) = some (.imm n r) := _root_.id rfl
theorem QPJ (js g) : QdN js (.clo g []) = some (.clo g []) := _root_.id rfl
theorem QlJ (x y : Nat) : Nat.beq x y = (x == y) := by rw [Bool.eq_iff_iff]; simp
theorem QQL (x l j) : Qc6 (x :: l) j = sel (x == j) (some 0) ((Qc6 l j).map (· + 1)) () := by rw [← QlJ]; rfl
theorem QS3 (K) : Zh K [] = [] := _root_.id rfl
theorem QTO (K j js) : Zh K (j :: js) = kg K j :: Zh K js := _root_.id rfl
theorem QTj (K es) : J0 K [] es = K := by cases es <;> rfl
theorem QPW (K j js e es) : J0 K (j :: js) (e :: es) = J0 (K.set j e) js es := _root_.id rfl
theorem QQg : Qmc [] = true := _root_.id rfl
theorem QRC (n r K) : Qmc (some (.lst n r) :: K) = Qmc K := _root_.id rfl
theorem QQd (c n) : AV.scal (.i c n) = true := _root_.id rfl
theorem QUB (x) : AV.scal (.b x) = true := _root_.id rfl
theorem QQ1 (x) : AV.scal (.s x) = true := _root_.id rfl
theorem QTu (c n) : AV.flat (.i c n) = true := _root_.id rfl
theorem QRr (x) : AV.flat (.b x) = true := _root_.id rfl
theorem QPI (x) : AV.flat (.s x) = true := _root_.id rfl
theorem QUX : AV.flat (.tup []) = true := _root_.id rfl
theorem QSt : Qx2 .one = true := _root_.id rfl
theorem w_p (x g j i o) (k : AV → KS → Option β) (l) : onp D f K (.ptr j i o) x g k l = onj D f K x g j i o (kg K j) k () := _root_.id rfl
theorem QUw (x g j i o q r) (k : AV → KS → Option β) (l) : onj D f K x g j i o (some (.lst q r)) k l = onx D f K x g j i o q r ((QM r i).drop o) k () := _root_.id rfl
theorem w_x (x g j i o q r m rs cs) (k : AV → KS → Option β) (l) : onx D f K x g j i o q r (.own m rs :: cs) k l = Vi x.scal (Jk (D.a g [some (.lst m rs)] [.sl 0, x]) (fun s => onr D f K j i o q r s k ()) ()) () := _root_.id rfl
theorem QQi (u us ops d o t p af r) (k : Fr → KS → Option β) (l) : Qiq P D ops (u :: us) (⟨some d, o, t, p, af, none⟩ :: r) f K k l = oop P D o f K (fun v K' => QmA v (fun v => Qiq P D ops us r (up f d v) K' k ()) ()) () := _root_.id rfl
def QDW (d : Option Tmp) (v : AV) (f : Fr) (k : Fr → Option β) (_ : Lk (f, k)) : Option β := match d with
 | some d => QmA v (fun v => k (up f d v)) ()
 | none => k f
theorem QD0 (d v f) (k : Fr → Option β) (l) : QDW (some d) v f k l = QmA v (fun v => k (up f d v)) () := _root_.id rfl
theorem QRo (ops d t p y1 p1 a1 e x y2 p2 a2 dst g d' e' ts y3 p3 a3 r) (k : Fr → KS → Option β) (l) : Qiq P D ops [] (⟨some d, .load t p, y1, p1, a1, none⟩ :: ⟨some e, .move x, y2, p2, a2, none⟩ :: ⟨dst, .call ⟨.value (.func g), List.toArray [.tmp d', .tmp e'], ts⟩, y3, p3, a3, none⟩ :: r) f K k l =
  Vi (Qx2 (tk P t) && ((d == d') && ((e == e') && !(d == e)))) (onp D f K (ev f p) (ev (up f d (.sl K.length)) x) g (fun v K' => QDW dst v (up (up f d (.sl K.length)) e (ev (up f d (.sl K.length)) x)) (fun f => QgA P D ops r f K' k ()) ()) ()) () := by rw [← QlJ, ← QlJ, ← QlJ]; cases dst <;> rfl
theorem QIU (a b l) : oop P D (.makeInterface a b) f K k l = none := _root_.id rfl
theorem QM9 (a l) : oop P D (.panic a) f K k l = none := _root_.id rfl
theorem QpC (t len ps l) : QdW P D (.buildSlice t len ps) f K k l = oop P D (.buildSlice t len ps) f K k () := _root_.id rfl
def QtW (o : Option (List Int)) (K : KS) (j : Nat) (k : AV → KS → Option β) (_ : Lk k) : Option β := match o with
 | some xs => Vi (decide (xs.length < 4611686018427387904)) (VY (K.set j none ++ [some (.lst 1 ((JN xs).map cI))]) (fun K' => k (.sl K.length) K') ()) ()
 | none => none
def QzB (e : Option Ent) (K : KS) (j : Nat) (k : AV → KS → Option β) (_ : Lk k) : Option β := match e with
 | some (.lst 1 rows) => QtW (Qdc rows) K j k ()
 | _ => none
theorem QTg (K : KS) (j) (k : AV → KS → Option β) (l) : Qns K [.sl j] k l = QzB (kg K j) K j k () := _root_.id rfl
theorem QKj (r) (K : KS) (j) (k : AV → KS → Option β) (l) : QzB (some (.lst 1 r)) K j k l = QtW (Qdc r) K j k () := _root_.id rfl
theorem QFD (xs) (K : KS) (j) (k : AV → KS → Option β) (l) : QtW (some xs) K j k l = Vi (decide (xs.length < 4611686018427387904)) (VY (K.set j none ++ [some (.lst 1 ((JN xs).map cI))]) (fun K' => k (.sl K.length) K') ()) () := _root_.id rfl
def QtD (o : Option (List Int)) (K : KS) (j : Nat) (k : AV → KS → Option β) (_ : Lk k) : Option β := match o with
 | some xs => Vi (decide (xs.length < 4611686018427387904)) (VY (K.set j (some (.lst 1 ((Qcg xs).map cI)))) (fun K => k (.tup []) K) ()) ()
 | none => none
def QwS (e : Option Ent) (K : KS) (j : Nat) (k : AV → KS → Option β) (_ : Lk k) : Option β := match e with
 | some (.lst 1 rows) => QtD (Qdc rows) K j k ()
 | _ => none
theorem QPR (K : KS) (j) (k : AV → KS → Option β) (l) : Qp3 K [.sl j] k l = QwS (kg K j) K j k () := _root_.id rfl
theorem QMv (r) (K : KS) (j) (k : AV → KS → Option β) (l) : QwS (some (.lst 1 r)) K j k l = QtD (Qdc r) K j k () := _root_.id rfl
theorem QFu (xs) (K : KS) (j) (k : AV → KS → Option β) (l) : QtD (some xs) K j k l = Vi (decide (xs.length < 4611686018427387904)) (VY (K.set j (some (.lst 1 ((Qcg xs).map cI)))) (fun K => k (.tup []) K) ()) () := _root_.id rfl
theorem Qt7 : ∀ xs : List Int, Qdc (xs.map fun x => [.i .i64 x]) = some xs
 | [] => rfl
 | x :: xs => by rw [List.map_cons, Qdc, Qt7 xs]; rfl
noncomputable def Qyi (P : Program) (D : Orc) (a : Ann) (id : Nat) (ops : Array Oper) (o : Option (List Nat)) (Q : KT β) (f : Fr) (K : KS) (_ : Lk (ops, Q, f)) : Option β := QnD P D a id ops (QrO ops o) Q f K ()
theorem QCv (id ol l) : VL P D a (.region id (List.toArray ol) true) Q f K l = ofz (lk a.fz id) f K (fun f K => Qj2 P D a id (lk a.av id) (List.toArray ol) Q f K ()) () := _root_.id rfl
theorem QOD (id ol l) : Qj2 P D a id none (List.toArray ol) Q f K l = Qsw P D a id (lk a.eb id) (List.toArray ol) Q f K () := _root_.id rfl
theorem QOg (id vs ol l) : Qj2 P D a id (some vs) (List.toArray ol) Q f K l = QrZ vs P D a id (lk a.ot id) (List.toArray ol) Q f K () := _root_.id rfl
theorem QNB (id vs ol l) : QrZ vs P D a id none (List.toArray ol) Q f K l = QuV vs P D (List.toArray ol) (lk a.ord id) Q f K () := _root_.id rfl
theorem QN9 (id vs t ops l) : QrZ vs P D a id (some t) ops Q f K l = Qck vs P D ops t f K (fun f K => Q .normal f K) () := _root_.id rfl
theorem QNP (vs ol l) : QuV vs P D (List.toArray ol) none Q f K l = ZV vs P D (List.toArray ol) ol f K (fun f K => Q .normal f K) () := _root_.id rfl
theorem QOb (id ops l) : Qsw P D a id none ops Q f K l = Qhv P D a id ops (lk a.ot id) Q f K () := _root_.id rfl
noncomputable def QDV (P : Program) (D : Orc) (a : Ann) (id : Nat) (ol : List Oper) (Q : KT β) (f : Fr) (K : KS) (_ : Lk (Q, f)) : Option β := Qhv P D a id (List.toArray ol) (lk a.ot id) Q f K ()
theorem QPh (id ds ol l) : Qsw P D a id (some ds) (List.toArray ol) Q f K l = QDV P D a id (ol.map (XY ds)) Q f K () := by
 show Qhv P D a id ((List.toArray ol).map (XY ds)) (lk a.ot id) Q f K () = Qhv P D a id (List.toArray (ol.map (XY ds))) (lk a.ot id) Q f K ()
 rw [List.map_toArray]
theorem c_M (id o r l) : QDV P D a id (o :: r) Q f K l = Qhv P D a id (List.toArray (o :: r)) (lk a.ot id) Q f K () := _root_.id rfl
theorem QOX (ds d t y p e g) : XY ds ⟨d, .buildSlice t 0 (List.toArray []), y, p, e, g⟩ = ⟨d, .move (.const (.slice none 0 0)), y, p, e, g⟩ := _root_.id rfl
theorem QI5 (ds d t m ps y p e g) : XY ds ⟨d, .buildSlice t (m + 1) ps, y, p, e, g⟩ = ⟨d, .buildSlice t (m + 1) ps, y, p, e, g⟩ := _root_.id rfl
theorem QHh (ds d s x ts y p e g) : XY ds ⟨d, .call ⟨.builtin .append, List.toArray [.tmp s, x], ts⟩, y, p, e, g⟩ = cond (ds.contains s) ⟨d, .call ⟨.builtin .append, List.toArray [.const (.slice none 0 0), x], ts⟩, y, p, e, g⟩ ⟨d, .call ⟨.builtin .append, List.toArray [.tmp s, x], ts⟩, y, p, e, g⟩ := _root_.id rfl
theorem QHt (ds d xs ts y p e g) : XY ds ⟨d, .call ⟨.builtin .len, xs, ts⟩, y, p, e, g⟩ = ⟨d, .call ⟨.builtin .len, xs, ts⟩, y, p, e, g⟩ := _root_.id rfl
theorem QCZ (ds d v xs ts y p e g) : XY ds ⟨d, .call ⟨.value v, xs, ts⟩, y, p, e, g⟩ = ⟨d, .call ⟨.value v, xs, ts⟩, y, p, e, g⟩ := _root_.id rfl
theorem QCw (ds d x y p e g) : XY ds ⟨d, .move x, y, p, e, g⟩ = ⟨d, .move x, y, p, e, g⟩ := _root_.id rfl
theorem QGd (ds d x y p e g) : XY ds ⟨d, .assign x, y, p, e, g⟩ = ⟨d, .assign x, y, p, e, g⟩ := _root_.id rfl
theorem QBQ (ds d t x y p e g) : XY ds ⟨d, .load t x, y, p, e, g⟩ = ⟨d, .load t x, y, p, e, g⟩ := _root_.id rfl
theorem QzR (ds d t x z y p e g) : XY ds ⟨d, .store t x z, y, p, e, g⟩ = ⟨d, .store t x z, y, p, e, g⟩ := _root_.id rfl
theorem QHZ (ds d t x i y p e g) : XY ds ⟨d, .fieldAddr t x i, y, p, e, g⟩ = ⟨d, .fieldAddr t x i, y, p, e, g⟩ := _root_.id rfl
theorem QNx (ds d t x i y p e g) : XY ds ⟨d, .indexAddr t x i, y, p, e, g⟩ = ⟨d, .indexAddr t x i, y, p, e, g⟩ := _root_.id rfl
theorem QxL (ds d t ps y p e g) : XY ds ⟨d, .build t ps, y, p, e, g⟩ = ⟨d, .build t ps, y, p, e, g⟩ := _root_.id rfl
theorem QGQ (ds d o t x z u y p e g) : XY ds ⟨d, .binOp o t x z u, y, p, e, g⟩ = ⟨d, .binOp o t x z u, y, p, e, g⟩ := _root_.id rfl
theorem QLB (ds d o t x y p e g) : XY ds ⟨d, .unOp o t x, y, p, e, g⟩ = ⟨d, .unOp o t x, y, p, e, g⟩ := _root_.id rfl
theorem QE3 (ds d x i y p e g) : XY ds ⟨d, .extract x i, y, p, e, g⟩ = ⟨d, .extract x i, y, p, e, g⟩ := _root_.id rfl
theorem QEA (ds d t x y p e g) : XY ds ⟨d, .box t x, y, p, e, g⟩ = ⟨d, .box t x, y, p, e, g⟩ := _root_.id rfl
theorem QxE (ds d t y p e g) : XY ds ⟨d, .alloc t, y, p, e, g⟩ = ⟨d, .alloc t, y, p, e, g⟩ := _root_.id rfl
theorem Qxt (ds d t x lo hi mx y p e g) : XY ds ⟨d, .slice t x lo hi mx, y, p, e, g⟩ = ⟨d, .slice t x lo hi mx, y, p, e, g⟩ := _root_.id rfl
theorem QzH (id ol l) : Qhv P D a id (List.toArray ol) none Q f K l = Qyi P D a id (List.toArray ol) (lk a.ord id) Q f K () := _root_.id rfl
theorem Qx3 (id ops t l) : Qhv P D a id ops (some t) Q f K l = Qez P D ops t f K (fun f K => Q .normal f K) () := _root_.id rfl
noncomputable def Qtu (P : Program) (D : Orc) (ops : Array Oper) (o : Option Oper) (t : OT) (f : Fr) (K : KS) (k : Fr → KS → Option β) (_ : Lk (ops, f, k)) : Option β := match o with
 | some o => Qd3 P D ops [o] f K (fun f K => Qez P D ops t f K k ()) ()
 | none => none
theorem QyT (ops) (k : Fr → KS → Option β) (l) : Qez P D ops .done f K k l = k f K := _root_.id rfl
theorem QOW (ol i t) (k : Fr → KS → Option β) (l) : Qez P D (List.toArray ol) (.one i t) f K k l = Qtu P D (List.toArray ol) (ol[i]?) t f K k () := by
 have : (List.toArray ol)[i]? = ol[i]? := by simp
 unfold Qez Qtu
 rw [this]
 cases ol[i]? <;> rfl
theorem Qwr (ops o t) (k : Fr → KS → Option β) (l) : Qtu P D ops (some o) t f K k l = Qd3 P D ops [o] f K (fun f K => Qez P D ops t f K k ()) () := _root_.id rfl
theorem Qxm (vs ops) (k : Fr → KS → Option β) (l) : Qck vs P D ops .done f K k l = k f K := _root_.id rfl
noncomputable def QqZ (vs : List Nat) (P : Program) (D : Orc) (ops : Array Oper) (o : Option Oper) (t : OT) (f : Fr) (K : KS) (k : Fr → KS → Option β) (_ : Lk (ops, f, k)) : Option β := match o with
 | some o => ZV vs P D ops [o] f K (fun f K => Qck vs P D ops t f K k ()) ()
 | none => none
theorem QEb (vs ol i t) (k : Fr → KS → Option β) (l) : Qck vs P D (List.toArray ol) (.one i t) f K k l = QqZ vs P D (List.toArray ol) (ol[i]?) t f K k () := by
 have : (List.toArray ol)[i]? = ol[i]? := by simp
 unfold Qck QqZ
 rw [this]
 cases ol[i]? <;> rfl
theorem Qyn (vs ops o t) (k : Fr → KS → Option β) (l) : QqZ vs P D ops (some o) t f K k l = ZV vs P D ops [o] f K (fun f K => Qck vs P D ops t f K k ()) () := _root_.id rfl
theorem QDT (vs ops a b) (k : Fr → KS → Option β) (l) : Qck vs P D ops (.alt a b) f K k l = oeq (Qck vs P D ops a f K k ()) (Qck vs P D ops b f K k ()) := _root_.id rfl
theorem QLN (ops a b) (k : Fr → KS → Option β) (l) : Qez P D ops (.alt a b) f K k l = oeq (Qez P D ops a f K k ()) (Qez P D ops b f K k ()) := _root_.id rfl
theorem VK (x : Option β) : oeq x x = x := by simp [oeq]
theorem Vz (p q : Bool) (x : Option β) (l l' : Unit) : Vi p (Vi q x l) l' = Vi q (Vi p x l) l' := by cases p <;> cases q <;> rfl
theorem QFd (id ol l) : Qyi P D a id (List.toArray ol) none Q f K l = QnD P D a id (List.toArray ol) ol Q f K () := _root_.id rfl
def pk : List Oper → List Nat → List Oper
 | _, [] => []
 | ol, i :: is => match ol[i]? with | some o => o :: pk ol is | none => pk ol is
noncomputable def QEf (P : Program) (D : Orc) (a : Ann) (id : Nat) (ops : Array Oper) (l : List Oper) (Q : KT β) (f : Fr) (K : KS) (_ : Lk (ops, Q, f)) : Option β := QnD P D a id ops l Q f K ()
theorem Qpw (ol is) : QrO (List.toArray ol) (some is) = pk ol is := by
 show is.filterMap (fun i => (List.toArray ol)[i]?) = _
 induction is with
 | nil => rfl
 | cons i is ih =>
  rw [pk, List.filterMap_cons]
  have : (List.toArray ol)[i]? = ol[i]? := by simp
  rw [this]
  cases ol[i]? with
  | none => simpa using ih
  | some o => rw [← ih]
theorem QHd (id ol is l) : Qyi P D a id (List.toArray ol) (some is) Q f K l = QEf P D a id (List.toArray ol) (pk ol is) Q f K () := by
 show QnD P D a id _ (QrO _ _) Q f K () = _
 rw [Qpw]; rfl
noncomputable def QDS (vs : List Nat) (P : Program) (D : Orc) (ops : Array Oper) (l : List Oper) (Q : KT β) (f : Fr) (K : KS) (_ : Lk (ops, Q, f)) : Option β := ZV vs P D ops l f K (fun f K => Q .normal f K) ()
theorem QUu (vs ol is l) : QuV vs P D (List.toArray ol) (some is) Q f K l = QDS vs P D (List.toArray ol) (pk ol is) Q f K () := by
 show ZV vs P D _ (QrO _ _) f K _ () = _
 rw [Qpw]; rfl
theorem c_K (vs ops o r l) : QDS vs P D ops (o :: r) Q f K l = ZV vs P D ops (o :: r) f K (fun f K => Q .normal f K) () := _root_.id rfl
theorem QNs (ol) : pk ol [] = [] := _root_.id rfl
def pkO (o : Option Oper) (l : List Oper) : List Oper := match o with | some o => o :: l | none => l
theorem QI7 (ol i is) : pk ol (i :: is) = pkO (ol[i]?) (pk ol is) := by rw [pk]; cases ol[i]? <;> rfl
theorem QOG (o l) : pkO (some o) l = o :: l := _root_.id rfl
theorem QG3 (id ops o r l) : QEf P D a id ops (o :: r) Q f K l = QnD P D a id ops (o :: r) Q f K () := _root_.id rfl
theorem QKr {α : Type} (x : α) (l : List α) : (x :: l)[0]? = some x := _root_.id rfl
theorem QI8 {α : Type} (x : α) (l : List α) (i : Nat) : (x :: l)[i + 1]? = l[i]? := _root_.id rfl
theorem QJt {α : Type} (l : List α) (i : Nat) : (List.toArray l)[i]? = l[i]? := by simp
theorem Quq {α γ : Type} (x : α) (g : α → Option γ) : (some x).bind g = g x := _root_.id rfl
noncomputable def QwY (P : Program) (D : Orc) (j : Option (Nat × Nat × Nat)) (ops : Array Oper) (l : List Oper) (Q : KT β) (f : Fr) (K : KS) (_ : Lk (l, Q, f)) : Option β :=
 match j with
 | none => Qd3 P D ops l f K (fun f K => Q .normal f K) ()
 | some (s, lo, hi) => QpF (Qd3 P D ops l f K (fun f _ => asB (f s)) ()) (fun c => Q .normal (up (QvE lo hi f) s (.b c)) K) ()
theorem QMe (id ops ol l) : QnD P D a id ops ol Q f K l = QwY P D (lk a.jn id) ops ol Q f K () := _root_.id rfl
theorem Qxc (ops ol l) : QwY P D none ops ol Q f K l = Qd3 P D ops ol f K (fun f K => Q .normal f K) () := _root_.id rfl
theorem Qyz (s lo hi ops ol l) : QwY P D (some (s, lo, hi)) ops ol Q f K l = QpF (Qd3 P D ops ol f K (fun f _ => asB (f s)) ()) (fun c => Q .normal (up (QvE lo hi f) s (.b c)) K) () := _root_.id rfl
theorem QBD (o) (k : Bool → Option β) (l) : QpF o k l = o.bind k := _root_.id rfl
theorem QM6 (b) (k : Bool → Option β) (l) : QpF (QlY b) k l = k b := _root_.id rfl
theorem QBK (b x y) : cond b (QlY x) (QlY y) = QlY (cond b x y) := by cases b <;> rfl
theorem QS1 (b) : QlY b = some b := _root_.id rfl
theorem QO5 (a b : Bool) : cond a b false = (a && b) := by cases a <;> rfl
theorem QTw (a b : Bool) : cond a true b = (a || b) := by cases a <;> rfl
theorem QE7 (a b : Bool) : cond a false b = (!a && b) := by cases a <;> rfl
theorem QO6 (b) : asB (.b b) = QlY b := _root_.id rfl
def QDY (D : Orc) (t : Nat) (z : List Nat) (la : Option LA) (Q : KT β) (f : Fr) (K : KS) (_ : Lk Q) : Option β :=
 match la with
 | some la => Qgu z la.sl la.rg f K (fun f K => Jk (D.l t f K) (fun o => Q o.1 o.2.1 o.2.2) ()) ()
 | none => none
theorem QHg (c l) : VL P D a (.loop c) Q f K l = QDY D (tag c) a.ak (lk a.lp (tag c)) Q f K () := _root_.id rfl
theorem QuH (t z la l) : QDY D t z (some la) Q f K l = Qgu z la.sl la.rg f K (fun f K => Jk (D.l t f K) (fun o => Q o.1 o.2.1 o.2.2) ()) () := _root_.id rfl
theorem QjK (id o d) : tag (.region id o d) = id := _root_.id rfl
theorem Qv2 (x y) : tag (.seq x y) = tag x := _root_.id rfl
theorem Qtb (c x y) : tag (.cond c x y) = tag x := _root_.id rfl
theorem Qso (i x) : tag (.block i x) = tag x := _root_.id rfl
theorem Qtj (x) : tag (.loop x) = tag x := _root_.id rfl
theorem Qx7 (k : Fr → KS → Option β) (Q f K) : QsB k Q .normal f K = k f K := _root_.id rfl
theorem QwG (k : Fr → KS → Option β) (Q f K) : QsB k Q .ret f K = Q .ret f K := _root_.id rfl
theorem QyG (k : Fr → KS → Option β) (Q id f K) : QsB k Q (.exit id) f K = Q (.exit id) f K := _root_.id rfl
theorem QAy (i f K) : Qwg i Q .normal f K = Q .normal f K := _root_.id rfl
theorem QBd (i f K) : Qwg i Q .ret f K = Q .ret f K := _root_.id rfl
theorem QDz (i j f K) : Qwg i Q (.exit j) f K = sel (j == i) (Q .normal f K) (Q (.exit j) f K) () := _root_.id rfl
theorem QNk (ops) (k : Fr → KS → Option β) (l) : Qd3 P D ops [] f K k l = k f K := _root_.id rfl
theorem QEM (ops r) (k : Fr → KS → Option β) (d op t pos after l) : Qd3 P D ops (⟨some d, op, t, pos, after, none⟩ :: r) f K k l = oop P D op f K (fun v K' => QmA v (fun v => Qd3 P D ops r (up f d v) K' k ()) ()) () := _root_.id rfl
theorem QAE (ops r) (k : Fr → KS → Option β) (op t pos after l) : Qd3 P D ops (⟨none, op, t, pos, after, none⟩ :: r) f K k l = oop P D op f K (fun v K' => Qd3 P D ops r f K' k ()) () := _root_.id rfl
theorem c_g (ops r) (k : Fr → KS → Option β) (d op t pos after j want l) : Qd3 P D ops (⟨some d, op, t, pos, after, some (j, want)⟩ :: r) f K k l =
  ogd ((ops[j]?).bind (·.dst)) want f (fun f => oop P D op f K (fun v K' => QmA v (fun v => Qd3 P D ops r (up f d v) K' k ()) ()) ()) (fun f => QmA (.tup []) (fun v => Qd3 P D ops r (up f d v) K k ()) ()) () := _root_.id rfl
theorem QTm (ops r) (k : Fr → KS → Option β) (op t pos after j want l) : Qd3 P D ops (⟨none, op, t, pos, after, some (j, want)⟩ :: r) f K k l =
  ogd ((ops[j]?).bind (·.dst)) want f (fun f => oop P D op f K (fun v K' => Qd3 P D ops r f K' k ()) ()) (fun f => Qd3 P D ops r f K k ()) () := _root_.id rfl
def QBa (v : AV) (d : Nat) (want : Bool) (f : Fr) (yes no : Fr → Option β) (_ : Lk (f, yes, no)) : Option β :=
 match v with
 | .b x => cond x (cond want (yes (up f d (.b true))) (no (up f d (.b true)))) (cond want (no (up f d (.b false))) (yes (up f d (.b false))))
 | .tup [] => no f
 | _ => none
theorem QPv (d want) (yes no : Fr → Option β) (l) : ogd (some d) want f yes no l = QBa (f d) d want f yes no () := by
 cases want <;> rfl
theorem QD6 (b d) (yes no : Fr → Option β) (l) : QBa (.b b) d true f yes no l = cond b (yes (up f d (.b true))) (no (up f d (.b false))) := _root_.id rfl
theorem QD8 (b d) (yes no : Fr → Option β) (l) : QBa (.b b) d false f yes no l = cond b (no (up f d (.b true))) (yes (up f d (.b false))) := _root_.id rfl
theorem QEh (d w) (yes no : Fr → Option β) (l) : QBa (.tup []) d w f yes no l = no f := _root_.id rfl
theorem QFa (x l) : oop P D (.move x) f K k l = k (ev f x) K := _root_.id rfl
theorem QxG (x l) : oop P D (.assign x) f K k l = k (ev f x) K := _root_.id rfl
theorem QFA (c x y l) : oop P D (.pick c x y) f K k l = Qnj (ev f c) (ev f x) (ev f y) (fun v => k v K) () := _root_.id rfl
theorem QA3 (t l) : oop P D (.alloc t) f K k l = Qnv K (tzc P t) k () := _root_.id rfl
theorem QLm (t v l) : oop P D (.box t v) f K k l = Qs9 K (ev f v) k () := _root_.id rfl
theorem QBu (t ps l) : oop P D (.build t (List.toArray ps)) f K k l = Qk4 K (tbd P t) (ps.map fun p => (p.1, ev f p.2)) (fun v => k v K) () := _root_.id rfl
theorem Qxr (t len ps l) : oop P D (.buildSlice t len (List.toArray ps)) f K k l = QhJ (zB (Qe6 P t)) (Qe6 P t) K (tse P t) len (ps.map fun p => (p.1, ev f p.2)) k () := _root_.id rfl
theorem QGF (t x l) : oop P D (.load t x) f K k l = Qir (tk P t) (XW K (ev f x)) (fun v => k v K) () := _root_.id rfl
theorem QzV (t p v l) : oop P D (.store t p v) f K k l = QjZ (flT P t) (slz P 9 t) K (tk P t) (ev f p) (ev f v) (fun K => k .u K) () := _root_.id rfl
theorem QJ3 (op t x y s l) : oop P D (.binOp op t x (.tmp y) s) f K k l = QaJ (Qms P t) op (ev f x) (ev f (.tmp y)) (fun v => k v K) () := _root_.id rfl
theorem QEx (op t x c n s l) : oop P D (.binOp op t x (.const (.int c n)) s) f K k l = QaJ (Qms P t) op (ev f x) (ev f (.const (.int c n))) (fun v => k v K) () := _root_.id rfl
theorem QHc (op t x c s l) : oop P D (.binOp op t x (.const (.bool c)) s) f K k l = QaJ (Qms P t) op (ev f x) (ev f (.const (.bool c))) (fun v => k v K) () := _root_.id rfl
theorem QGW (op t x c s l) : oop P D (.binOp op t x (.const (.string c)) s) f K k l = QaJ (Qms P t) op (ev f x) (ev f (.const (.string c))) (fun v => k v K) () := _root_.id rfl
theorem QGr (op t x s l) (h : Qfj P t = true) : oop P D (.binOp op t x (.const (.slice none 0 0)) s) f K k l = QlG op (ev f x) (fun v => k v K) () := by simp [oop, Qci, h]
theorem QNr (g caps l) : oop P D (.makeFunc (.func g) (List.toArray []) (List.toArray caps)) f K k l = k (.clo g (caps.map (ev f))) K := by simp [oop]
theorem QNZ (s t x l) (h : bsl P s = true) : oop P D (.convert s t x) f K k l = QsJ K (ti P t) (ev f x) (fun v => k v K) () := by simp [oop, h]
theorem QN5 (s t x l) (h : bsl P s = false) (h2 : tok P s = true) : oop P D (.convert s t x) f K k l = QsR (ti P t) (ev f x) (fun v => k v K) () := by simp [oop, h, h2]
theorem QK1 (t x lo hi l) : oop P D (.slice t x lo hi none) f K k l = QhR (ti P t) (ev f x) (lo.map (ev f)) (hi.map (ev f)) (fun v => k v K) () := _root_.id rfl
theorem QOo (t x i l) : oop P D (.index t x i) f K k l = Qwz (ti P t) (ev f x) (ev f i) (fun v => k v K) () := _root_.id rfl
theorem QTR (op t x l) : oop P D (.unOp op t x) f K k l = oun op (ev f x) (fun v => k v K) () := _root_.id rfl
theorem QST (t x fl l) : oop P D (.fieldAddr t x fl) f K k l = QvJ K (ev f x) (tfo P t fl) (fun v => k v K) () := _root_.id rfl
theorem QPz (t x i l) : oop P D (.indexAddr t x i) f K k l = QsP K (ti P t) (ev f x) (ev f i) (fun v => k v K) () := _root_.id rfl
theorem QKi (x i l) : oop P D (.extract x i) f K k l = Qw2 (ev f x) i (fun v => k v K) () := _root_.id rfl
theorem QKM (x t ts l) : oop P D (.call ⟨.builtin .len, List.toArray [x], List.toArray (t :: ts)⟩) f K k l = Qsz K (ti P t) (ev f x) (fun v => k v K) () := _root_.id rfl
theorem QH8 (x y ts l) : oop P D (.call ⟨.builtin .min, List.toArray [x, y], ts⟩) f K k l = Qxk (ev f x) (ev f y) (fun v => k v K) () := _root_.id rfl
theorem QNj (x y ts l) : oop P D (.call ⟨.builtin .max, List.toArray [x, y], ts⟩) f K k l = Qyd (ev f x) (ev f y) (fun v => k v K) () := _root_.id rfl
theorem QGn (g args ts l) : oop P D (.call ⟨.value g, List.toArray args, ts⟩) f K k l = Qtm (ev f g) (fun g caps => Qgx D g K (args.map (ev f) ++ caps) k ()) () := _root_.id rfl
theorem QOu (g caps) (k : FuncId → List AV → Option β) (l) : Qtm (.clo g caps) k l = k g caps := _root_.id rfl
theorem QAO (g vs l) : Qgx D g K vs k l = Jk (D.p g (Qpa (D.z g) (QdT K vs))) (fun x => k (VH K.length x).1 (K ++ (VH K.length x).2)) () := _root_.id rfl
end
def QFl {β : Type} (o : Option Bool) (k : Bool → Option β) (_ : Lk k) : Option β := match o with | some b => k b | none => none
section
variable {β : Type} {k : AV → Option β} {c : IntKind} {a b : Int} {te : Option (List CK)}
theorem QKX (l) : QaJ te .add (.i c a) (.i c b) k l = k (.i c (c.wrap (a + b))) := by simp [QaJ]
theorem QNF (l) : QaJ te .sub (.i c a) (.i c b) k l = k (.i c (c.wrap (a - b))) := by simp [QaJ]
theorem QJx (l) : QaJ te .mul (.i c a) (.i c b) k l = k (.i c (c.wrap (a * b))) := by simp [QaJ]
theorem QMQ (l) : QaJ te .quo (.i c a) (.i c b) k l = Vi (!decide (b = 0)) (k (.i c (c.wrap (a.tdiv b)))) () := by simp [QaJ]
theorem QNI (l) : QaJ te .rem (.i c a) (.i c b) k l = Vi (!decide (b = 0)) (k (.i c (a.tmod b))) () := by simp [QaJ]
theorem QK4 (l) : QaJ te .eql (.i c a) (.i c b) k l = k (.b (decide (a = b))) := by simp [QaJ]
theorem QHQ (l) : QaJ te .neq (.i c a) (.i c b) k l = k (.b (!decide (a = b))) := by simp [QaJ]
theorem QIK (l) : QaJ te .lss (.i c a) (.i c b) k l = k (.b (decide (a < b))) := by simp [QaJ]
theorem QMK (l) : QaJ te .leq (.i c a) (.i c b) k l = k (.b (decide (a ≤ b))) := by simp [QaJ]
theorem QJz (l) : QaJ te .gtr (.i c a) (.i c b) k l = k (.b (decide (b < a))) := by simp [QaJ]
theorem QMU (l) : QaJ te .geq (.i c a) (.i c b) k l = k (.b (decide (b ≤ a))) := by simp [QaJ]
theorem QLp (ks xs ys l) : QaJ (some ks) .eql (.agg xs) (.agg ys) k l = QFl (QZ ks xs ys) (fun b => k (.b b)) () := _root_.id rfl
theorem QJi (ks xs ys l) : QaJ (some ks) .neq (.agg xs) (.agg ys) k l = QFl (QZ ks xs ys) (fun b => k (.b (!b))) () := _root_.id rfl
theorem QOP (x y l) : QaJ (some [.t]) .eql (.b x) (.b y) k l = k (.b (decide (x = y))) := _root_.id rfl
theorem QNO (x y l) : QaJ (some [.t]) .neq (.b x) (.b y) k l = k (.b (!decide (x = y))) := _root_.id rfl
theorem QO7 (b) (k : Bool → Option β) (l) : QFl (some b) k l = k b := _root_.id rfl
theorem QG6 (x y l) : QaJ te .add (.s x) (.s y) k l = Vi (QID x y) (k (.s (QKm x y))) () := by simp [QaJ, QID, QKm]
theorem QFV (x y l) : QaJ te .eql (.s x) (.s y) k l = k (.b (decide (x = y))) := by simp [QaJ]
theorem QFo (x y l) : QaJ te .neq (.s x) (.s y) k l = k (.b (!decide (x = y))) := by simp [QaJ]
def QD4 (o : Option AV) (k : AV → Option β) (_ : Lk k) : Option β := match o with | some c => k c | none => none
theorem QIz (cs i l) : Qw2 (.tup cs) i k l = QD4 (cs[i]?) k () := _root_.id rfl
theorem QHe (c l) : QD4 (some c) k l = k c := _root_.id rfl
theorem QKI : QZ [] [] [] = some true := _root_.id rfl
theorem QIR (ks c x y xs ys) : QZ (.i :: ks) (.i c x :: xs) (.i c y :: ys) = (QZ ks xs ys).map (decide (x = y) && ·) := by simp [QZ]
theorem QLe (ks x y xs ys) : QZ (.b :: ks) (.b x :: xs) (.b y :: ys) = (QZ ks xs ys).map (decide (x = y) && ·) := _root_.id rfl
theorem QIg (ks x y xs ys) : QZ (.s :: ks) (.s x :: xs) (.s y :: ys) = (QZ ks xs ys).map (decide (x = y) && ·) := _root_.id rfl
theorem QMn (x l) : oun .not (.b x) k l = k (.b (!x)) := _root_.id rfl
theorem QJA (l) : oun .neg (.i c a) k l = k (.i c (c.wrap (-a))) := _root_.id rfl
theorem QA5 (x y : AV) (l) : Qnj (.b true) x y k l = k x := _root_.id rfl
theorem QCu (x y : AV) (l) : Qnj (.b false) x y k l = k y := _root_.id rfl
theorem QA6 (x y : Bool) (c : Bool) (l) : Qnj (.b c) (.b x) (.b y) k l = k (.b (cond c x y)) := by cases c <;> rfl
theorem QKJ (l) : Qxk (.i c a) (.i c b) k l = k (.i c (if b < a then b else a)) := _root_.id rfl
theorem QN8 (l) : Qyd (.i c a) (.i c b) k l = k (.i c (if a < b then b else a)) := _root_.id rfl
theorem QMM (e : Option Ent) (K : KS) : kg (e :: K) 0 = e := _root_.id rfl
theorem QO8 (e : Option Ent) (K : KS) (j : Nat) : kg (e :: K) (j + 1) = kg K j := _root_.id rfl
theorem QHf {α : Type} (e e' : α) (K : List α) : (e :: K).set 0 e' = e' :: K := _root_.id rfl
theorem QGI {α : Type} (e e' : α) (K : List α) (j : Nat) : (e :: K).set (j + 1) e' = e :: K.set j e' := _root_.id rfl
theorem QLi {α : Type} (e : α) (K L : List α) : (e :: K) ++ L = e :: (K ++ L) := _root_.id rfl
theorem QEy {α : Type} (L : List α) : [] ++ L = L := _root_.id rfl
theorem QGK {α : Type} : ([] : List α).length = 0 := _root_.id rfl
theorem QG4 {α : Type} (e : α) (K : List α) : (e :: K).length = K.length + 1 := _root_.id rfl
theorem QBh {α : Type} (K : List α) : K.drop 0 = K := _root_.id rfl
theorem QB8 {α : Type} (e : α) (K : List α) (n : Nat) : (e :: K).drop (n + 1) = K.drop n := _root_.id rfl
theorem QDI {α : Type} (K : List α) : K.take 0 = [] := by simp
theorem QBJ {α : Type} (e : α) (K : List α) (n : Nat) : (e :: K).take (n + 1) = e :: K.take n := _root_.id rfl
def lnR (r : List (List AV)) : Int := r.length
theorem Qzk (K e m n r l) : Qsz K (.sl e m) (.imm n r) k l = k (.i .i64 (lnR r)) := _root_.id rfl
theorem QKe (n r) (k : AV → Option β) (l) : QlG .eql (.imm n r) k l = Qmg r.isEmpty (k (.b true)) (k (.b false)) := _root_.id rfl
theorem QGX (n r) (k : AV → Option β) (l) : QlG .neq (.imm n r) k l = Qmg r.isEmpty (k (.b false)) (k (.b true)) := _root_.id rfl
theorem QHy (x : Option β) (b) : Qmg b x x = x := by cases b <;> simp [Qmg, oeq]
theorem QEU (n : Nat) (R : List (List AV)) (b : Nat) (m) : Qmg R.isEmpty (some (AV.own n [])) (Vi (decide (R.length * b ≤ 140737488355328)) (some (AV.own n R)) m) = Vi (decide (R.length * b ≤ 140737488355328)) (some (AV.own n R)) () := by
 cases R with
 | nil => simp [Qmg, oeq, Vi]
 | cons r R => rfl
theorem QwE (K e m l) : Qsz K (.sl e m) .nil k l = k (.i .i64 0) := _root_.id rfl
def QD7 (e : Option Ent) (k : AV → Option β) (_ : Lk k) : Option β := match e with | some e => k (.i .i64 (lnR e.rows)) | none => none
theorem QFE (c d a l) : QsR (.int c) (.i d a) k l = k (.i c (c.wrap a)) := _root_.id rfl
def Qtn (o : Option (List UInt8)) (k : AV → Option β) (_ : Lk k) : Option β := match o with | some s => k (.s s) | none => none
def QwA (e : Option Ent) (k : AV → Option β) (_ : Lk k) : Option β := match e with | some (.lst 1 rows) => Qtn (QcK rows) k () | _ => none
theorem QIJ (K j l) : QsJ K .str (.sl j) k l = QwA (kg K j) k () := _root_.id rfl
theorem QGf (r l) : QwA (some (.lst 1 r)) k l = Qtn (QcK r) k () := _root_.id rfl
theorem QEQ (s l) : Qtn (some s) k l = k (.s s) := _root_.id rfl
theorem QEK : QcK [] = some [] := _root_.id rfl
theorem QBg (n r) : QcK ([.i .u8 n] :: r) = (QcK r).map (UInt8.ofNat n.toNat :: ·) := by
 show (match QqV [.i .u8 n], QcK r with | some x, some xs => some (x :: xs) | _, _ => none) = _
 simp only [QqV]
 cases QcK r <;> rfl
theorem QBH (K e m j l) : Qsz K (.sl e m) (.sl j) k l = QD7 (kg K j) k () := _root_.id rfl
theorem Qy4 (n r l) : QD7 (some (.lst n r)) k l = k (.i .i64 (lnR r)) := _root_.id rfl
theorem QzG (K x l) : Qsz K .str (.s x) k l = k (.i .i64 (ln x)) := _root_.id rfl
theorem QE5 (K n r i p o t l) : QvJ K (.iptr n r i p) (some (o, t)) k l = k (.iptr n r i (p + o)) := _root_.id rfl
def QEi (e : Option Ent) (v : AV) (k : AV → Option β) (_ : Lk k) : Option β := match e with | some _ => k v | none => none
theorem QKl (K j i p o t l) : QvJ K (.ptr j i p) (some (o, t)) k l = QEi (kg K j) (.ptr j i (p + o)) k () := _root_.id rfl
theorem QE6 (e v l) : QEi (some e) v k l = k v := _root_.id rfl
theorem QEE (K e m r kd i l) : QsP K (.sl e m) (.imm m r) (.i kd i) k l = Vi (inb r i) (k (.iptr m r i.toNat 0)) () := by simp [QsP]
def QzA (e : Option Ent) (m : Nat) (j : Nat) (i : Int) (k : AV → Option β) (_ : Lk k) : Option β := match e with | some e => if m = e.n then Vi (inb e.rows i) (k (.ptr j i.toNat 0)) () else none | none => none
theorem QLw (K e m j kd i l) : QsP K (.sl e m) (.sl j) (.i kd i) k l = QzA (kg K j) m j i k () := _root_.id rfl
theorem QEZ (m r j i l) : QzA (some (.lst m r)) m j i k l = Vi (inb r i) (k (.ptr j i.toNat 0)) () := by simp [QzA, Ent.n, Ent.rows]
def QDQ (e : Option Ent) (n : Nat) (i : Int) (p : AV) (k : AV → Option β) (_ : Lk k) : Option β := match e with | some _ => Vi (QvI n i) (k p) () | none => none
theorem QG9 (K e n m j r o kd i l) : QsP K (.arr n e m) (.ptr j r o) (.i kd i) k l = QDQ (kg K j) n i (.ptr j r (o + i.toNat * m)) k () := _root_.id rfl
theorem QFY (e n i p l) : QDQ (some e) n i p k l = Vi (QvI n i) (k p) () := _root_.id rfl
theorem QFK (e m r h c l) : QhR (.sl e m) (.imm m r) none (some (.i c h)) k l = Vi (slB 0 h (lnR r)) (k (.imm m (cut r 0 h))) () := by simp [QhR, bd, lnR]
theorem QF9 (e m r h c l) : QhR (.sl e m) (.imm m r) (some (.i c h)) none k l = Vi (slB h (lnR r) (lnR r)) (k (.imm m (cut r h (lnR r)))) () := by simp [QhR, bd, lnR]
theorem QET (e m r h h' c c' l) : QhR (.sl e m) (.imm m r) (some (.i c h)) (some (.i c' h')) k l = Vi (slB h h' (lnR r)) (k (.imm m (cut r h h'))) () := by simp [QhR, bd, lnR]
theorem QFU (r h c l) : QhR .str (.s r) none (some (.i c h)) k l = Vi (slB 0 h (ln r)) (k (.s (cut r 0 h))) () := by simp [QhR, bd, ln]
theorem QGk (r h c l) : QhR .str (.s r) (some (.i c h)) none k l = Vi (slB h (ln r) (ln r)) (k (.s (cut r h (ln r)))) () := by simp [QhR, bd, ln]
theorem QEs (r h h' c c' l) : QhR .str (.s r) (some (.i c h)) (some (.i c' h')) k l = Vi (slB h h' (ln r)) (k (.s (cut r h h'))) () := by simp [QhR, bd, ln]
theorem QIh (r i c l) : Qwz .str (.s r) (.i c i) k l = Vi (inb r i) (k (.i .u8 ((gt r i).toNat : Int))) () := _root_.id rfl
class Strs (cs : List AV) (xs : outParam (List (List UInt8))) : Prop where
 eq : cs = xs.map AV.s
instance : Strs [] [] := ⟨rfl⟩
instance (x cs xs) [h : Strs cs xs] : Strs (.s x :: cs) (x :: xs) := ⟨by rw [h.eq]; rfl⟩
theorem QGe {cs : List AV} {xs : List (List UInt8)} [h : Strs cs xs] (i : Int) (hi : QvI cs.length i = true) (l) : Qir .one (cs.drop (0 + i.toNat * 1)) k l = k (.s (gt xs i)) := by
 have hcs := h.eq
 subst hcs
 simp [QvI] at hi
 have h2 : i.toNat < xs.length := by omega
 rw [Nat.zero_add, Nat.mul_one, List.drop_eq_getElem_cons (by simpa using h2)]
 simp [Qir, gt, List.getD_eq_getElem?_getD, h2]
theorem QUt (K n r i o) : XW K (.iptr n r i o) = ((QM r i).drop o).map ld := _root_.id rfl
def QtV (e : Option Ent) (i o : Nat) : List AV := match e with | some (.box cs) => if i = 0 then cs.drop o else [] | some (.lst _ rows) => ((QM rows i).drop o).map ld | none => []
theorem m_c (K j i o) : XW K (.ptr j i o) = QtV (kg K j) i o := _root_.id rfl
theorem QEo (cs o) : QtV (some (.box cs)) 0 o = cs.drop o := _root_.id rfl
theorem QG0 (n r i o) : QtV (some (.lst n r)) i o = ((QM r i).drop o).map ld := _root_.id rfl
theorem QF3 {α γ : Type} (g : α → γ) : [].map g = [] := _root_.id rfl
theorem QEO {α γ : Type} (g : α → γ) (x l) : (x :: l).map g = g x :: l.map g := _root_.id rfl
theorem QOz (x) : ld (.b x) = .b x := _root_.id rfl
theorem QIH (c x) : ld (.i c x) = .i c x := _root_.id rfl
theorem QNX (x) : ld (.s x) = .s x := _root_.id rfl
theorem QCz (n x) : ld (.imm n x) = .imm n x := _root_.id rfl
theorem QCq : ld .nil = .nil := _root_.id rfl
theorem QAH (n x) : ld (.own n x) = .u := _root_.id rfl
theorem QCS (c cs l) : Qir .one (c :: cs) k l = k c := _root_.id rfl
def Qy9 (b : Bool) (v : AV) (k : AV → Option β) (_ : Lk k) : Option β := cond b (k v) none
theorem QDt (m cs l) : Qir (.agg m) cs k l = Qy9 (Nat.blt 0 m && Nat.ble m cs.length) (.agg (cs.take m)) k () :=
 Qdw (by simp only [Bool.and_eq_true, QmN, QkJ]) _ _
theorem QAf (v l) : Qy9 true v k l = k v := _root_.id rfl
theorem QCy (K cs) (k : AV → KS → Option β) (l) : Qnv K (some cs) k l = VY (K ++ [some (.box cs)]) (fun K' => k (.ptr K.length 0 0) K') () := _root_.id rfl
def okB (b : Bool) (x : Option β) (_ : Lk x) : Option β := cond b x none
theorem QRm (x : Option β) (l) : okB true x l = x := _root_.id rfl
theorem QGP (K cs) (k : AV → KS → Option β) (l) : Qs9 K (.agg cs) k l = okB (cs.all (ZE K)) (VY (K ++ [some (.box cs)]) (fun K' => k (.ptr K.length 0 0) K') ()) () := by
 simp only [Qs9, okB]; cases cs.all (ZE K) <;> rfl
theorem QHp (K c x) (k : AV → KS → Option β) (l) : Qs9 K (.i c x) k l = VY (K ++ [some (.box [.i c x])]) (fun K' => k (.ptr K.length 0 0) K') () := _root_.id rfl
theorem QG8 {α : Type} (p : α → Bool) : [].all p = true := _root_.id rfl
theorem QEC {α : Type} (p : α → Bool) (x l) : (x :: l).all p = (p x && l.all p) := _root_.id rfl
theorem QOy (K x) : ZE K (.b x) = true := _root_.id rfl
theorem QNv (K c x) : ZE K (.i c x) = true := _root_.id rfl
theorem QOs (K x) : ZE K (.s x) = true := _root_.id rfl
theorem QIj (K) : ZE K .nil = true := _root_.id rfl
theorem QDr (K n r) : ZE K (.imm n r) = true := _root_.id rfl
theorem QBn (K n r) : ZE K (.clo n r) = true := _root_.id rfl
theorem QGh (K j) : ZE K (.sl j) = (kg K j).isSome := _root_.id rfl
theorem QCT (K j i o) : ZE K (.ptr j i o) = (kg K j).isSome := _root_.id rfl
theorem QSO {α : Type} (x : α) : (some x).isSome = true := _root_.id rfl
theorem QOT (x) : AV.closed (.b x) = true := _root_.id rfl
theorem QNh (c x) : AV.closed (.i c x) = true := _root_.id rfl
theorem QIt (x) : AV.closed (.s x) = true := _root_.id rfl
theorem QJl : AV.closed .nil = true := _root_.id rfl
theorem QCH (n r) : AV.closed (.imm n r) = true := _root_.id rfl
theorem QFp (x : Bool) : (false && x) = false := _root_.id rfl
theorem QMl (x : Bool) : (true && x) = x := _root_.id rfl
def QhH (fl : Bool) (ns : List Nat) (K : KS) (e : Option Ent) (t : TK) (j i o : Nat) (v : AV) (k : KS → Option β) (_ : Lk k) : Option β :=
 match e with
  | some (.box cs) => if i = 0 then Qif cs o t v (ZE K) (fun cs => VY (K.set j (some (.box cs))) k ()) () else none
  | some (.lst n rows) => if (Z6 v).all clq = true then (if i < rows.length then Qif (QM rows i) o t v AV.closed (fun r => VY (K.set j (some (.lst n (rows.set i r)))) k ()) () else none) else if fl = false then Qkb ns K t j i o n rows v k () else none
  | none => none
theorem QDe (fl ns K t j i o v) (k : KS → Option β) (l) : QjZ fl ns K t (.ptr j i o) v k l = QhH fl ns K (kg K j) t j i o v k () := by
 show (match kg K j with | some (.lst n rows) => _ | _ => _) = _
 cases h : kg K j with
 | none => simp [QhH, QkP, h]
 | some e => cases e <;> simp [QhH, QkP, h]
theorem QyN (fl ns K cs t j o v) (k : KS → Option β) (l) : QhH fl ns K (some (.box cs)) t j 0 o v k l = Qif cs o t v (ZE K) (fun cs => VY (K.set j (some (.box cs))) k ()) () := _root_.id rfl
def QmQ (b fl : Bool) (ns : List Nat) (K : KS) (n : Nat) (r : List (List AV)) (t : TK) (j i o : Nat) (v : AV) (k : KS → Option β) (_ : Lk k) : Option β :=
 cond b (if i < r.length then Qif (QM r i) o t v AV.closed (fun r' => VY (K.set j (some (.lst n (r.set i r')))) k ()) () else none) (if fl = false then Qkb ns K t j i o n r v k () else none)
theorem Qzi (fl ns K n r t j i o v) (k : KS → Option β) (l) : QhH fl ns K (some (.lst n r)) t j i o v k l = QmQ ((Z6 v).all clq) fl ns K n r t j i o v k () := by
 simp only [QhH, QmQ]
 cases (Z6 v).all clq <;> rfl
theorem QM0 (ds) : Z6 (.agg ds) = ds := _root_.id rfl
theorem QNU (c x) : Z6 (.i c x) = [.i c x] := _root_.id rfl
theorem QKp (x) : Z6 (.b x) = [.b x] := _root_.id rfl
theorem QNa (x) : Z6 (.s x) = [.s x] := _root_.id rfl
theorem QH7 : Z6 .nil = [.nil] := _root_.id rfl
theorem QLr (n r) : Z6 (.imm n r) = [.imm n r] := _root_.id rfl
theorem QIn (j) : Z6 (.sl j) = [.sl j] := _root_.id rfl
theorem QEF (j) : clq (.sl j) = false := _root_.id rfl
theorem QNb (x) : clq (.b x) = true := _root_.id rfl
theorem QLb (c x) : clq (.i c x) = true := _root_.id rfl
theorem QJc (x) : clq (.s x) = true := _root_.id rfl
theorem QJZ : clq .nil = false := _root_.id rfl
theorem QKD (n r) : clq (.imm n r) = true := _root_.id rfl
theorem QQ5 (cs) : nz [] cs = cs := by cases cs <;> rfl
theorem QQh (ns) : nz ns [] = [] := by cases ns <;> rfl
theorem QQY (n ns c cs) : nz (n :: ns) (c :: cs) = nzc n c :: nz ns cs := _root_.id rfl
theorem QSV (n x) : nzc n (.b x) = .b x := _root_.id rfl
theorem QSk (n c x) : nzc n (.i c x) = .i c x := _root_.id rfl
theorem QTV (n x) : nzc n (.s x) = .s x := _root_.id rfl
theorem QPy (n) : nzc n .nil = .own n [] := _root_.id rfl
theorem QRL (n m r) : nzc n (.own m r) = .own m r := _root_.id rfl
theorem QPP (n m r) : nzc n (.imm m r) = .imm m r := _root_.id rfl
theorem QTH (k v) : Qrn (.z k) v = nzc k v := _root_.id rfl
theorem QTD (v) : Qrn .n v = v := _root_.id rfl
theorem QPF (ns cs) : Qrn (.a ns) (.agg cs) = .agg (nz ns cs) := _root_.id rfl
theorem QPO (v) : Qo9 [] v = v := _root_.id rfl
theorem QT1 (s v) : Qo9 [s] v = Qrn s v := _root_.id rfl
theorem QR2 (s s' ss vs) : Qo9 (s :: s' :: ss) (.tup vs) = .tup (Qrv (s :: s' :: ss) vs) := _root_.id rfl
theorem QQu (s ss v vs) : Qrv (s :: ss) (v :: vs) = Qrn s v :: Qrv ss vs := _root_.id rfl
theorem QPd (vs) : Qrv [] vs = vs := _root_.id rfl
theorem QKq (m ds l) : QqS (.agg m) (.agg ds) l = (m == l) := _root_.id rfl
theorem QIb (j l) : QqS .one (.sl j) l = (l == 1) := _root_.id rfl
def Qu8 (ns : List Nat) (K : KS) (a : Option (KS × List AV)) (t : TK) (j o n i : Nat) (r : List (List AV)) (v : AV) (k : KS → Option β) (_ : Lk k) : Option β :=
 match a with
  | some (K1, ds) => if (kg K1 j).isSome = true ∧ QqS t v ds.length = true ∧ o + ds.length ≤ (QM r i).length then VY (K1.set j (some (.lst n (r.set i (putCells (QM r i) o (nz ns ds)))))) k () else none
  | none => none
theorem QT0 (ns K K1 ds t j o n i r v) (k : KS → Option β) (l) : Qu8 ns K (some (K1, ds)) t j o n i r v k l = okB ((kg K1 j).isSome && (QqS t v ds.length && Nat.ble (o + ds.length) (QM r i).length)) (VY (K1.set j (some (.lst n (r.set i (putCells (QM r i) o (nz ns ds)))))) k ()) () :=
 Qdw (by simp only [Bool.and_eq_true, QkJ]) _ _
def Qpj (r : List (List AV)) (i : Nat) : Bool := Nat.blt i r.length
theorem w_n (D : Orc) (f : Fr) (K : KS) (j i o q r v m rs) (k : AV → KS → Option β) (l) : onr D f K j i o q r (v, [some (.lst m rs)]) k l = Vi (Qpj r i) (VY (K.set j (some (.lst q (r.set i (putCells (QM r i) o [.own m rs])))) ++ [none]) (fun K' => k v K') ()) () := _root_.id rfl
theorem QEN (x r) : Qpj (x :: r) 0 = true := by simp [Qpj, Nat.blt_eq]
theorem QEB (x r i) : Qpj (x :: r) (i + 1) = Qpj r i := by
 unfold Qpj; rw [Bool.eq_iff_iff, Nat.blt_eq, Nat.blt_eq]; simp
theorem QG2 (fl ns K n r t j i o v) (k : KS → Option β) (l) : QmQ true fl ns K n r t j i o v k l = okB (Qpj r i) (Qif (QM r i) o t v AV.closed (fun r' => VY (K.set j (some (.lst n (r.set i r')))) k ()) ()) () :=
 Qdw QmN _ _
theorem QEu (ns K n r t j i o v) (k : KS → Option β) (l) : QmQ false false ns K n r t j i o v k l = okB (Qpj r i) (Qu8 ns K (Vv K (Z6 v)) t j o n i r v k ()) () :=
 Qdw QmN _ _
theorem QFG (cs o m ds ok) (k : List AV → Option β) (l) : Qif cs o (.agg m) (.agg ds) ok k l = okB ((m == ds.length) && (Nat.ble (o + m) cs.length && ds.all ok)) (k (putCells cs o ds)) () :=
 Qdw (by simp only [Bool.and_eq_true, beq_iff_eq, QkJ]) _ _
theorem Qv7 (cs : List AV) (o : Nat) (v : AV) (ok : AV → Bool) (k : List AV → Option β) : (if o < cs.length ∧ ok v = true then k (cs.set o v) else none) = okB (Nat.blt o cs.length && ok v) (k (cs.set o v)) () :=
 Qdw (by simp only [Bool.and_eq_true, QmN]) _ _
theorem QGa (cs o x ok) (k : List AV → Option β) (l) : Qif cs o .one (.b x) ok k l = okB (Nat.blt o cs.length && ok (.b x)) (k (cs.set o (.b x))) () := Qv7 ..
theorem QFh (cs o c x ok) (k : List AV → Option β) (l) : Qif cs o .one (.i c x) ok k l = okB (Nat.blt o cs.length && ok (.i c x)) (k (cs.set o (.i c x))) () := Qv7 ..
theorem QFM (cs o x ok) (k : List AV → Option β) (l) : Qif cs o .one (.s x) ok k l = okB (Nat.blt o cs.length && ok (.s x)) (k (cs.set o (.s x))) () := Qv7 ..
theorem QE1 (cs o ok) (k : List AV → Option β) (l) : Qif cs o .one .nil ok k l = okB (Nat.blt o cs.length && ok .nil) (k (cs.set o .nil)) () := Qv7 ..
theorem QDE (cs o j ok) (k : List AV → Option β) (l) : Qif cs o .one (.sl j) ok k l = okB (Nat.blt o cs.length && ok (.sl j)) (k (cs.set o (.sl j))) () := Qv7 ..
theorem QzO (cs o n r ok) (k : List AV → Option β) (l) : Qif cs o .one (.imm n r) ok k l = okB (Nat.blt o cs.length && ok (.imm n r)) (k (cs.set o (.imm n r))) () := Qv7 ..
theorem QTW (cs o ds) : putCells cs o ds = cs.take o ++ ds ++ cs.drop (o + ds.length) := _root_.id rfl
theorem QGo (P z rs f K) : QfK P z rs .normal f K = Jk (QdS f K P rs) (fun vs => Vi ((QgG vs).flat && (Qmc (tkl z K) && Nat.ble z.length K.length)) (some (QgG vs, tkl z K)) ()) () := _root_.id rfl
theorem QGy (P z rs f K) : QfK P z rs .ret f K = Jk (QdS f K P rs) (fun vs => Vi ((QgG vs).flat && (Qmc (tkl z K) && Nat.ble z.length K.length)) (some (QgG vs, tkl z K)) ()) () := _root_.id rfl
theorem QOr (K) : tkl [] K = [] := by cases K <;> rfl
theorem QOm (x z e K) : tkl (x :: z) (e :: K) = e :: tkl z K := _root_.id rfl
theorem QCV (P sh rs f K) : QiH P sh rs .normal f K = Jk (QdS f K P rs) (fun vs => (Qco K (QgG vs)).map fun p => Qo9 sh p.2) () := _root_.id rfl
theorem QAe (P sh rs f K) : QiH P sh rs .ret f K = Jk (QdS f K P rs) (fun vs => (Qco K (QgG vs)).map fun p => Qo9 sh p.2) () := _root_.id rfl
theorem QMO (f K P) : QdS f K P [] = some [] := _root_.id rfl
theorem QLl (f K P t rs) : QdS f K P (.tmp t :: rs) = (QdS f K P rs).map (f t :: ·) := _root_.id rfl
theorem QEV (f K P x t rs) : QdS f K P (.cell x t :: rs) = Jk (Qir (tk P t) (XW K (f x)) some ()) (fun v => (QdS f K P rs).map (v :: ·)) () := _root_.id rfl
theorem Qos {α γ : Type} (g : α → γ) (x : α) : (some x).map g = some (g x) := _root_.id rfl
theorem Qt8 {α γ : Type} (g : α → γ) : (none : Option α).map g = none := _root_.id rfl
theorem QLx (v) : QgG [v] = v := _root_.id rfl
theorem QNl (v w vs) : QgG (v :: w :: vs) = .tup (v :: w :: vs) := _root_.id rfl
theorem QGC : QgG [] = .tup [] := _root_.id rfl
theorem x_b (K x) : Qco K (.b x) = some (K, .b x) := _root_.id rfl
theorem x_i (K c x) : Qco K (.i c x) = some (K, .i c x) := _root_.id rfl
theorem x_s (K x) : Qco K (.s x) = some (K, .s x) := _root_.id rfl
theorem QJV (K) : Qco K .nil = some (K, .nil) := _root_.id rfl
theorem QHR (K n r) : Qco K (.imm n r) = none := by simp [Qco]
theorem QNW (K cs) : Qco K (.agg cs) = (Qfi K cs).map fun p => (p.1, .agg p.2) := by simp [Qco]
theorem QMI (K cs) : Qco K (.tup cs) = (Qfi K cs).map fun p => (p.1, .tup p.2) := by simp [Qco]
def QD2 (K : KS) (e : Option Ent) (j : Nat) : Option (KS × AV) := match e with | some (.lst n rows) => if Qs rows = true then some (K.set j none, .own n rows) else none | _ => none
theorem QQR (K j) : Qco K (.sl j) = QD2 K (kg K j) j := by rw [Qco]; rfl
theorem QPr (K n r j) : QD2 K (some (.lst n r)) j = cond (Qs r) (some (K.set j none, .own n r)) none := Qdw Iff.rfl _ _
theorem QGB (K) : Qfi K [] = some (K, []) := by simp [Qfi]
def QtQ (e : Option (KS × AV)) (cs : List AV) : Option (KS × List AV) := match e with | some (K1, c') => (Qfi K1 cs).map fun p => (p.1, c' :: p.2) | none => none
theorem QAs (K c cs) : Qfi K (c :: cs) = QtQ (Qco K c) cs := by rw [Qfi]; rfl
theorem QTx (K c cs) : QtQ (some (K, c)) cs = (Qfi K cs).map fun p => (p.1, c :: p.2) := _root_.id rfl
theorem QRD (cs) : QtQ none cs = none := _root_.id rfl
theorem QGv (z sl rg f K) (k : Fr → KS → Option β) (l) : Qgu z sl rg f K k l = VF rg f K [] (fun f K π => Vi (ndB π) (onz z π (VY (QCE K π) (fun K' => k (QzZ f π sl) K') ()) ()) ()) () := _root_.id rfl
theorem QIL (π) (q : Option β) (l) : onz [] π q l = q := _root_.id rfl
theorem QHG (x z π) (q : Option β) (l) : onz (x :: z) π q l = Vi (pfx (x :: z) π) q () := _root_.id rfl
theorem QT6 (π) : pfx [] π = true := _root_.id rfl
theorem QRO (x z y π) : pfx (x :: z) (y :: π) = ((x == y) && pfx z π) := by rw [← QlJ]; rfl
theorem QUM (x : Nat) : ([] : List Nat).contains x = false := _root_.id rfl
theorem QTB (x y : Nat) (l : List Nat) : (y :: l).contains x = ((x == y) || l.contains x) := List.contains_cons
theorem QPM (b : Bool) : (false || b) = b := by cases b <;> rfl
theorem QSc (b : Bool) : (true || b) = true := by cases b <;> rfl
theorem QEc (f K π) (k : Fr → KS → List Nat → Option β) (l) : VF [] f K π k l = k f K π := _root_.id rfl
theorem n_r (i r f K π) (k : Fr → KS → List Nat → Option β) (l) : VF (.r i :: r) f K π k l = VF r f K (π ++ [i]) k () := _root_.id rfl
def QnZ (v : AV) (t n : Nat) (r : List Pt) (f : Fr) (K : KS) (π : List Nat) (k : Fr → KS → List Nat → Option β) (_ : Lk (f, k)) : Option β := match v with
  | .sl j => VF r f K (π ++ [j]) k ()
  | .ptr j _ _ => VF r f K (π ++ [j]) k ()
  | .nil => VF r (up f t (.sl K.length)) (K ++ [some (.lst n [])]) (π ++ [K.length]) k ()
  | _ => none
theorem n_s (t n r f K π) (k : Fr → KS → List Nat → Option β) (l) : VF (.s t n :: r) f K π k l = QnZ (f t) t n r f K π k () := by simp only [VF, QnZ]; rfl
theorem QJd (j t n r f K π) (k : Fr → KS → List Nat → Option β) (l) : QnZ (.sl j) t n r f K π k l = VF r f K (π ++ [j]) k () := _root_.id rfl
theorem QG5 (j i o t n r f K π) (k : Fr → KS → List Nat → Option β) (l) : QnZ (.ptr j i o) t n r f K π k l = VF r f K (π ++ [j]) k () := _root_.id rfl
theorem QFr (t n r f K π) (k : Fr → KS → List Nat → Option β) (l) : QnZ .nil t n r f K π k l = VF r (up f t (.sl K.length)) (K ++ [some (.lst n [])]) (π ++ [K.length]) k () := _root_.id rfl
def Qny (c : Option AV) (r : List Pt) (f : Fr) (K : KS) (π : List Nat) (k : Fr → KS → List Nat → Option β) (_ : Lk (f, k)) : Option β := match c with
  | some (.sl i) => VF r f K (π ++ [i]) k ()
  | some (.ptr i _ _) => VF r f K (π ++ [i]) k ()
  | _ => none
def QqP (e : Option Ent) (o : Nat) (r : List Pt) (f : Fr) (K : KS) (π : List Nat) (k : Fr → KS → List Nat → Option β) (_ : Lk (f, k)) : Option β := match e with
  | some (.box cs) => Qny (cs[o]?) r f K π k ()
  | _ => none
def Qt4 (q : Option Nat) (o : Nat) (r : List Pt) (f : Fr) (K : KS) (π : List Nat) (k : Fr → KS → List Nat → Option β) (_ : Lk (f, k)) : Option β := match q with
  | some j => QqP (kg K j) o r f K π k ()
  | none => none
theorem n_c (q o n r f K π) (k : Fr → KS → List Nat → Option β) (l) : VF (.c q o n :: r) f K π k l = Qt4 (π[q]?) o r f K π k () := by
 simp only [VF, Qt4, QqP, Qny]
 cases π[q]? with
 | none => rfl
 | some j =>
  simp only
  cases kg K j with
  | none => rfl
  | some e =>
   cases e with
   | box cs =>
    simp only
    cases cs[o]? with
    | none => rfl
    | some c => cases c <;> rfl
   | lst _ _ => rfl
theorem QMG (j o r f K π) (k : Fr → KS → List Nat → Option β) (l) : Qt4 (some j) o r f K π k l = QqP (kg K j) o r f K π k () := _root_.id rfl
theorem QMx (cs o r f K π) (k : Fr → KS → List Nat → Option β) (l) : QqP (some (.box cs)) o r f K π k l = Qny (cs[o]?) r f K π k () := _root_.id rfl
theorem QKf (i r f K π) (k : Fr → KS → List Nat → Option β) (l) : Qny (some (.sl i)) r f K π k l = VF r f K (π ++ [i]) k () := _root_.id rfl
theorem QII (i a b r f K π) (k : Fr → KS → List Nat → Option β) (l) : Qny (some (.ptr i a b)) r f K π k l = VF r f K (π ++ [i]) k () := _root_.id rfl
def Qnw (c : Option AV) (cs : List AV) (t o n : Nat) (r : List Pt) (f : Fr) (K : KS) (π : List Nat) (k : Fr → KS → List Nat → Option β) (_ : Lk (f, k)) : Option β := match c with
  | some (.sl j) => VF r f K (π ++ [j]) k ()
  | some .nil => VF r (up f t (.agg (cs.set o (.sl K.length)))) (K ++ [some (.lst n [])]) (π ++ [K.length]) k ()
  | _ => none
def Qth (v : AV) (t o n : Nat) (r : List Pt) (f : Fr) (K : KS) (π : List Nat) (k : Fr → KS → List Nat → Option β) (_ : Lk (f, k)) : Option β := match v with
  | .agg cs => Qnw (cs[o]?) cs t o n r f K π k ()
  | _ => none
theorem n_g (t o n r f K π) (k : Fr → KS → List Nat → Option β) (l) : VF (.g t o n :: r) f K π k l = Qth (f t) t o n r f K π k () := by
 simp only [VF, Qth, Qnw]
 cases f t with
 | agg cs =>
  simp only
  cases cs[o]? with
  | none => rfl
  | some c => cases c <;> rfl
 | _ => rfl
theorem QI9 (cs t o n r f K π) (k : Fr → KS → List Nat → Option β) (l) : Qth (.agg cs) t o n r f K π k l = Qnw (cs[o]?) cs t o n r f K π k () := _root_.id rfl
theorem QKk (j cs t o n r f K π) (k : Fr → KS → List Nat → Option β) (l) : Qnw (some (.sl j)) cs t o n r f K π k l = VF r f K (π ++ [j]) k () := _root_.id rfl
theorem QKC (cs t o n r f K π) (k : Fr → KS → List Nat → Option β) (l) : Qnw (some .nil) cs t o n r f K π k l = VF r (up f t (.agg (cs.set o (.sl K.length)))) (K ++ [some (.lst n [])]) (π ++ [K.length]) k () := _root_.id rfl
theorem QMo : ndB [] = true := _root_.id rfl
theorem QHA (x l) : ndB (x :: l) = (!l.contains x && ndB l) := _root_.id rfl
def krn (K : KS) (π : List Nat) (l : List Nat) : KS := l.map fun j => (kg K j).map (Qja π)
theorem QUR (K π) : QCE K π = krn K π π := _root_.id rfl
theorem QGS (K π) : krn K π [] = [] := _root_.id rfl
theorem QFH (K π j l) : krn K π (j :: l) = (kg K j).map (Qja π) :: krn K π l := _root_.id rfl
theorem QOc (π cs) : Qja π (.box cs) = .box (Qe3 π cs) := _root_.id rfl
theorem QKE (π n r) : Qja π (.lst n r) = .lst n r := _root_.id rfl
theorem QHE (π) : Qe3 π [] = [] := by simp [Qe3]
theorem QJs (π c cs) : Qe3 π (c :: cs) = ren π c :: Qe3 π cs := by simp [Qe3]
def slO : Option Nat → AV | some i => .sl i | none => .u
def QG1 (i o : Nat) : Option Nat → AV | some j => .ptr j i o | none => .u
theorem QIe (i) : slO (some i) = .sl i := _root_.id rfl
theorem QHV : slO none = .u := _root_.id rfl
theorem QEq (i o j) : QG1 i o (some j) = .ptr j i o := _root_.id rfl
theorem QFg (i o) : QG1 i o none = .u := _root_.id rfl
theorem QEr (π j) : ren π (.sl j) = slO (QmH π j) := by simp only [ren]; rfl
theorem QBV (π j i o) : ren π (.ptr j i o) = QG1 i o (QmH π j) := by simp only [ren]; rfl
theorem QAg (π cs) : ren π (.agg cs) = .agg (Qe3 π cs) := by simp [ren]
theorem QAk (π cs) : ren π (.tup cs) = .tup (Qe3 π cs) := by simp [ren]
theorem QBU (π g cs) : ren π (.clo g cs) = .clo g (Qe3 π cs) := by simp [ren]
theorem QEw (π x) : ren π (.b x) = .b x := by simp [ren]
theorem QOI (π c x) : ren π (.i c x) = .i c x := by simp [ren]
theorem QJg (π x) : ren π (.s x) = .s x := by simp [ren]
theorem QLT (π) : ren π .nil = .nil := by simp [ren]
theorem QNQ (π) : ren π .u = .u := by simp [ren]
theorem QDD (π n r) : ren π (.imm n r) = .imm n r := by simp [ren]
theorem QxW (π n r i o) : ren π (.iptr n r i o) = .iptr n r i o := by simp [ren]
theorem QHz (j) : QmH [] j = none := _root_.id rfl
theorem QE9 (x l j) : QmH (x :: l) j = sel (x == j) (some 0) ((QmH l j).map (· + 1)) () := by
 rw [QmH]; exact Qdw (by simp) _ _
theorem QHr (f π l) : QzZ f π l = frm (frl f π l) := _root_.id rfl
theorem QF0 (f π) : frl f π [] = [] := _root_.id rfl
theorem QGt (f π t l) : frl f π (t :: l) = (t, ren π (f t)) :: frl f π l := _root_.id rfl
theorem QRT (z la rt f K) : QgP z la rt .normal f K = Qgu z la.sl la.rg f K (fun f K => some (.inl (f, K))) () := _root_.id rfl
theorem QQe (z la rt f K) : QgP z la rt .ret f K = Qgu z rt.sl rt.rg f K (fun f K => some (.inr (.ret, f, K))) () := _root_.id rfl
theorem QT2 (z la rt i f K) : QgP z la rt (.exit i) f K = Qgu z la.xs la.xr f K (fun f K => some (.inr (.exit i, f, K))) () := _root_.id rfl
theorem QIY (t x y) : QY t (.seq x y) = (QY t x).or (QY t y) := _root_.id rfl
theorem QF1 (t c x y) : QY t (.cond c x y) = (QY t x).or (QY t y) := _root_.id rfl
theorem QAt (t i x) : QY t (.block i x) = QY t x := _root_.id rfl
theorem QHk (t x) : QY t (.loop x) = sel (tag x == t) (some x) (QY t x) () := _root_.id rfl
theorem Qya (t i o d) : QY t (.region i o d) = none := _root_.id rfl
theorem QFq (t) : QY t .skip = none := _root_.id rfl
theorem QIO (t) : QY t .ret = none := _root_.id rfl
theorem QGp (t i) : QY t (.exit i) = none := _root_.id rfl
theorem QEe (x : Option Code) : (none : Option Code).or x = x := by cases x <;> rfl
theorem QD9 (x : Code) (y : Option Code) : (some x).or y = some x := _root_.id rfl
theorem l_0 (K) : QdT K [] = [] := by simp [QdT]
theorem l_s (K c cs) : QdT K (c :: cs) = QaK K c :: QdT K cs := by simp [QdT]
def QxQ (e : Option Ent) : AV := match e with | some (.lst n rows) => .imm n (QA rows) | _ => .u
theorem QT5 (K j) : QaK K (.sl j) = QxQ (kg K j) := by simp only [QaK]; rfl
theorem QPp (n r) : QxQ (some (.lst n r)) = .imm n (QA r) := _root_.id rfl
theorem QOi (K j) : QpD K j = QxQ (kg K j) := _root_.id rfl
def QtY (K : KS) (e : Option Ent) (i o : Nat) : AV := match e with
 | some (.lst n rows) => .iptr n (QA rows) i o
 | some (.box cs) => .iptr cs.length [cs.map (QgB K)] i o
 | none => .u
theorem QKx (K j i o) : QaK K (.ptr j i o) = QtY K (kg K j) i o := by simp only [QaK]; rfl
theorem QFi (K cs i o) : QtY K (some (.box cs)) i o = .iptr cs.length [cs.map (QgB K)] i o := _root_.id rfl
theorem QFn (K n r i o) : QtY K (some (.lst n r)) i o = .iptr n (QA r) i o := _root_.id rfl
theorem QGc (K n r i o) : QaK K (.iptr n r i o) = .iptr n r i o := by simp [QaK]
theorem QM8 (K j) : QgB K (.sl j) = QpD K j := _root_.id rfl
theorem QQZ (K x) : QgB K (.b x) = .b x := _root_.id rfl
theorem QP6 (K c x) : QgB K (.i c x) = .i c x := _root_.id rfl
theorem QQk (K x) : QgB K (.s x) = .s x := _root_.id rfl
theorem QSU (K) : QgB K .nil = .nil := _root_.id rfl
theorem QQs (K n r) : QgB K (.imm n r) = .imm n r := _root_.id rfl
theorem QE8 (r : List AV) (rs) : QM (r :: rs) 0 = r := _root_.id rfl
theorem QLZ (K cs) : QaK K (.agg cs) = .agg (QdT K cs) := by simp [QaK]
theorem QLD (K cs) : QaK K (.tup cs) = .tup (QdT K cs) := by simp [QaK]
theorem QL2 (K g cs) : QaK K (.clo g cs) = .clo g (QdT K cs) := by simp [QaK]
theorem l_b (K x) : QaK K (.b x) = .b x := by simp [QaK]
theorem l_i (K c x) : QaK K (.i c x) = .i c x := by simp [QaK]
theorem QUQ (K x) : QaK K (.s x) = .s x := by simp [QaK]
theorem l_n (K) : QaK K .nil = .nil := by simp [QaK]
theorem QJG (K n r) : QaK K (.imm n r) = .imm n r := by simp [QaK]
theorem QCB : QA [] = [] := by simp [QA]
theorem QDB (r rs) : QA (r :: rs) = VD r :: QA rs := by simp [QA]
theorem QGs : VD [] = [] := by simp [VD]
theorem QER (c cs) : VD (c :: cs) = Xf c :: VD cs := by simp [VD]
theorem QQl (x) : Xf (.b x) = .b x := by simp [Xf]
theorem QUz (c x) : Xf (.i c x) = .i c x := by simp [Xf]
theorem QTU (x) : Xf (.s x) = .s x := by simp [Xf]
theorem QTL : Xf .nil = .nil := by simp [Xf]
theorem QGm (n r) : Xf (.imm n r) = .imm n r := by simp [Xf]
theorem QEp (n r) : Xf (.own n r) = .imm n (QA r) := by simp [Xf]
theorem QOS (m n r) : VH m (.own n r) = (.sl m, [some (.lst n r)]) := by simp [VH]
theorem QKg (m cs) : VH m (.agg cs) = (.agg (Qce m cs).1, (Qce m cs).2) := by simp [VH]
theorem QMC (m cs) : VH m (.tup cs) = (.tup (Qce m cs).1, (Qce m cs).2) := by simp [VH]
theorem i_b (m x) : VH m (.b x) = (.b x, []) := by simp [VH]
theorem i_i (m c x) : VH m (.i c x) = (.i c x, []) := by simp [VH]
theorem QSJ (m x) : VH m (.s x) = (.s x, []) := by simp [VH]
theorem i_n (m) : VH m .nil = (.nil, []) := by simp [VH]
theorem QTT (m) : Qce m [] = ([], []) := by simp [Qce]
theorem QRH (m c cs) : Qce m (c :: cs) = ((VH m c).1 :: (Qce (m + (VH m c).2.length) cs).1, (VH m c).2 ++ (Qce (m + (VH m c).2.length) cs).2) := by simp [Qce]
theorem QEa {α γ : Type} (x : α) (y : γ) : (x, y).1 = x := _root_.id rfl
theorem QHH {α γ : Type} (x : α) (y : γ) : (x, y).2 = y := _root_.id rfl
def QqR (e : Option (List AV)) (k : AV → Option β) (_ : Lk k) : Option β := match e with | some cs => k (.agg cs) | none => none
theorem QKu (K z p ps l) : Qk4 K (.st z p) ps k l = QqR (Qa8 K (p[·]?) z ps) k () := _root_.id rfl
theorem QEG (K z m ps l) : Qk4 K (.arr z m) ps k l = QqR (Qa8 K (fun i => some (i * m, m)) z ps) k () := _root_.id rfl
theorem QKO (cs l) : QqR (some cs) k l = k (.agg cs) := _root_.id rfl
def QEg (fl : Bool) (ns : List Nat) (e : Option (List AV)) (K : KS) (len m : Nat) (k : AV → KS → Option β) (_ : Lk k) : Option β := match e with
  | some cs => cond (yB fl cs) (match Vv K cs with
   | some (K1, cs) => VY (K1 ++ [some (.lst m ((QbL m len cs).map (nz ns)))]) (fun K' => k (.sl K.length) K') ()
   | none => none) none
  | none => none
theorem QQ4 (fl ns K e m z) (k : AV → KS → Option β) (l) : QhJ fl ns K (some (e, m, z)) 0 [] k l = VY (K ++ [some (.lst m [])]) (fun K' => k (.sl K.length) K') () := _root_.id rfl
theorem s_b (fl ns K e m z len ps) (k : AV → KS → Option β) (l) : QhJ fl ns K (some (e, m, z)) (len + 1) ps k l = okB (Nat.ble ((len + 1) * m) 16777216) (QEg fl ns (Qa8 K (fun i => some (i * m, m)) (Qeh (len + 1) z) ps) K (len + 1) m k ()) () :=
 Qdw QkJ _ _
def QEd (ns : List Nat) (e : Option (KS × List AV)) (n len m : Nat) (k : AV → KS → Option β) (_ : Lk k) : Option β := match e with
   | some (K1, cs) => VY (K1 ++ [some (.lst m ((QbL m len cs).map (nz ns)))]) (fun K' => k (.sl n) K') ()
   | none => none
theorem QRK (fl ns K cs len m) (k : AV → KS → Option β) (l) : QEg fl ns (some cs) K len m k l = cond (yB fl cs) (QEd ns (Vv K cs) K.length len m k ()) none := _root_.id rfl
theorem QPS : zB [] = true := _root_.id rfl
theorem QR7 (l : List Nat) : zB (0 :: l) = zB l := _root_.id rfl
theorem QUF (n : Nat) (l : List Nat) : zB ((n + 1) :: l) = false := _root_.id rfl
theorem QSW (cs) : yB false cs = true := _root_.id rfl
theorem QR5 (cs) : yB true cs = noS cs := _root_.id rfl
theorem QUE : noS [] = true := _root_.id rfl
theorem QUG (c n l) : noS (.i c n :: l) = noS l := _root_.id rfl
theorem QSd (x l) : noS (.b x :: l) = noS l := _root_.id rfl
theorem QTq (x l) : noS (.s x :: l) = noS l := _root_.id rfl
theorem QQy (l) : noS (.nil :: l) = noS l := _root_.id rfl
theorem QQ6 (n r l) : noS (.imm n r :: l) = noS l := _root_.id rfl
theorem QSj (j l) : noS (.sl j :: l) = false := _root_.id rfl
theorem QP2 (ns K1 cs n len m) (k : AV → KS → Option β) (l) : QEd ns (some (K1, cs)) n len m k l = VY (K1 ++ [some (.lst m ((QbL m len cs).map (nz ns)))]) (fun K' => k (.sl n) K') () := _root_.id rfl
theorem QUe (K p cs) : Qa8 K p cs [] = some cs := _root_.id rfl
def QxH (K : KS) (place : Nat → Option (Nat × Nat)) (cs : List AV) (p : Option (Nat × Nat)) (d : Option (List AV)) (rest : List (Nat × AV)) : Option (List AV) := match p, d with
  | some (o, m), some ds => if ds.length = m ∧ o + m ≤ cs.length then Qa8 K place (putCells cs o ds) rest else none
  | _, _ => none
theorem QT9 (K p cs i v r) : Qa8 K p cs ((i, v) :: r) = QxH K p cs (p i) (Qdu K v) r := by simp only [Qa8]; rfl
theorem QRn (K p cs o m ds r) : QxH K p cs (some (o, m)) (some ds) r = cond ((ds.length == m) && Nat.ble (o + m) cs.length) (Qa8 K p (putCells cs o ds) r) none :=
 Qdw (by simp only [Bool.and_eq_true, beq_iff_eq, QkJ]) _ _
theorem QRM (K cs) : Qdu K (.agg cs) = some cs := _root_.id rfl
theorem QTk (K x) : Qdu K (.b x) = some [.b x] := _root_.id rfl
theorem QQC (K c x) : Qdu K (.i c x) = some [.i c x] := _root_.id rfl
theorem QQq (K x) : Qdu K (.s x) = some [.s x] := _root_.id rfl
theorem QSQ (K) : Qdu K .nil = some [.nil] := _root_.id rfl
theorem QGH (K n r) : Qdu K (.imm n r) = some [.imm n r] := _root_.id rfl
theorem QJf (K j) : Qdu K (.sl j) = cond (kg K j).isSome (some [.sl j]) none := by
 show (if ZE K (.sl j) = true then some [AV.sl j] else none) = _; exact Qdw Iff.rfl _ _
theorem QQI (z) : Qeh 0 z = [] := by simp [Qeh]
theorem QQ7 (n z) : Qeh (n + 1) z = z ++ Qeh n z := by simp [Qeh, List.replicate_succ]
theorem QPj (K) : Vv K [] = some (K, []) := _root_.id rfl
theorem QO9 (K x cs) : Vv K (.b x :: cs) = (Vv K cs).map fun p => (p.1, .b x :: p.2) := by simp [Vv, AV.closed]
theorem QOk (K c x cs) : Vv K (.i c x :: cs) = (Vv K cs).map fun p => (p.1, .i c x :: p.2) := by simp [Vv, AV.closed]
theorem QHM (K x cs) : Vv K (.s x :: cs) = (Vv K cs).map fun p => (p.1, .s x :: p.2) := by simp [Vv, AV.closed]
theorem QHX (K cs) : Vv K (.nil :: cs) = (Vv K cs).map fun p => (p.1, .nil :: p.2) := by simp [Vv, AV.closed]
theorem QA0 (K n r cs) : Vv K (.imm n r :: cs) = (Vv K cs).map fun p => (p.1, .imm n r :: p.2) := by simp [Vv, AV.closed]
def QIv (e : Option Ent) (K : KS) (j : Nat) (cs : List AV) : Option (KS × List AV) := match e with
  | some (.lst n rows) => (Vv (K.set j none) cs).map fun p => (p.1, .own n rows :: p.2)
  | _ => none
theorem QFe (K j cs) : Vv K (.sl j :: cs) = QIv (kg K j) K j cs := by simp only [Vv]; rfl
theorem QH3 (K n r j cs) : QIv (some (.lst n r)) K j cs = (Vv (K.set j none) cs).map fun p => (p.1, .own n r :: p.2) := _root_.id rfl
theorem QLj (m cs) : QbL m 0 cs = [] := _root_.id rfl
theorem QPe (m l cs) : QbL m (l + 1) cs = cs.take m :: QbL m l (cs.drop m) := _root_.id rfl
def Qu2 (e : Option (List (List AV) × KS)) (n m b : Nat) (s : AV) (k : AV → KS → Option β) (_ : Lk k) : Option β := match e with
  | some (rows', K1) => match s with
   | .sl j => match kg K1 j with
    | some (.lst n' rows) => if n' = m then Vi (decide ((rows.length + rows'.length) * (b + 1) ≤ 140737488355328)) (VY (K1.set j none ++ [some (.lst m (rows ++ rows'))]) (fun K' => k (.sl n) K') ()) () else none
    | _ => none
   | .nil => Vi (decide (rows'.length * (b + 1) ≤ 140737488355328)) (VY (K1 ++ [some (.lst m rows')]) (fun K' => k (.sl n) K') ()) ()
   | _ => none
  | none => none
def QxN (e : Option Ent) (r : List (List AV)) (K1 : KS) (n m b j : Nat) (k : AV → KS → Option β) (_ : Lk k) : Option β := match e with
    | some (.lst n' rows) => if n' = m then Vi (decide ((rows.length + r.length) * (b + 1) ≤ 140737488355328)) (VY (K1.set j none ++ [some (.lst m (rows ++ r))]) (fun K' => k (.sl n) K') ()) () else none
    | _ => none
def QG7 (K : KS) (t : Option (TypeId × Nat × List AV)) (bytes : Option Nat) (s x : AV) (k : AV → KS → Option β) (_ : Lk k) : Option β := QmX K t bytes s x k ()
def QCf (P : Program) (t : Option (TypeId × Nat × List AV)) : Option Nat := t.bind fun q => tb P q.1
theorem QK3 {P : Program} {D : Orc} {f : Fr} {K : KS} (s x t tx ts) (k : AV → KS → Option β) (l) : oop P D (.call ⟨.builtin .append, List.toArray [s, x], List.toArray (t :: tx :: ts)⟩) f K k l = okB (QbC P tx && !(Qci s && QfV (ev f x))) (QG7 K (tse P t) (QCf P (tse P t)) (ev f s) (ev f x) k ()) () := by
 simp only [oop, okB, QG7, QCf]; cases QbC P tx <;> cases (Qci s && QfV (ev f x)) <;> rfl
theorem QQf (d) : Qci (.tmp d) = false := _root_.id rfl
theorem QS2 : Qci (.const (.slice none 0 0)) = true := _root_.id rfl
theorem QTf (n r) : QfV (.imm n r) = false := _root_.id rfl
theorem QUD : QfV .nil = false := _root_.id rfl
theorem QTI (j) : QfV (.sl j) = true := _root_.id rfl
def Qxh (ns : List Nat) (K : KS) (t : Option (TypeId × Nat × List AV)) (bytes : Option Nat) (l c : AV) (k : AV → KS → Option β) (_ : Lk k) : Option β := Qus ns K t bytes l c k ()
theorem QQM {P : Program} {D : Orc} {f : Fr} {K : KS} (t x c) (k : AV → KS → Option β) (l) : oop P D (.makeSlice t x c) f K k l = Qxh (Qe6 P t) K (tse P t) (QCf P (tse P t)) (ev f x) (ev f c) k () := _root_.id rfl
theorem QJL (ns K e m z b i c) (k : AV → KS → Option β) (l) : Qxh ns K (some (e, m, z)) (some (b + 1)) (.i .i64 i) (.i .i64 c) k l = Vi (decide (i = c)) (Vi (mkB i (b + 1)) (VY (K ++ [some (.lst m (List.replicate i.toNat (nz ns z)))]) (fun K' => k (.sl K.length) K') ()) ()) () := _root_.id rfl
theorem QPG (i : Int) : (i = i) = True := by simp
theorem QIl (P e m z) : QCf P (some (e, m, z)) = tb P e := _root_.id rfl
theorem a_1 (K e m z b s x) (k : AV → KS → Option β) (l) : QG7 K (some (e, m, z)) (some (b + 1)) s x k l = Qu2 (Qdt K m x) K.length m b s k () := _root_.id rfl
theorem a_2 (r K1 n m b j) (k : AV → KS → Option β) (l) : Qu2 (some (r, K1)) n m b (.sl j) k l = QxN (kg K1 j) r K1 n m b j k () := _root_.id rfl
theorem a_3 (r K1 n m b) (k : AV → KS → Option β) (l) : Qu2 (some (r, K1)) n m b .nil k l = Vi (rm r.length (b + 1)) (VY (K1 ++ [some (.lst m r)]) (fun K' => k (.sl n) K') ()) () := by
 simp [Qu2, rm]
theorem a_4 (r' r K1 n m b j) (k : AV → KS → Option β) (l) : QxN (some (.lst m r')) r K1 n m b j k l = Vi (rm (r'.length + r.length) (b + 1)) (VY (K1.set j none ++ [some (.lst m (r' ++ r))]) (fun K' => k (.sl n) K') ()) () := by
 simp [QxN, rm]
theorem QTe (K m) : Qdt K m .nil = some ([], K) := _root_.id rfl
theorem QPN (K m r) : Qdt K m (.imm m r) = some (r, K) := by simp [Qdt]
def QGl (e : Option Ent) (K : KS) (m k : Nat) : Option (List (List AV) × KS) := match e with
  | some (.lst n rows) => if n = m then some (rows, K.set k none) else none
  | _ => none
theorem QTh (K m j) : Qdt K m (.sl j) = QGl (kg K j) K m j := _root_.id rfl
theorem QSI (K m j r) : QGl (some (.lst m r)) K m j = some (r, K.set j none) := by simp [QGl]
end
section
variable (T : Tld)
theorem QIZ (n h) : (orc T (n + 1) h).w = T.wt := _root_.id rfl
theorem QPt (n h g) : (orc T n h).z g = (lk T.pz g).getD [] := by cases n <;> rfl
theorem QNH (n h) : (orc T (n + 1) h).v = T.vt := _root_.id rfl
theorem QNJ (n h) : (orc T n h).m = CM T n := by cases n <;> rfl
theorem QLf (n h) : (orc T n h).a = CA T n := by cases n <;> rfl
theorem QNR (n h) : (orc T (n + 1) h).q = T.qt := _root_.id rfl
theorem QI2 (n h) : (orc T (n + 1) h).s = T.st := _root_.id rfl
theorem QKc (n h) : (orc T n h).p = CP T n := by cases n <;> rfl
theorem QLA (n h) : (orc T n h).l = LP T n h := _root_.id rfl
noncomputable def cpF (T : Tld) (n g : Nat) (fn : Option Func) (a : Option Ann) (args : List AV) : Option AV := match a with
 | some a => match fn with
  | some f => cond (Nat.ble args.length f.ntmps) (VL T.P (orc T n g) a (f.body.getD .skip) (QiH T.P a.sh f.results.toList) (VR args) [] ()) none
  | none => cond (Nat.ble args.length 0) (VL T.P (orc T n g) a .skip (QiH T.P a.sh []) (VR args) [] ()) none
 | none => T.xt g args
noncomputable def caF (T : Tld) (n g : Nat) (fn : Option Func) (a : Option Ann) (K : KS) (args : List AV) : Option (AV × KS) := match a with
 | some a => match fn with
  | some f => cond (!a.ak.isEmpty && (Nat.beq K.length a.ak.length && Nat.ble args.length f.ntmps)) (VL T.P (orc T n g) a (f.body.getD .skip) (QfK T.P a.ak f.results.toList) (VR args) K ()) none
  | none => cond (!a.ak.isEmpty && (Nat.beq K.length a.ak.length && Nat.ble args.length 0)) (VL T.P (orc T n g) a .skip (QfK T.P a.ak []) (VR args) K ()) none
 | none => none
theorem Qfd (n g K args) : CA T (n + 1) g K args = caF T n g (T.P.funcs[g]?) (T.at g) K args := by
 show (match T.at g with | some a => cond _ _ _ | none => none) = _
 unfold caF body Qmh ntm
 cases T.at g with
 | none => rfl
 | some a => cases T.P.funcs[g]? <;> rfl
theorem QxO (n g K args a) (x1 x2 x3 x4 x5 x6 m) (rs : List ResultVar) (c x7 x8 x9 x10 x11 x12 x13) : caF T n g (some ⟨x1, x2, x3, x4, x5, x6, m, List.toArray rs, some c, x7, x8, x9, x10, x11, x12, x13⟩) (some a) K args = cond (!a.ak.isEmpty && ((K.length == a.ak.length) && Nat.ble args.length m)) (VL T.P (orc T n g) a c (QfK T.P a.ak rs) (VR args) K ()) none := by rw [← QlJ]; rfl
theorem QF7 {α : Type} (x : α) (l : List α) : (x :: l).isEmpty = false := _root_.id rfl
theorem QUL : (!false) = true := _root_.id rfl
noncomputable def cmF (T : Tld) (n g : Nat) (fn : Option Func) (a : Option Ann) (K : KS) (args : List AV) : Option AV := match a with
 | some a => cond (Nat.ble args.length (match fn with | some f => f.ntmps | none => 0)) (VL T.P (orc T n g) a (match fn with | some f => f.body.getD .skip | none => .skip) (QiH T.P a.sh (match fn with | some f => f.results.toList | none => [])) (VR args) K ()) none
 | none => T.mt g K args
theorem Qpr (n g K args) : CM T (n + 1) g K args = cmF T n g (T.P.funcs[g]?) (T.at g) K args := by
 show (match T.at g with | some a => _ | none => _) = _
 unfold cmF body Qmh ntm
 cases T.at g with
 | none => rfl
 | some a => cases T.P.funcs[g]? <;> rfl
theorem QCg (n g K args) (h : T.at g = none) : CM T (n + 1) g K args = T.mt g K args := by rw [Qpr, h]; rfl
theorem Qxv (n g K args a) (x1 x2 x3 x4 x5 x6 m) (rs : List ResultVar) (c x7 x8 x9 x10 x11 x12 x13) : cmF T n g (some ⟨x1, x2, x3, x4, x5, x6, m, List.toArray rs, some c, x7, x8, x9, x10, x11, x12, x13⟩) (some a) K args = cond (Nat.ble args.length m) (VL T.P (orc T n g) a c (QiH T.P a.sh rs) (VR args) K ()) none := _root_.id rfl
theorem Qc (n g args) : CP T (n + 1) g args = cpF T n g (T.P.funcs[g]?) (T.at g) args := by
 show (match T.at g with | some a => cond _ _ _ | none => T.xt g args) = _
 unfold cpF body Qmh ntm
 cases T.at g with
 | none => rfl
 | some a => cases T.P.funcs[g]? <;> rfl
theorem QSb (n g args) (h : T.at g = none) : CP T (n + 1) g args = T.xt g args := by rw [Qc, h]; rfl
theorem QyC (n g args a) (x1 x2 x3 x4 x5 x6 m) (rs : List ResultVar) (c x7 x8 x9 x10 x11 x12 x13) : cpF T n g (some ⟨x1, x2, x3, x4, x5, x6, m, List.toArray rs, some c, x7, x8, x9, x10, x11, x12, x13⟩) (some a) args = cond (Nat.ble args.length m) (VL T.P (orc T n g) a c (QiH T.P a.sh rs) (VR args) [] ()) none := _root_.id rfl
noncomputable def lpG (T : Tld) (n h : Nat) (a : Ann) (c : Option Code) (la : Option LA) (f : Fr) (K : KS) : Option (XE × Fr × KS) := match c, la with
    | some c, some la => run (fun s => VL T.P (orc T n h) a c (QgP a.ak la a.rt) s.1 s.2 ()) (f, K)
    | _, _ => none
noncomputable def lpF (T : Tld) (n h t : Nat) (fn : Option Func) (a : Option Ann) (f : Fr) (K : KS) : Option (XE × Fr × KS) := match a with
 | some a => lpG T n h a (QY t (match fn with | some f => f.body.getD .skip | none => .skip)) (lk a.lp t) f K
 | none => none
theorem Qm (n h t f K) : LP T (n + 1) h t f K = lpF T n h t (T.P.funcs[h]?) (T.at h) f K := by
 show (match T.at h with | some a => _ | none => none) = _
 unfold lpF
 cases T.at h <;> rfl
theorem QwH (n h t a f K) (x1 x2 x3 x4 x5 x6 m rs c x7 x8 x9 x10 x11 x12 x13) : lpF T n h t (some ⟨x1, x2, x3, x4, x5, x6, m, rs, some c, x7, x8, x9, x10, x11, x12, x13⟩) (some a) f K = lpG T n h a (QY t c) (lk a.lp t) f K := _root_.id rfl
theorem Qf (n h a c la f K) : lpG T n h a (some c) (some la) f K = run (fun s => VL T.P (orc T n h) a c (QgP a.ak la a.rt) s.1 s.2 ()) (f, K) := _root_.id rfl
theorem getD_some {α : Type} (x d : α) : (some x).getD d = x := _root_.id rfl
theorem Qlk {α : Type} (d : α) : (none : Option α).getD d = d := _root_.id rfl
end
end Go.Proofs.YtcdffihcfeajfaaGreat.Am
namespace Go.Proofs.YtcdffihcfeajfaaGreat.Am
open Go
set_option linter.unusedVariables false
set_option linter.unusedSimpArgs false
section
variable {α β γ : Type} {c : α → List AV}
theorem QrW (xs : List α) (i) : inb (xs.map c) i = inb xs i := by simp [inb]
theorem QTK (xs : List α) : lnR (xs.map c) = ln xs := by simp [lnR, ln]
theorem QsU [Inhabited α] (xs : List α) (i : Int) (h : inb xs i = true) : QM (xs.map c) i.toNat = c (gt xs i) := by
 obtain ⟨h0, h1⟩ := Qfa.1 h
 have h2 : i.toNat < xs.length := by omega
 simp [QM, gt, List.getD_eq_getElem?_getD, h2]
theorem QHF (xs : List α) (i : Int) (h : inb xs i = true) : Qpj (xs.map c) i.toNat = true := by
 unfold Qpj
 obtain ⟨h0, h1⟩ := Qfa.1 h
 rw [Nat.blt_eq]; simp; omega
theorem QMa (xs : List α) (l h : Int) : cut (xs.map c) l h = (cut xs l h).map c := by simp [cut, List.map_take, List.map_drop]
theorem Qq8 (xs : List α) (i : Int) (ys : List α) (b : Nat) : Qel (xs.map c) i (ys.map c) b = Qel xs i ys b := by simp [Qel]
theorem Qp9 (xs : List α) (i : Int) (ys : List α) : Q2 (xs.map c) i (ys.map c) = (Q2 xs i ys).map c := by simp [Q2, List.map_take, List.map_drop]
theorem QJB (xs : List α) : (xs.map c).length = xs.length := by simp
theorem Qys (xs : List α) (n : Nat) (x : α) (i : Int) : inb (xs.set n x) i = inb xs i := by simp [inb]
theorem QBy [Inhabited α] (xs : List α) (x : α) (i : Int) (h : inb xs i = true) : gt (xs.set i.toNat x) i = x := by
 obtain ⟨h0, h1⟩ := Qfa.1 h
 have h2 : i.toNat < xs.length := by omega
 simp [gt, List.getD_eq_getElem?_getD, h2]
theorem QxK (xs : List α) (n : Nat) (x y : α) : (xs.set n x).set n y = xs.set n y := by simp
theorem QvW (o : Option α) (g : β → γ) (f : α → Option β) : (o.bind f).map g = o.bind fun x => (f x).map g := by cases o <;> rfl
theorem QvX (b : Bool) (o : Option β) (g : β → γ) (l) : (Vi b o l).map g = Vi b (o.map g) () := by cases b <;> rfl
theorem Qwh (b : Bool) (x y : Option β) (g : β → γ) : (cond b x y).map g = cond b (x.map g) (y.map g) := by cases b <;> rfl
theorem Qy6 {ρ δ : Type} (p : ρ → Option β) (q : δ → Option β) (x) (g : β → γ) : (evO p q x).map g = evO (fun r => (p r).map g) (fun r => (q r).map g) x := by cases x <;> rfl
theorem QrE (x : α) (f : α → Option β) : (some x).bind f = f x := _root_.id rfl
theorem QsD (o : Option α) (f : α → Option β) (g : β → Option γ) : (o.bind f).bind g = o.bind fun x => (f x).bind g := by cases o <;> rfl
theorem QAX {α' β' : Type} (f : α → α') (g : β → β') (x) : Sum.map f g (.inl x) = .inl (f x) := _root_.id rfl
theorem Qz8 {α' β' : Type} (f : α → α') (g : β → β') (x) : Sum.map f g (.inr x) = .inr (g x) := _root_.id rfl
end
class EncR {α : Type} (c : α → List AV) (r : List AV) (x : outParam α) : Prop where
 eq : r = c x
class EncL {α : Type} (c : α → List AV) (R : List (List AV)) (xs : outParam (List α)) : Prop where
 eq : R = xs.map c
instance {α : Type} (c : α → List AV) (x : α) : EncR c (c x) x := ⟨rfl⟩
instance {α : Type} (c : α → List AV) (xs : List α) : EncL c (xs.map c) xs := ⟨rfl⟩
instance {α : Type} (c : α → List AV) : EncL c [] [] := ⟨rfl⟩
instance {α : Type} (c : α → List AV) (r R x xs) [h : EncR c r x] [H : EncL c R xs] : EncL c (r :: R) (x :: xs) := ⟨by rw [h.eq, H.eq]; rfl⟩
instance {α : Type} (c : α → List AV) (R S xs ys) [h : EncL c R xs] [H : EncL c S ys] : EncL c (R ++ S) (xs ++ ys) := ⟨by rw [h.eq, H.eq]; simp⟩
instance {α : Type} (c : α → List AV) (R xs) (i : Nat) (r x) [h : EncL c R xs] [H : EncR c r x] : EncL c (R.set i r) (xs.set i x) := ⟨by rw [h.eq, H.eq, List.map_set]⟩
instance {α : Type} (c : α → List AV) (n : Nat) (r x) [H : EncR c r x] : EncL c (List.replicate n r) (List.replicate n x) := ⟨by rw [H.eq, List.map_replicate]⟩
theorem QFc {α : Type} {c : α → List AV} (xs : List α) (R) {ys} [h : EncL c R ys] : xs.map c ++ R = (xs ++ ys).map c := by rw [h.eq]; simp
theorem QFW {α : Type} {c : α → List AV} (xs : List α) (n : Nat) (R) {x} [h : EncR c R x] : (xs.map c).set n R = (xs.set n x).map c := by rw [h.eq, List.map_set]
theorem ZN {α : Type} {c : α → List AV} (h : ∀ x, X0 (c x) = true) (xs : List α) : Qs (xs.map c) = true := by
 induction xs with
 | nil => simp [Qs]
 | cons x xs ih => simp [Qs, h, ih]
theorem Qov {α : Type} {c : α → List AV} (h : ∀ x, (c x).all AV.scal = true) (xs : List α) : Qbv (xs.map c) = true := by
 induction xs with
 | nil => rfl
 | cons x xs ih => unfold Qbv at ih ⊢; rw [List.map_cons, List.all_cons, h, ih]; rfl
theorem QbE {α : Type} {c c' : α → List AV} (h : ∀ x, VD (c x) = c' x) (xs : List α) : QA (xs.map c) = xs.map c' := by
 induction xs with
 | nil => simp [QA]
 | cons x xs ih => simp [QA, h, ih]
theorem QHa {α : Type} {c : α → List AV} (xs : List α) (n b : Nat) (m) : Qmg (xs.map c).isEmpty (some (AV.own n [])) (Vi (rm (0 + xs.length) b) (some (AV.own n (xs.map c))) m) = Vi (rm (0 + xs.length) b) (some (AV.own n (xs.map c))) () := by
 cases xs with
 | nil => simp [Qmg, oeq, Vi, rm]
 | cons r R => rfl
set_option linter.defProp false
set_option maxRecDepth 100000
def evA := aI @QNB <| aI @QN9 <| aI @Qxm <| aI @QEb <| aI @Qyn <| aI @QDT <| aI @QPs <| aI @QKU <| aI @QFS <| aI @QAP <| aI @QzP <| aI @QPQ <| aI @QIi <| aI @QQN <| aI @QPa <| aI @QCX <| aI @QMB <| aI @QBr <| aI @QEl <| aI @QCe <| aI @QwV <| aI @QK6 <| aI @QOp <| aI @QGM <| aI @QFI <| aI @QMi <| aI @QCO <| aI @QwM <| aI @QJH <| aI @Qxs <| aI @QGD <| aI @QGZ <| aI @QFL <| aI @QI3 <| aI @QOD <| aI @QOg <| aI @QNP <| aI @QwD <| aI @QpC <| aI @QIP <| aI @QzX <| aI @Qyc <| aI @QHn <| aI @QES <| aI @QNE <| aI @QMk <| aI @s_v <| aI @v_j <| aI @v_s <| aI @QKs <| aI @QOn <| aI @Qxv <| aI @Quq <| aI @n_c <| aI @QMG <| aI @QMx <| aI @QKf <| aI @QII <| aI @n_g <| aI @QI9 <| aI @QKk <| aI @QKC <| aI @QGq <| aI @QJ7 <| aI @QFC <| aI @QJv <| aI @QFv <| aI @QCh <| aI @Qy1 <| aI @QuM <| aI @Qu0 <| aI @QuD <| aI @QuS <| aI @QQi <| aI @QRo <| aI @QD0 <| aI @QIL <| aI @QHG <| aI @QGo <| aI @QGy <| aI @QGR <| aI @QDA <| aI @Qyl <| aI @QCb <| aI @QvN <| aI @QC1 <| aI @QwQ <| aI @QHS <| aI @QPi <| aI @QEW <| aI @QHx <| aI @QEH <|  aI @QCL <| aI @QpC <| aI @QIU <| aI @QM9 <| aI @QCv <| aI @QOb <| aI @QPh <| aI @QzH <| aI @Qx3 <| aI @QyT <| aI @QOW <| aI @Qwr <| aI @QLN <| aI @QMe <|
 aI @Qxc <| aI @Qyz <| aI @QHg <| aI @QuH <| aI @Qx7 <| aI @QwG <| aI @QyG <| aI @QAy <| aI @QBd <| aI @QDz <|
 aI @QNk <| aI @QEM <| aI @QAE <| aI @c_g <| aI @QTm <| aI @QD6 <| aI @QD8 <| aI @QEh <|
 aI @QjK <| aI @Qv2 <| aI @Qtb <| aI @Qso <| aI @Qtj <|
 aI @QFa <| aI @QxG <| aI @QFA <| aI @QA3 <| aI @QLm <| aI @QBu <| aI @Qxr <| aI @QGF <| aI @QzV <| aI @QJ3 <| aI @QEx <| aI @QHc <| aI @QGW <| aI @QGr <| aI @QNr <| aI @QNZ <| aI @QN5 <| aI @QK1 <| aI @QOo <| aI @QTR <|
 aI @QST <| aI @QPz <| aI @QKi <| aI @QKM <| aI @QH8 <| aI @QNj <| aI @QGn <| aI @QAO <| aI @QK3 <| aI @QQM <|
 aI @QIw <| aI @QF8 <| aI @Qvr <| aI @Qtl <| aI @Qtt <| aI @Qrq <| aI @Qsf <| aI @Qy7 <| aI @Qti <| aI @Qu9 <|
 aI @QrR <| aI @QsH <| aI @VC <| aI @QkH <| aI @Qn5 <| aI @QpK <|
 aI @QCV <| aI @QAe <| aI @QGv <| aI @QEc <| aI @n_r <| aI @n_s <| aI @QRT <| aI @QQe <| aI @QT2 <|
 aI @QIY <| aI @QF1 <| aI @QAt <| aI @QHk <| aI @Qya <| aI @QFq <| aI @QIO <| aI @QGp <| aI @QEe <| aI @QD9 <|
 aI @getD_some <| aI @Qlk <| aI @QyC <| aI @QxO <| aI @QwH @QEa
def evB := aI @Qq3 <| aI @Qql <| aI @QQz <| aI @QSw <| aI @QQx <| aI @QR8 <| aI @QQa <| aI @QSh <| aI @QPS <| aI @QR7 <| aI @QUF <| aI @QSW <| aI @QR5 <| aI @QUE <| aI @QUG <| aI @QSd <| aI @QTq <| aI @QQy <| aI @QQ6 <| aI @QSj <| aI @QNB <| aI @QN9 <| aI @Qxm <| aI @QEb <| aI @Qyn <| aI @QDT <| aI @QPs <| aI @QKU <| aI @QOD <| aI @QOg <| aI @QNP <| aI @QUu <| aI @c_K <| aI @QPa <| aI @QHR <| aI @QRD <| aI @s_v <| aI @v_j <| aI @v_s <| aI @QKs <| aI @QOn <| aI @Qxv <| aI @p_0 <| aI @p_e <| aI @p_s <| aI @p_n <| aI @p_z <| aI @p_a <| aI @QPw <| aI @QQU <| aI @QQj <| aI @QRV <| aI @QRf <| aI @QTE <| aI @QRd <| aI @QUi <| aI @QPt <| aI @Qn5 <| aI @QpK <| aI @Qlk <| aI @getD_some <| aI @n_c <| aI @QMG <| aI @QMx <| aI @QKf <| aI @QII <| aI @n_g <| aI @QI9 <| aI @QKk <| aI @QKC <| aI @QEc <| aI @n_r <| aI @n_s <| aI @QBD <| aI @QAj <| aI @QB6 <| aI @QrR <| aI @QsH <| aI @VC <| aI @QkH <| aI @Qxc <| aI @Qyz <| aI @QuH <| aI @QD6 <| aI @QD8 <| aI @QEe <| aI @QD9 <| aI @getD_some <| aI @Qlk <| aI @QzH <| aI @Qx3 <| aI @Qwr <| aI @QyT <| aI @VK <| aI @QOb <| aI @QPh <| aI @c_M <| aI @QQf <| aI @QS2 <| aI @QTf <| aI @QUD <| aI @QTI <| aI @QOX <| aI @QI5 <| aI @QHh <| aI @QHt <| aI @QCZ <| aI @QCw <| aI @QGd <| aI @QBQ <| aI @QzR <| aI @QHZ <| aI @QNx <| aI @QxL <| aI @QGQ <| aI @QLB <| aI @QE3 <| aI @QEA <| aI @QxE <| aI @Qxt <| aI @QuM <| aI @Qu0 <| aI @QIL <| aI @QHG <| aI @QT6 <| aI @QRO <| aI @QUM <| aI @QTB <| aI @QPM <| aI @QSc <| aI @s_w <| aI @w_j <| aI @w_s <| aI @QTF <| aI @QRg <| aI @QIo <| aI @QEP <| aI @QRU <| aI @QSP <| aI @QN0 <| aI @QRb <| aI @QSp <| aI @QSC <| aI @QRu <| aI @QJC <| aI @QGN <| aI @QRW <| aI @QQH <| aI @QM3 <| aI @QQm <| aI @QRS <| aI @QPJ <| aI @QUy <| aI @QQL <| aI @QS3 <| aI @QTO <| aI @QTj <| aI @QPW <| aI @QQg <| aI @QRC <| aI @QQd <| aI @QUB <| aI @QQ1 <| aI @QTu <| aI @QRr <| aI @QPI <| aI @QUX <| aI @QSt <| aI @w_p <| aI @QUw <| aI @w_x <| aI @w_n <| aI @QD0 <| aI @QOr <| aI @QOm <| aI @QxO <| aI @QF7 <| aI @QUL <| aI @QuD <| aI @QuS <| aI @s_t <| aI @s_q <| aI @s_f <| aI @QTg <| aI @QKj <| aI @QFD <| aI @QPR <| aI @QMv <| aI @QFu <| aI @Qt7 <| aI @QFd <| aI @QHd <| aI @QNs <| aI @QI7 <| aI @QOG <| aI @QG3 <| aI @QKr <| aI @QI8 <| aI @QJt <| aI @Quq <| aI @QyC <| aI @QwH <| aI @Qn5 <| aI @QjK <|
 aI @QLy <| aI @QMg <| aI @QTN <| aI @QUr <| aI @QEN <| aI @QEB <| aI @QGL <| aI @QAa <| aI @Qv9 <| aI @QzT <| aI @QwN <| aI @Qxo <| aI @QsK <| aI @QLW <| aI @QO6 <| aI @QPv <| aI @QOu <|
 aI @QKX <| aI @QNF <| aI @QJx <| aI @QMQ <| aI @QNI <| aI @QK4 <| aI @QHQ <| aI @QIK <| aI @QMK <| aI @QJz <| aI @QMU <| aI @QMn <| aI @QJA <|
 aI @QLp <| aI @QJi <| aI @QO7 <| aI @QOP <| aI @QNO <| aI @QFp <| aI @QG6 <| aI @QFV <| aI @QFo <| aI @QIz <| aI @QHe <| aI @QKI <| aI @QIR <| aI @QLe <| aI @QIg <| aI @QG9 <| aI @QFY <| aI @QFK <| aI @QF9 <| aI @QET <| aI @QFU <| aI @QGk <| aI @QEs <| aI @QIh <| aI @QGe <|
 aI @QA6 <| aI @QA5 <| aI @QCu <| aI @QM6 <| aI @QBK <| aI @QO5 <| aI @QTw <| aI @QE7 <| aI @Qri <| aI @QKJ <| aI @QN8 <|
 aI @QMM <| aI @QO8 <| aI @QHf <| aI @QGI <| aI @QLi <| aI @QEy <| aI @QGK <| aI @QG4 <| aI @QBh <| aI @QB8 <| aI @QDI <| aI @QBJ <|
 aI @QFE <| aI @QIJ <| aI @QGf <| aI @QEQ <| aI @QEK <| aI @QBg <| aI @QKe <| aI @QGX <| aI @QHy <| aI @QEU <| aI @Qzk <| aI @QwE <| aI @QBH <| aI @Qy4 <| aI @QzG <| aI @QE5 <| aI @QKl <| aI @QE6 <| aI @QEE <| aI @QLw <| aI @QEZ <|
 aI @QUt <| aI @m_c <| aI @QEo <| aI @QG0 <| aI @QF3 <| aI @QEO <| aI @QOz <| aI @QIH <| aI @QNX <| aI @QCz <| aI @QCq <| aI @QAH <|
 aI @QCS <| aI @QDt <| aI @QAf <| aI @QCy <| aI @QRm <| aI @QGP <| aI @QHp <| aI @QG8 <| aI @QEC <|
 aI @QOy <| aI @QNv <| aI @QOs <| aI @QIj <| aI @QDr <| aI @QBn <| aI @QGh <| aI @QCT <| aI @QSO <| aI @QOT <| aI @QNh <| aI @QIt <| aI @QJl <| aI @QCH <| aI @QMl <|
 aI @QDe <| aI @QyN <| aI @Qzi <| aI @QG2 <| aI @QEu <| aI @QT0 <| aI @QM0 <| aI @QNU <| aI @QKp <| aI @QNa <| aI @QH7 <| aI @QLr <| aI @QIn <| aI @QEF <| aI @QNb <| aI @QLb <| aI @QJc <| aI @QJZ <| aI @QKD <| aI @QQ5 <| aI @QQh <| aI @QQY <| aI @QSV <| aI @QSk <| aI @QTV <| aI @QPy <| aI @QRL <| aI @QPP <| aI @QTH <| aI @QTD <| aI @QPF <| aI @QPO <| aI @QT1 <| aI @QR2 <| aI @QQu <| aI @QPd <| aI @QKq <| aI @QIb <| aI @QFG <| aI @QGa <| aI @QFh <| aI @QFM <| aI @QE1 <| aI @QDE <| aI @QzO <| aI @QTW <|
 aI @QMO <| aI @QLl <| aI @QEV <| aI @Qos <| aI @Qt8 <| aI @QLx <| aI @QNl <| aI @QGC <| aI @x_b <| aI @x_i <| aI @x_s <| aI @QJV <| aI @QNW <| aI @QMI <| aI @QQR <| aI @QPr <| aI @QGB <| aI @QAs <| aI @QTx <|
 aI @QJd <| aI @QG5 <| aI @QFr <| aI @QMo <| aI @QHA <| aI @QUR <| aI @QGS <| aI @QFH <| aI @QOc <| aI @QKE <| aI @QHE <| aI @QJs <| aI @QIe <| aI @QHV <| aI @QEq <| aI @QFg <|
 aI @QEr <| aI @QBV <| aI @QAg <| aI @QAk <| aI @QBU <| aI @QEw <| aI @QOI <| aI @QJg <| aI @QLT <| aI @QNQ <| aI @QDD <| aI @QxW <| aI @QHz <| aI @QE9 <| aI @QHr <| aI @QF0 <| aI @QGt <|
 aI @l_0 <| aI @l_s <| aI @QT5 <| aI @QPp <| aI @QOi <| aI @QKx <| aI @QFi <| aI @QFn <| aI @QGc <| aI @QM8 <| aI @QQZ <| aI @QP6 <| aI @QQk <| aI @QSU <| aI @QQs <| aI @QE8 <| aI @QLZ <| aI @QLD <| aI @QL2 <| aI @l_b <| aI @l_i <| aI @QUQ <| aI @l_n <| aI @QJG <| aI @QCB <| aI @QDB <| aI @QGs <| aI @QER <| aI @QQl <| aI @QUz <| aI @QTU <| aI @QTL <| aI @QGm <| aI @QEp <|
 aI @QOS <| aI @QKg <| aI @QMC <| aI @i_b <| aI @i_i <| aI @QSJ <| aI @i_n <| aI @QTT <| aI @QRH <| aI @QEa <| aI @QHH <|
 aI @QKu <| aI @QEG <| aI @QKO <| aI @QQ4 <| aI @s_b <| aI @QRK <| aI @QP2 <| aI @QUe <| aI @QT9 <| aI @QRn <| aI @QRM <| aI @QTk <| aI @QQC <| aI @QQq <| aI @QSQ <| aI @QGH <| aI @QJf <| aI @QQI <| aI @QQ7 <|
 aI @QPj <| aI @QO9 <| aI @QOk <| aI @QHM <| aI @QHX <| aI @QA0 <| aI @QFe <| aI @QH3 <| aI @QLj <| aI @QPe <|
 aI @QIl <| aI @QJL <| aI @QPG <| aI @QEh <| aI @a_1 <| aI @a_2 <| aI @a_3 <| aI @a_4 <| aI @QTe <| aI @QPN <| aI @QTh @QSI
def evT := aI @QrW <| aI @QHa <| aI @QMa <| aI @QTK <| aI @QsU <| aI @QHF <| aI @QFW <| aI @QFc <| aI @QFm <| aI @QJB <| aI @Qys <| aI @QBy <| aI @QxK <| aI @Qzc <| aI @QJ8 <| aI @QvW <| aI @QvX <| aI @Qwh <| aI @QrE <| aI @Qy6 <| aI @QsD <| aI @QAX @Qz8
def evN := aI @VC <| aI @List.contains_nil <| aI @Bool.not_false <| aI @Bool.and_true <| aI @List.length_append <| aI @List.length_cons <| aI @List.length_nil <| aI @Nat.zero_add <| aI @Vz <| @VK
end Go.Proofs.YtcdffihcfeajfaaGreat.Am
