import Derived.Test.YtncpklppoancgaaGreatEvA
namespace Go.Proofs.YtncpklppoancgaaGreat.Am
open Go
set_option linter.unusedVariables false
set_option linter.unusedSimpArgs false
section
variable {β : Type}
theorem QaM {α : Type} {p : Prop} [Decidable p] {b : Bool} (h : b = true ↔ p) (x y : α) : (if p then x else y) = cond b x y := by
 cases b with
 | true => rw [if_pos (h.1 rfl)]; rfl
 | false => rw [if_neg (fun hp => by have := h.2 hp; cases this)]; rfl
theorem QhB {m n : Nat} : Nat.blt m n = true ↔ m < n := by rw [Nat.blt_eq]
theorem Qf4 {m n : Nat} : Nat.ble m n = true ↔ m ≤ n := by rw [Nat.ble_eq]
def sel {α : Type} (b : Bool) (x y : α) (_ : Lk (x, y)) : α := cond b x y
theorem Qw4 {α : Type} (x y : α) (l) : sel true x y l = x := _root_.id rfl
theorem Qvw {α : Type} (x y : α) (l) : sel false x y l = y := _root_.id rfl
theorem QA8 (v) (k : AV → Option β) (l) : QgT v k l = k v := _root_.id rfl
theorem QvH (K) (k : KS → Option β) (l) : Vs K k l = k K := _root_.id rfl
theorem QEn (f : Fr) (d : Nat) (v : AV) (t : Nat) : up f d v t = sel (d == t) v (f t) () := by
 unfold up sel
 by_cases h : t = d
 ·simp [h]
 ·have : (d == t) = false := by simp; exact fun h' => h h'.symm
  simp [h, this]
theorem QDp (m n : Nat) : Nat.ble m n = decide (m ≤ n) := by rw [Bool.eq_iff_iff, Nat.ble_eq]; simp
theorem QHw (m n : Nat) : Nat.blt m n = decide (m < n) := by rw [Bool.eq_iff_iff, Nat.blt_eq]; simp
theorem QJC (h : Decidable True) : @decide True h = true := by simp
theorem QK1 (h : Decidable False) : @decide False h = false := by simp
theorem Qzc (m n : Nat) (f : Fr) (t : Nat) : Qq4 m n f t = sel (Nat.ble m t && Nat.blt t n) .u (f t) () := _root_.id rfl
theorem Qqx (t : Nat) : frm [] t = .u := _root_.id rfl
theorem Qow (d : Nat) (v : AV) (l : List (Nat × AV)) (t : Nat) : frm ((d, v) :: l) t = sel (d == t) v (frm l t) () := by
 show up (frm l) d v t = _; exact QEn _ _ _ _
theorem Qoc (t : Nat) : Vh [] t = .u := by simp [Vh]
theorem QlP (v : AV) (l : List AV) : Vh (v :: l) 0 = v := _root_.id rfl
theorem QmO (v : AV) (l : List AV) (t : Nat) : Vh (v :: l) (t + 1) = Vh l t := _root_.id rfl
theorem Quv (f : Fr) (t : Tmp) : ev f (.tmp t) = f t := _root_.id rfl
theorem Qop (f : Fr) (v : Value) : ev f (.const v) = cv v := _root_.id rfl
theorem QqV (f : Fr) (g : FuncId) : ev f (.func g) = .clo g [] := _root_.id rfl
theorem QqF (b : Bool) : cv (.bool b) = .b b := _root_.id rfl
theorem Qts (k : IntKind) (i : Int) : cv (.int k i) = .i k i := _root_.id rfl
theorem QtO (x : ByteArray) : cv (.string x) = .s x.data.toList := _root_.id rfl
theorem Qsr : cv (.slice none 0 0) = .nil := _root_.id rfl
theorem Qnt {α : Type} (x y : α) : cond true x y = x := _root_.id rfl
theorem Qml {α : Type} (x y : α) : cond false x y = y := _root_.id rfl
theorem XX (q : Option β) (l) : Q1 true q l = q := _root_.id rfl
def X7 {ρ δ γ : Type} (o : Option (Fl ρ δ)) (p : ρ → γ) (q : δ → γ) : Option γ := o.map (evO p q)
theorem Qlq {ρ δ γ : Type} (o : Option (Fl ρ δ)) (p : ρ → γ) (q : δ → γ) (k : γ → Option β) (l) : Xg (X7 o p q) k l = o.bind (evO (fun r => k (p r)) (fun r => k (q r))) := by
 cases o with
 | none => rfl
 | some o => cases o <;> rfl
theorem QfA {α : Type} (x : α) (k : α → Option β) (l) : Xg (some x) k l = k x := _root_.id rfl
theorem QkM {α : Type} (k : α → Option β) (l) : Xg (none : Option α) k l = none := _root_.id rfl
theorem Qlu {α : Type} (b : Bool) (q : Option α) (k : α → Option β) (l) (l') : Xg (Q1 b q l') k l = Q1 b (Xg q k l) () := by cases b <;> rfl
theorem Qmw {α γ : Type} (o : Option γ) (e : γ → α) (k : α → Option β) (l) : Xg (o.map e) k l = o.bind (fun r => k (e r)) := by cases o <;> rfl
theorem QiG {α : Type} (i) : lk ([] : List (Nat × α)) i = none := _root_.id rfl
theorem Qj1 {α : Type} (i) (x : α) (l j) : lk ((i, x) :: l) j = sel (i == j) (some x) (lk l j) () := _root_.id rfl
end
section
variable {β : Type} {P : Program} {D : Orc} {a : Ann} {f : Fr} {K : KS} {Q : KT β} {k : AV → KS → Option β}
theorem Qyx (l) : Vf P D a .skip Q f K l = Q .normal f K := _root_.id rfl
theorem QIc (l) : Vf P D a .ret Q f K l = Q .ret f K := _root_.id rfl
theorem QAm (id l) : Vf P D a (.exit id) Q f K l = Q (.exit id) f K := _root_.id rfl
theorem QGq (x y l) : Vf P D a (.seq x y) Q f K l = Vf P D a x (Qma (fun f K => Vf P D a y Q f K ()) Q) f K () := _root_.id rfl
def QFs (v : AV) (x y : Option β) (_ : Lk (x, y)) : Option β := match v with | .b b => cond b x y | _ => none
theorem Qzr (c x y l) : Vf P D a (.cond c x y) Q f K l = QFs (ev f c) (Vf P D a x Q f K ()) (Vf P D a y Q f K ()) () := _root_.id rfl
theorem QFb (b) (x y : Option β) (l) : QFs (.b b) x y l = cond b x y := _root_.id rfl
theorem QvU (id c l) : Vf P D a (.block id c) Q f K l = Vf P D a c (QqA id Q) f K () := _root_.id rfl
theorem QsQ (id ol l) : Vf P D a (.region id (List.toArray ol) false) Q f K l = ofz (lk a.fz id) (lk a.fc id) f K (fun f K => QfF P D a id (lk a.av id) (List.toArray ol) Q f K ()) () := _root_.id rfl
theorem Qxa {α : Type} (x : α) (xs ys : List α) : List.append (x :: xs) ys = x :: List.append xs ys := _root_.id rfl
theorem QAN {α : Type} (ys : List α) : List.append [] ys = ys := _root_.id rfl
theorem QKp (f : Fr) (K : KS) (k : Fr → KS → Option β) (l) : ofz none none f K k l = k f K := _root_.id rfl
theorem QMT (f : Fr) (K : KS) (ss) (k : Fr → KS → Option β) (l) : ofz (some ss) none f K k l = Qkt ss f K k () := _root_.id rfl
theorem QKs (f : Fr) (K : KS) (cs) (k : Fr → KS → Option β) (l) : ofz none (some cs) f K k l = Qk4 cs f K k () := _root_.id rfl
theorem QLc (f : Fr) (K : KS) (k : Fr → KS → Option β) (l) : Qk4 [] f K k l = k f K := _root_.id rfl
theorem QMr (f : Fr) (K : KS) (s o ss) (k : Fr → KS → Option β) (l) : Qk4 ((s, o) :: ss) f K k l = Qvf o (f s) K (fun K => Qk4 ss f K k ()) () := _root_.id rfl
theorem QJR (o jb i q) (K : KS) (k : KS → Option β) (l) : Qvf o (.ptr jb i q) K k l = Qvy o jb (kg K jb) K k () := _root_.id rfl
theorem QNk (o jb cs) (K : KS) (k : KS → Option β) (l) : Qvy o jb (some (.box cs)) K k l = QwQ o jb cs (cs.drop o) K k () := _root_.id rfl
theorem QLf (o jb j cs ds) (K : KS) (k : KS → Option β) (l) : QwQ o jb cs (.sl j :: ds) K k l = QvR o jb j cs (kg K j) K k () := _root_.id rfl
theorem QLM (o jb j cs m rows) (K : KS) (k : KS → Option β) (l) : QvR o jb j cs (some (.lst m rows)) K k l = k ((K.set j none).set jb (some (.box (cs.set o (.imm m (Qf rows)))))) := _root_.id rfl
theorem QJD (f : Fr) (K : KS) (k : Fr → KS → Option β) (l) : Qkt [] f K k l = k f K := _root_.id rfl
theorem QLO (f : Fr) (K : KS) (s ss) (k : Fr → KS → Option β) (l) : Qkt (s :: ss) f K k l = Qwx s (f s) f K (fun f K => Qkt ss f K k ()) () := _root_.id rfl
theorem QKT (f : Fr) (K : KS) (s j) (k : Fr → KS → Option β) (l) : Qwx s (.sl j) f K k l = QvS s j (kg K j) f K k () := _root_.id rfl
theorem QLu (f : Fr) (K : KS) (s j m rows) (k : Fr → KS → Option β) (l) : QvS s j (some (.lst m rows)) f K k l = k (up f s (.imm m (Qf rows))) (K.set j none) := _root_.id rfl
theorem QF8 (id ol l) : QfF P D a id none (List.toArray ol) Q f K l = QlB P D a id (lk a.an id) (List.toArray ol) ol Q f K () := _root_.id rfl
theorem QD2 (id vs ol l) : QfF P D a id (some vs) (List.toArray ol) Q f K l = JF vs P D (List.toArray ol) ol f K (fun f K => Q .normal f K) () := _root_.id rfl
theorem Qy5 (vs ops) (k : Fr → KS → Option β) (l) : JF vs P D ops [] f K k l = k f K := _root_.id rfl
theorem QuD (vs ops d o t p af r) (k : Fr → KS → Option β) (l) : JF vs P D ops (⟨some d, o, t, p, af, none⟩ :: r) f K k l = Qhs vs P D o f K (fun v K' => QgT v (fun v => JF vs P D ops r (up f d v) K' k ()) ()) () := _root_.id rfl
theorem Qto (vs ops o t p af r) (k : Fr → KS → Option β) (l) : JF vs P D ops (⟨none, o, t, p, af, none⟩ :: r) f K k l = Qhs vs P D o f K (fun v K' => JF vs P D ops r f K' k ()) () := _root_.id rfl
theorem QKe (vs ops r) (k : Fr → KS → Option β) (d op t pos after j want l) : JF vs P D ops (⟨some d, op, t, pos, after, some (j, want)⟩ :: r) f K k l =
  ogd ((ops[j]?).bind (·.dst)) want f (fun f => Qhs vs P D op f K (fun v K' => QgT v (fun v => JF vs P D ops r (up f d v) K' k ()) ()) ()) (fun f => QgT (.tup []) (fun v => JF vs P D ops r (up f d v) K k ()) ()) () := _root_.id rfl
theorem QES (vs ops r) (k : Fr → KS → Option β) (op t pos after j want l) : JF vs P D ops (⟨none, op, t, pos, after, some (j, want)⟩ :: r) f K k l =
  ogd ((ops[j]?).bind (·.dst)) want f (fun f => Qhs vs P D op f K (fun v K' => JF vs P D ops r f K' k ()) ()) (fun f => JF vs P D ops r f K k ()) () := _root_.id rfl
def QbK : Op → Bool
 | .call ⟨.value (.func _), _, _⟩ => true
 | _ => false
theorem QJr (vs o l) (k : AV → KS → Option β) (h : QbK o = false) : Qhs vs P D o f K k l = oop P D o f K k () := by
 unfold QbK at h
 unfold Qhs
 split
 ·cases h
 ·rfl
theorem QDv (vs g args ts l) (k : AV → KS → Option β) : Qhs vs P D (.call ⟨.value (.func g), args, ts⟩) f K k l = cond (vs.contains g) (QaE P D (.call ⟨.value (.func g), args, ts⟩) f K k ()) (oop P D (.call ⟨.value (.func g), args, ts⟩) f K k ()) := _root_.id rfl
theorem QvP (x args ts) : QbK (.call ⟨.value (.tmp x), args, ts⟩) = false := _root_.id rfl
theorem QCE (b args ts) : QbK (.call ⟨.builtin b, args, ts⟩) = false := _root_.id rfl
theorem QvJ (x) : QbK (.move x) = false := _root_.id rfl
theorem QBk (x) : QbK (.assign x) = false := _root_.id rfl
theorem Qva (t x) : QbK (.load t x) = false := _root_.id rfl
theorem Qt6 (t x y) : QbK (.store t x y) = false := _root_.id rfl
theorem QHV (t x i) : QbK (.fieldAddr t x i) = false := _root_.id rfl
theorem QGY (t x i) : QbK (.indexAddr t x i) = false := _root_.id rfl
theorem Qz0 (x i) : QbK (.extract x i) = false := _root_.id rfl
theorem QyQ (t x i) : QbK (.field t x i) = false := _root_.id rfl
theorem QB0 (o t x y u) : QbK (.binOp o t x y u) = false := _root_.id rfl
theorem QG0 (o t x) : QbK (.unOp o t x) = false := _root_.id rfl
theorem QAy (x) : QbK (.nilCheck x) = false := _root_.id rfl
theorem QuH (c x y) : QbK (.pick c x y) = false := _root_.id rfl
theorem Qs6 (t ps) : QbK (.build t ps) = false := _root_.id rfl
theorem QIk (t n ps) : QbK (.buildSlice t n ps) = false := _root_.id rfl
theorem Qr5 (t) : QbK (.alloc t) = false := _root_.id rfl
theorem QAY (t x) : QbK (.box t x) = false := _root_.id rfl
theorem Qzw (t x lo hi m) : QbK (.slice t x lo hi m) = false := _root_.id rfl
theorem QA7 (t x i) : QbK (.index t x i) = false := _root_.id rfl
theorem QEx (s t x) : QbK (.convert s t x) = false := _root_.id rfl
theorem Qpt (id ops ol l) : QlB P D a id none ops ol Q f K l = QmG P D a id (lk a.ac id) ops ol Q f K () := _root_.id rfl
theorem Qo0 (id us ops ol l) : QlB P D a id (some us) ops ol Q f K l = QeH P D ops us ol f K (fun f K => Q .normal f K) () := _root_.id rfl
theorem Qqa (id ops ol l) : QmG P D a id none ops ol Q f K l = Qig P D a id ops ol Q f K () := _root_.id rfl
theorem Qqf (id x ops ol l) : QmG P D a id (some x) ops ol Q f K l = Qdb P D ops ol f K (fun f K => Q .normal f K) () := _root_.id rfl
theorem QAn (ops) (k : Fr → KS → Option β) (l) : Qdb P D ops [] f K k l = k f K := _root_.id rfl
theorem Qv9 (ops d o t p af r) (k : Fr → KS → Option β) (l) : Qdb P D ops (⟨some d, o, t, p, af, none⟩ :: r) f K k l = QaE P D o f K (fun v K' => QgT v (fun v => Qdb P D ops r (up f d v) K' k ()) ()) () := _root_.id rfl
theorem QtZ (ops o t p af r) (k : Fr → KS → Option β) (l) : Qdb P D ops (⟨none, o, t, p, af, none⟩ :: r) f K k l = QaE P D o f K (fun v K' => Qdb P D ops r f K' k ()) () := _root_.id rfl
theorem Qve (x l) : QaE P D (.move x) f K k l = oop P D (.move x) f K k () := _root_.id rfl
theorem Qrf (x l) : QaE P D (.assign x) f K k l = oop P D (.assign x) f K k () := _root_.id rfl
theorem Qw2 (t x l) : QaE P D (.load t x) f K k l = oop P D (.load t x) f K k () := _root_.id rfl
theorem QtL (t x y l) : QaE P D (.store t x y) f K k l = oop P D (.store t x y) f K k () := _root_.id rfl
theorem QHY (t x i l) : QaE P D (.fieldAddr t x i) f K k l = oop P D (.fieldAddr t x i) f K k () := _root_.id rfl
theorem QHz (t x i l) : QaE P D (.indexAddr t x i) f K k l = oop P D (.indexAddr t x i) f K k () := _root_.id rfl
theorem QyH (t x i l) : QaE P D (.field t x i) f K k l = oop P D (.field t x i) f K k () := _root_.id rfl
theorem QyN (x i l) : QaE P D (.extract x i) f K k l = oop P D (.extract x i) f K k () := _root_.id rfl
theorem QzE (o t x y u l) : QaE P D (.binOp o t x y u) f K k l = oop P D (.binOp o t x y u) f K k () := _root_.id rfl
theorem QrF (t ps l) : QaE P D (.build t ps) f K k l = oop P D (.build t ps) f K k () := _root_.id rfl
theorem QCU (o t x l) : QaE P D (.unOp o t x) f K k l = oop P D (.unOp o t x) f K k () := _root_.id rfl
theorem Qz1 (x l) : QaE P D (.nilCheck x) f K k l = oop P D (.nilCheck x) f K k () := _root_.id rfl
theorem QuW (c x y l) : QaE P D (.pick c x y) f K k l = oop P D (.pick c x y) f K k () := _root_.id rfl
theorem Qt2 (t l) : QaE P D (.alloc t) f K k l = oop P D (.alloc t) f K k () := _root_.id rfl
theorem Qzv (t x lo hi m l) : QaE P D (.slice t x lo hi m) f K k l = oop P D (.slice t x lo hi m) f K k () := _root_.id rfl
theorem Qzk (t x i l) : QaE P D (.index t x i) f K k l = oop P D (.index t x i) f K k () := _root_.id rfl
theorem QIv (b xs ts l) : QaE P D (.call ⟨.builtin b, xs, ts⟩) f K k l = oop P D (.call ⟨.builtin b, xs, ts⟩) f K k () := _root_.id rfl
theorem QFV (s t x l) : QaE P D (.convert s t x) f K k l = oop P D (.convert s t x) f K k () := _root_.id rfl
theorem QAc (t x l) : QaE P D (.box t x) f K k l = oop P D (.box t x) f K k () := _root_.id rfl
def QqL (b c d e : Bool) (D : Orc) (g : FuncId) (K : KS) (vs : List AV) (k : AV → KS → Option β) (_ : Lk (vs, k)) : Option β := cond b (Qkf K vs k ()) (cond c (Qi2 K vs k ()) (cond d (Qgy D g K vs k ()) (cond e (QeV D g K vs k ()) (Qc7 D g K vs k ()))))
theorem QwF (x xs ts l) : QaE P D (.call ⟨.value x, List.toArray xs, ts⟩) f K k l = QnP (ev f x) (fun g caps => QqL (D.s g) (D.q g) (D.w g) (D.v g) D g K (xs.map (ev f) ++ caps) k ()) () := _root_.id rfl
theorem s_t (g c d e) (K : KS) (vs) (k : AV → KS → Option β) (l) : QqL true c d e D g K vs k l = Qkf K vs k () := _root_.id rfl
theorem s_q (g d e) (K : KS) (vs) (k : AV → KS → Option β) (l) : QqL false true d e D g K vs k l = Qi2 K vs k () := _root_.id rfl
theorem s_f (g) (K : KS) (vs) (k : AV → KS → Option β) (l) : QqL false false false false D g K vs k l = Qc7 D g K vs k () := _root_.id rfl
theorem s_w (g e) (K : KS) (vs) (k : AV → KS → Option β) (l) : QqL false false true e D g K vs k l = QhD D g K (Qb6 vs) vs k () := _root_.id rfl
theorem w_j (g) (K : KS) (js vs) (k : AV → KS → Option β) (l) : QhD D g K js vs k l = Q1 (ndB js) (QhI D g K js (Qar js vs) k ()) () := _root_.id rfl
theorem w_s (g) (K : KS) (js cs) (k : AV → KS → Option β) (l) : QhI D g K js (some cs) k l = Q1 (Qfd (Xe K js)) (Xg (D.a g (Xe K js) cs) (fun r => k (ZX js K.length r.1) (Qbp K js r.2)) ()) () := _root_.id rfl
theorem s_v (g) (K : KS) (vs) (k : AV → KS → Option β) (l) : QqL false false false true D g K vs k l = QhO D g K (Qb6 vs) vs k () := _root_.id rfl
theorem v_j (g) (K : KS) (js vs) (k : AV → KS → Option β) (l) : QhO D g K js vs k l = Q1 (ndB js) (Qhz D g K js (Qar js vs) k ()) () := _root_.id rfl
theorem v_s (g) (K : KS) (js cs) (k : AV → KS → Option β) (l) : Qhz D g K js (some cs) k l = Q1 (QoF (Xe K js)) (Xg (D.m g (Xe K js) cs) (fun x => k (Vc K.length x).1 (XP K js (Zi js) ++ (Vc K.length x).2)) ()) () := _root_.id rfl
theorem QEv : Zi [] = [] := _root_.id rfl
theorem QDs (j js) : Zi (j :: js) = none :: Zi js := _root_.id rfl
theorem p_0 (vs) : QjB [] vs = vs := by cases vs <;> rfl
theorem p_e (ss) : QjB ss [] = [] := by cases ss <;> rfl
theorem p_s (s ss v vs) : QjB (s :: ss) (v :: vs) = Qoi s v :: QjB ss vs := _root_.id rfl
theorem p_n (v) : Qoi .n v = v := by cases v <;> rfl
theorem p_z (k v) : Qoi (.z k) v = nic k v := by cases v <;> rfl
theorem p_a (ns cs) : Qoi (.a ns) (.agg cs) = .agg (ni ns cs) := _root_.id rfl
theorem QNp (cs) : ni [] cs = cs := by cases cs <;> rfl
theorem QJY (n ns c cs) : ni (n :: ns) (c :: cs) = nic n c :: ni ns cs := _root_.id rfl
theorem QLV (n) : nic (n + 1) .nil = .imm (n + 1) [] := _root_.id rfl
theorem QLJ : nic 0 .nil = .nil := _root_.id rfl
theorem QKN (n c x) : nic n (.i c x) = .i c x := _root_.id rfl
theorem QJ4 (n x) : nic n (.b x) = .b x := _root_.id rfl
theorem QJ5 (n x) : nic n (.s x) = .s x := _root_.id rfl
theorem QKA (n m r) : nic n (.imm m r) = .imm m r := _root_.id rfl
theorem QLR : Qb6 [] = [] := _root_.id rfl
theorem QK5 (c cs) : Qb6 (c :: cs) = Qij c ++ Qb6 cs := _root_.id rfl
theorem QHj (j) : Qij (.sl j) = [j] := _root_.id rfl
theorem QE5 (j a b) : Qij (.ptr j a b) = [j] := _root_.id rfl
theorem QIm (js j a b) : Qas js (.ptr j a b) = (ZR js j).map fun i => .ptr i a b := _root_.id rfl
theorem QJT (K js es) : Qbp K js es = XP K js es ++ QeE js es := _root_.id rfl
theorem QJS (es) : QeE [] es = es := _root_.id rfl
theorem QKw (j js e es) : QeE (j :: js) (e :: es) = QeE js es := _root_.id rfl
theorem QMq (k i) : rix [] k i = k + i := _root_.id rfl
theorem QKm (j js k) : rix (j :: js) k 0 = j := _root_.id rfl
theorem QJZ (j js k) : rix (j :: js) k 1 = rix js k 0 := _root_.id rfl
theorem QMW (j js k) : rix (j :: js) k 2 = rix js k 1 := _root_.id rfl
theorem QK7 (j js k) : rix (j :: js) k 3 = rix js k 2 := _root_.id rfl
theorem QIX (j js k) : rix (j :: js) k 4 = rix js k 3 := _root_.id rfl
theorem QKG (j js k) : rix (j :: js) k 5 = rix js k 4 := _root_.id rfl
theorem QM4 (j js k) : rix (j :: js) k 6 = rix js k 5 := _root_.id rfl
theorem QNa (j js k) : rix (j :: js) k 7 = rix js k 6 := _root_.id rfl
theorem QJ3 (j js k) : rix (j :: js) k 8 = rix js k 7 := _root_.id rfl
theorem QL2 (j js k) : rix (j :: js) k 9 = rix js k 8 := _root_.id rfl
theorem QKW (j js k) : rix (j :: js) k 10 = rix js k 9 := _root_.id rfl
theorem QKH (j js k) : rix (j :: js) k 11 = rix js k 10 := _root_.id rfl
theorem QKR (j js k) : rix (j :: js) k 12 = rix js k 11 := _root_.id rfl
theorem QKK (j js k) : rix (j :: js) k 13 = rix js k 12 := _root_.id rfl
theorem QLL (j js k) : rix (j :: js) k 14 = rix js k 13 := _root_.id rfl
theorem QLz (j js k) : rix (j :: js) k 15 = rix js k 14 := _root_.id rfl
theorem QJf (j js k) : rix (j :: js) k 16 = rix js k 15 := _root_.id rfl
theorem QLk (js k c n) : ZX js k (.i c n) = .i c n := by simp [ZX]
theorem QJa (js k x) : ZX js k (.b x) = .b x := by simp [ZX]
theorem QJ1 (js k x) : ZX js k (.s x) = .s x := by simp [ZX]
theorem QKx (js k) : ZX js k .nil = .nil := by simp [ZX]
theorem QNf (js k n r) : ZX js k (.imm n r) = .imm n r := by simp [ZX]
theorem QEY (js k i) : ZX js k (.sl i) = .sl (rix js k i) := by simp [ZX]
theorem QCT (js k i a b) : ZX js k (.ptr i a b) = .ptr (rix js k i) a b := by simp [ZX]
theorem QDm (js k cs) : ZX js k (.agg cs) = .agg (Qco js k cs) := by simp [ZX]
theorem QFC (js k cs) : ZX js k (.tup cs) = .tup (Qco js k cs) := by simp [ZX]
theorem QLj (js k) : Qco js k [] = [] := by simp [Qco]
theorem QJd (js k c cs) : Qco js k (c :: cs) = ZX js k c :: Qco js k cs := by simp [Qco]
theorem QMN (m c n) : rok m (.i c n) = true := _root_.id rfl
theorem QLH (m x) : rok m (.b x) = true := _root_.id rfl
theorem QJb (m x) : rok m (.s x) = true := _root_.id rfl
theorem QJe (m) : rok m .nil = true := _root_.id rfl
theorem QNr (m n r) : rok m (.imm n r) = true := _root_.id rfl
theorem QCP (m i) : rok m (.sl i) = Nat.ble (i + 1) m := _root_.id rfl
theorem QD5 (m i a b) : rok m (.ptr i a b) = Nat.ble (i + 1) m := _root_.id rfl
theorem QGA (m cs) : rok m (.agg cs) = Qju m cs := _root_.id rfl
theorem QGL (m cs) : rok m (.tup cs) = Qju m cs := _root_.id rfl
theorem QJB (m) : Qju m [] = true := _root_.id rfl
theorem QLm (m c cs) : Qju m (c :: cs) = (rok m c && Qju m cs) := _root_.id rfl
theorem QKB (c n) : clc (.i c n) = true := _root_.id rfl
theorem QMk (x) : clc (.b x) = true := _root_.id rfl
theorem QDi (x) : clc (.s x) = true := _root_.id rfl
theorem QL7 : clc .nil = true := _root_.id rfl
theorem QJx (n r) : clc (.imm n r) = true := _root_.id rfl
theorem QGQ : Qkp [] = true := _root_.id rfl
theorem QFp (c cs) : Qkp (c :: cs) = (clc c && Qkp cs) := _root_.id rfl
theorem QMG : Qfd [] = true := _root_.id rfl
theorem QJl (n r K) : Qfd (some (.lst n r) :: K) = Qfd K := _root_.id rfl
theorem QFn (cs K) : Qfd (some (.box cs) :: K) = (Qkp cs && Qfd K) := _root_.id rfl
theorem QyO (cs) : Qij (.agg cs) = Qb6 cs := _root_.id rfl
theorem QJv (c n) : Qij (.i c n) = [] := _root_.id rfl
theorem QNc (x) : Qij (.b x) = [] := _root_.id rfl
theorem QHk (x) : Qij (.s x) = [] := _root_.id rfl
theorem QMJ : Qij .nil = [] := _root_.id rfl
theorem QLQ (n r) : Qij (.imm n r) = [] := _root_.id rfl
theorem QMf (g l) : Qij (.clo g l) = [] := _root_.id rfl
theorem QKD (js) : Qar js [] = some [] := _root_.id rfl
theorem QKa (js c cs) : Qar js (c :: cs) = (Qas js c).bind fun c' => (Qar js cs).map (c' :: ·) := _root_.id rfl
theorem QCW (js j) : Qas js (.sl j) = (ZR js j).map .sl := _root_.id rfl
theorem QzI (js cs) : Qas js (.agg cs) = (Qar js cs).map .agg := _root_.id rfl
theorem QJH (js c n) : Qas js (.i c n) = some (.i c n) := _root_.id rfl
theorem QMm (js x) : Qas js (.b x) = some (.b x) := _root_.id rfl
theorem QId (js x) : Qas js (.s x) = some (.s x) := _root_.id rfl
theorem QJm (js) : Qas js .nil = some .nil := _root_.id rfl
theorem QMR (js n r) : Qas js (.imm n r) = some (.imm n r) := _root_.id rfl
theorem QMh (js g) : Qas js (.clo g []) = some (.clo g []) := _root_.id rfl
theorem QgC (x y : Nat) : Nat.beq x y = (x == y) := by rw [Bool.eq_iff_iff]; simp
theorem QJX (x l j) : ZR (x :: l) j = sel (x == j) (some 0) ((ZR l j).map (· + 1)) () := by rw [← QgC]; rfl
theorem QKI (K) : Xe K [] = [] := _root_.id rfl
theorem QL0 (K j js) : Xe K (j :: js) = kg K j :: Xe K js := _root_.id rfl
theorem QM1 (K es) : XP K [] es = K := by cases es <;> rfl
theorem QNd (K j js e es) : XP K (j :: js) (e :: es) = XP (K.set j e) js es := _root_.id rfl
theorem QMP : QoF [] = true := _root_.id rfl
theorem QMg (n r K) : QoF (some (.lst n r) :: K) = QoF K := _root_.id rfl
theorem QKl (c n) : AV.scal (.i c n) = true := _root_.id rfl
theorem QMu (x) : AV.scal (.b x) = true := _root_.id rfl
theorem QK4 (x) : AV.scal (.s x) = true := _root_.id rfl
theorem QJA (c n) : AV.flat (.i c n) = true := _root_.id rfl
theorem QMn (x) : AV.flat (.b x) = true := _root_.id rfl
theorem QJ9 (x) : AV.flat (.s x) = true := _root_.id rfl
theorem QJQ : AV.flat (.tup []) = true := _root_.id rfl
theorem QKE : Quw .one = true := _root_.id rfl
theorem w_p (x g j i o) (k : AV → KS → Option β) (l) : onp D f K (.ptr j i o) x g k l = onj D f K x g j i o (kg K j) k () := _root_.id rfl
theorem QKc (x g j i o q r) (k : AV → KS → Option β) (l) : onj D f K x g j i o (some (.lst q r)) k l = onx D f K x g j i o q r ((Qx r i).drop o) k () := _root_.id rfl
theorem w_x (x g j i o q r m rs cs) (k : AV → KS → Option β) (l) : onx D f K x g j i o q r (.own m rs :: cs) k l = Q1 x.scal (Xg (D.a g [some (.lst m rs)] [.sl 0, x]) (fun s => onr D f K j i o q r s k ()) ()) () := _root_.id rfl
theorem QML (u us ops d o t p af r) (k : Fr → KS → Option β) (l) : QeH P D ops (u :: us) (⟨some d, o, t, p, af, none⟩ :: r) f K k l = oop P D o f K (fun v K' => QgT v (fun v => QeH P D ops us r (up f d v) K' k ()) ()) () := _root_.id rfl
def Qxx (d : Option Tmp) (v : AV) (f : Fr) (k : Fr → Option β) (_ : Lk (f, k)) : Option β := match d with
 | some d => QgT v (fun v => k (up f d v)) ()
 | none => k f
theorem QxT (d v f) (k : Fr → Option β) (l) : Qxx (some d) v f k l = QgT v (fun v => k (up f d v)) () := _root_.id rfl
theorem QJ0 (ops d t p y1 p1 a1 e x y2 p2 a2 dst g d' e' ts y3 p3 a3 r) (k : Fr → KS → Option β) (l) : QeH P D ops [] (⟨some d, .load t p, y1, p1, a1, none⟩ :: ⟨some e, .move x, y2, p2, a2, none⟩ :: ⟨dst, .call ⟨.value (.func g), List.toArray [.tmp d', .tmp e'], ts⟩, y3, p3, a3, none⟩ :: r) f K k l =
  Q1 (Quw (tk P t) && ((d == d') && ((e == e') && !(d == e)))) (onp D f K (ev f p) (ev (up f d (.sl K.length)) x) g (fun v K' => Qxx dst v (up (up f d (.sl K.length)) e (ev (up f d (.sl K.length)) x)) (fun f => Qdb P D ops r f K' k ()) ()) ()) () := by rw [← QgC, ← QgC, ← QgC]; cases dst <;> rfl
theorem QGx (a b l) : oop P D (.makeInterface a b) f K k l = none := _root_.id rfl
theorem QH0 (a l) : oop P D (.panic a) f K k l = none := _root_.id rfl
theorem Qj8 (t len ps l) : QaE P D (.buildSlice t len ps) f K k l = oop P D (.buildSlice t len ps) f K k () := _root_.id rfl
def QoM (o : Option (List Int)) (K : KS) (j : Nat) (k : AV → KS → Option β) (_ : Lk k) : Option β := match o with
 | some xs => Q1 (decide (xs.length < 4611686018427387904)) (Vs (K.set j none ++ [some (.lst 1 ((XJ xs).map cI))]) (fun K' => k (.sl K.length) K') ()) ()
 | none => none
def QsV (e : Option Ent) (K : KS) (j : Nat) (k : AV → KS → Option β) (_ : Lk k) : Option β := match e with
 | some (.lst 1 rows) => QoM (QaF rows) K j k ()
 | _ => none
theorem QKg (K : KS) (j) (k : AV → KS → Option β) (l) : Qi2 K [.sl j] k l = QsV (kg K j) K j k () := _root_.id rfl
theorem QEl (r) (K : KS) (j) (k : AV → KS → Option β) (l) : QsV (some (.lst 1 r)) K j k l = QoM (QaF r) K j k () := _root_.id rfl
theorem QBi (xs) (K : KS) (j) (k : AV → KS → Option β) (l) : QoM (some xs) K j k l = Q1 (decide (xs.length < 4611686018427387904)) (Vs (K.set j none ++ [some (.lst 1 ((XJ xs).map cI))]) (fun K' => k (.sl K.length) K') ()) () := _root_.id rfl
def QoQ (o : Option (List Int)) (K : KS) (j : Nat) (k : AV → KS → Option β) (_ : Lk k) : Option β := match o with
 | some xs => Q1 (decide (xs.length < 4611686018427387904)) (Vs (K.set j (some (.lst 1 ((Z3 xs).map cI)))) (fun K => k (.tup []) K) ()) ()
 | none => none
def QsX (e : Option Ent) (K : KS) (j : Nat) (k : AV → KS → Option β) (_ : Lk k) : Option β := match e with
 | some (.lst 1 rows) => QoQ (QaF rows) K j k ()
 | _ => none
theorem QJn (K : KS) (j) (k : AV → KS → Option β) (l) : Qkf K [.sl j] k l = QsX (kg K j) K j k () := _root_.id rfl
theorem QEZ (r) (K : KS) (j) (k : AV → KS → Option β) (l) : QsX (some (.lst 1 r)) K j k l = QoQ (QaF r) K j k () := _root_.id rfl
theorem QBT (xs) (K : KS) (j) (k : AV → KS → Option β) (l) : QoQ (some xs) K j k l = Q1 (decide (xs.length < 4611686018427387904)) (Vs (K.set j (some (.lst 1 ((Z3 xs).map cI)))) (fun K => k (.tup []) K) ()) () := _root_.id rfl
theorem QoE : ∀ xs : List Int, QaF (xs.map fun x => [.i .i64 x]) = some xs
 | [] => rfl
 | x :: xs => by rw [List.map_cons, QaF, QoE xs]; rfl
noncomputable def Quo (P : Program) (D : Orc) (a : Ann) (id : Nat) (ops : Array Oper) (o : Option (List Nat)) (Q : KT β) (f : Fr) (K : KS) (_ : Lk (ops, Q, f)) : Option β := Qig P D a id ops (Qlz ops o) Q f K ()
theorem Qvu (id ol l) : Vf P D a (.region id (List.toArray ol) true) Q f K l = ofz (lk a.fz id) (lk a.fc id) f K (fun f K => Qfk P D a id (lk a.av id) (List.toArray ol) Q f K ()) () := _root_.id rfl
theorem QF9 (id ol l) : Qfk P D a id none (List.toArray ol) Q f K l = QmJ P D a id (lk a.eb id) (List.toArray ol) Q f K () := _root_.id rfl
theorem QCX (id vs ol l) : Qfk P D a id (some vs) (List.toArray ol) Q f K l = QlM vs P D a id (lk a.ot id) (List.toArray ol) Q f K () := _root_.id rfl
theorem QGw (id vs ol l) : QlM vs P D a id none (List.toArray ol) Q f K l = Qpm vs P D (List.toArray ol) (lk a.ord id) Q f K () := _root_.id rfl
theorem QDM (id vs t ops l) : QlM vs P D a id (some t) ops Q f K l = Z4 vs P D ops t f K (fun f K => Q .normal f K) () := _root_.id rfl
theorem QIN (vs ol l) : Qpm vs P D (List.toArray ol) none Q f K l = JF vs P D (List.toArray ol) ol f K (fun f K => Q .normal f K) () := _root_.id rfl
theorem QEa (id ops l) : QmJ P D a id none ops Q f K l = Qdt P D a id ops (lk a.ot id) Q f K () := _root_.id rfl
noncomputable def Qx2 (P : Program) (D : Orc) (a : Ann) (id : Nat) (ol : List Oper) (Q : KT β) (f : Fr) (K : KS) (_ : Lk (Q, f)) : Option β := Qdt P D a id (List.toArray ol) (lk a.ot id) Q f K ()
theorem QFq (id ds ol l) : QmJ P D a id (some ds) (List.toArray ol) Q f K l = Qx2 P D a id (ol.map (V1 ds)) Q f K () := by
 show Qdt P D a id ((List.toArray ol).map (V1 ds)) (lk a.ot id) Q f K () = Qdt P D a id (List.toArray (ol.map (V1 ds))) (lk a.ot id) Q f K ()
 rw [List.map_toArray]
theorem c_M (id o r l) : Qx2 P D a id (o :: r) Q f K l = Qdt P D a id (List.toArray (o :: r)) (lk a.ot id) Q f K () := _root_.id rfl
theorem QIP (ds d t y p e g) : V1 ds ⟨d, .buildSlice t 0 (List.toArray []), y, p, e, g⟩ = ⟨d, .move (.const (.slice none 0 0)), y, p, e, g⟩ := _root_.id rfl
theorem QGa (ds d t m ps y p e g) : V1 ds ⟨d, .buildSlice t (m + 1) ps, y, p, e, g⟩ = ⟨d, .buildSlice t (m + 1) ps, y, p, e, g⟩ := _root_.id rfl
theorem QAr (ds d s x ts y p e g) : V1 ds ⟨d, .call ⟨.builtin .append, List.toArray [.tmp s, x], ts⟩, y, p, e, g⟩ = cond (ds.contains s) ⟨d, .call ⟨.builtin .append, List.toArray [.const (.slice none 0 0), x], ts⟩, y, p, e, g⟩ ⟨d, .call ⟨.builtin .append, List.toArray [.tmp s, x], ts⟩, y, p, e, g⟩ := _root_.id rfl
theorem QAI (ds d xs ts y p e g) : V1 ds ⟨d, .call ⟨.builtin .len, xs, ts⟩, y, p, e, g⟩ = ⟨d, .call ⟨.builtin .len, xs, ts⟩, y, p, e, g⟩ := _root_.id rfl
theorem Qww (ds d v xs ts y p e g) : V1 ds ⟨d, .call ⟨.value v, xs, ts⟩, y, p, e, g⟩ = ⟨d, .call ⟨.value v, xs, ts⟩, y, p, e, g⟩ := _root_.id rfl
theorem Qu2 (ds d x y p e g) : V1 ds ⟨d, .move x, y, p, e, g⟩ = ⟨d, .move x, y, p, e, g⟩ := _root_.id rfl
theorem QBm (ds d x y p e g) : V1 ds ⟨d, .assign x, y, p, e, g⟩ = ⟨d, .assign x, y, p, e, g⟩ := _root_.id rfl
theorem Qxg (ds d t x y p e g) : V1 ds ⟨d, .load t x, y, p, e, g⟩ = ⟨d, .load t x, y, p, e, g⟩ := _root_.id rfl
theorem QrG (ds d t x z y p e g) : V1 ds ⟨d, .store t x z, y, p, e, g⟩ = ⟨d, .store t x z, y, p, e, g⟩ := _root_.id rfl
theorem QIM (ds d t x i y p e g) : V1 ds ⟨d, .fieldAddr t x i, y, p, e, g⟩ = ⟨d, .fieldAddr t x i, y, p, e, g⟩ := _root_.id rfl
theorem QHC (ds d t x i y p e g) : V1 ds ⟨d, .indexAddr t x i, y, p, e, g⟩ = ⟨d, .indexAddr t x i, y, p, e, g⟩ := _root_.id rfl
theorem Qsu (ds d t ps y p e g) : V1 ds ⟨d, .build t ps, y, p, e, g⟩ = ⟨d, .build t ps, y, p, e, g⟩ := _root_.id rfl
theorem Qz7 (ds d o t x z u y p e g) : V1 ds ⟨d, .binOp o t x z u, y, p, e, g⟩ = ⟨d, .binOp o t x z u, y, p, e, g⟩ := _root_.id rfl
theorem QzW (ds d x y p e g) : V1 ds ⟨d, .nilCheck x, y, p, e, g⟩ = ⟨d, .nilCheck x, y, p, e, g⟩ := _root_.id rfl
theorem QDZ (ds d o t x y p e g) : V1 ds ⟨d, .unOp o t x, y, p, e, g⟩ = ⟨d, .unOp o t x, y, p, e, g⟩ := _root_.id rfl
theorem QBh (ds d t x i y p e g) : V1 ds ⟨d, .field t x i, y, p, e, g⟩ = ⟨d, .field t x i, y, p, e, g⟩ := _root_.id rfl
theorem QzV (ds d x i y p e g) : V1 ds ⟨d, .extract x i, y, p, e, g⟩ = ⟨d, .extract x i, y, p, e, g⟩ := _root_.id rfl
theorem QAp (ds d t x y p e g) : V1 ds ⟨d, .box t x, y, p, e, g⟩ = ⟨d, .box t x, y, p, e, g⟩ := _root_.id rfl
theorem QsE (ds d t y p e g) : V1 ds ⟨d, .alloc t, y, p, e, g⟩ = ⟨d, .alloc t, y, p, e, g⟩ := _root_.id rfl
theorem QrK (ds d t x lo hi mx y p e g) : V1 ds ⟨d, .slice t x lo hi mx, y, p, e, g⟩ = ⟨d, .slice t x lo hi mx, y, p, e, g⟩ := _root_.id rfl
theorem QtD (id ol l) : Qdt P D a id (List.toArray ol) none Q f K l = Quo P D a id (List.toArray ol) (lk a.ord id) Q f K () := _root_.id rfl
theorem Qst (id ops t l) : Qdt P D a id ops (some t) Q f K l = Qbt P D ops t f K (fun f K => Q .normal f K) () := _root_.id rfl
noncomputable def QoS (P : Program) (D : Orc) (ops : Array Oper) (o : Option Oper) (t : OT) (f : Fr) (K : KS) (k : Fr → KS → Option β) (_ : Lk (ops, f, k)) : Option β := match o with
 | some o => QaV P D ops [o] f K (fun f K => Qbt P D ops t f K k ()) ()
 | none => none
theorem Qs3 (ops) (k : Fr → KS → Option β) (l) : Qbt P D ops .done f K k l = k f K := _root_.id rfl
theorem QCK (ol i t) (k : Fr → KS → Option β) (l) : Qbt P D (List.toArray ol) (.one i t) f K k l = QoS P D (List.toArray ol) (ol[i]?) t f K k () := by
 have : (List.toArray ol)[i]? = ol[i]? := by simp
 unfold Qbt QoS
 rw [this]
 cases ol[i]? <;> rfl
theorem Qsq (ops o t) (k : Fr → KS → Option β) (l) : QoS P D ops (some o) t f K k l = QaV P D ops [o] f K (fun f K => Qbt P D ops t f K k ()) () := _root_.id rfl
theorem QsK (vs ops) (k : Fr → KS → Option β) (l) : Z4 vs P D ops .done f K k l = k f K := _root_.id rfl
noncomputable def Qku (vs : List Nat) (P : Program) (D : Orc) (ops : Array Oper) (o : Option Oper) (t : OT) (f : Fr) (K : KS) (k : Fr → KS → Option β) (_ : Lk (ops, f, k)) : Option β := match o with
 | some o => JF vs P D ops [o] f K (fun f K => Z4 vs P D ops t f K k ()) ()
 | none => none
theorem Qxm (vs ol i t) (k : Fr → KS → Option β) (l) : Z4 vs P D (List.toArray ol) (.one i t) f K k l = Qku vs P D (List.toArray ol) (ol[i]?) t f K k () := by
 have : (List.toArray ol)[i]? = ol[i]? := by simp
 unfold Z4 Qku
 rw [this]
 cases ol[i]? <;> rfl
theorem Qsw (vs ops o t) (k : Fr → KS → Option β) (l) : Qku vs P D ops (some o) t f K k l = JF vs P D ops [o] f K (fun f K => Z4 vs P D ops t f K k ()) () := _root_.id rfl
theorem Qye (vs ops a b) (k : Fr → KS → Option β) (l) : Z4 vs P D ops (.alt a b) f K k l = oeq (Z4 vs P D ops a f K k ()) (Z4 vs P D ops b f K k ()) := _root_.id rfl
theorem QCo (ops a b) (k : Fr → KS → Option β) (l) : Qbt P D ops (.alt a b) f K k l = oeq (Qbt P D ops a f K k ()) (Qbt P D ops b f K k ()) := _root_.id rfl
theorem Zf (x : Option β) : oeq x x = x := by simp [oeq]
theorem JM (p q : Bool) (x : Option β) (l l' : Unit) : Q1 p (Q1 q x l) l' = Q1 q (Q1 p x l) l' := by cases p <;> cases q <;> rfl
theorem QBy (id ol l) : Quo P D a id (List.toArray ol) none Q f K l = Qig P D a id (List.toArray ol) ol Q f K () := _root_.id rfl
def pk : List Oper → List Nat → List Oper
 | _, [] => []
 | ol, i :: is => match ol[i]? with | some o => o :: pk ol is | none => pk ol is
noncomputable def Qyg (P : Program) (D : Orc) (a : Ann) (id : Nat) (ops : Array Oper) (l : List Oper) (Q : KT β) (f : Fr) (K : KS) (_ : Lk (ops, Q, f)) : Option β := Qig P D a id ops l Q f K ()
theorem QjS (ol is) : Qlz (List.toArray ol) (some is) = pk ol is := by
 show is.filterMap (fun i => (List.toArray ol)[i]?) = _
 induction is with
 | nil => rfl
 | cons i is ih =>
  rw [pk, List.filterMap_cons]
  have : (List.toArray ol)[i]? = ol[i]? := by simp
  rw [this]
  cases ol[i]? with
  | none => simpa using ih
  | some o => rw [← ih]
theorem QBK (id ol is l) : Quo P D a id (List.toArray ol) (some is) Q f K l = Qyg P D a id (List.toArray ol) (pk ol is) Q f K () := by
 show Qig P D a id _ (Qlz _ _) Q f K () = _
 rw [QjS]; rfl
noncomputable def Qxw (vs : List Nat) (P : Program) (D : Orc) (ops : Array Oper) (l : List Oper) (Q : KT β) (f : Fr) (K : KS) (_ : Lk (ops, Q, f)) : Option β := JF vs P D ops l f K (fun f K => Q .normal f K) ()
theorem QKj (vs ol is l) : Qpm vs P D (List.toArray ol) (some is) Q f K l = Qxw vs P D (List.toArray ol) (pk ol is) Q f K () := by
 show JF vs P D _ (Qlz _ _) f K _ () = _
 rw [QjS]; rfl
theorem c_K (vs ops o r l) : Qxw vs P D ops (o :: r) Q f K l = JF vs P D ops (o :: r) f K (fun f K => Q .normal f K) () := _root_.id rfl
theorem QDH (ol) : pk ol [] = [] := _root_.id rfl
def pkO (o : Option Oper) (l : List Oper) : List Oper := match o with | some o => o :: l | none => l
theorem QB4 (ol i is) : pk ol (i :: is) = pkO (ol[i]?) (pk ol is) := by rw [pk]; cases ol[i]? <;> rfl
theorem QC4 (o l) : pkO (some o) l = o :: l := _root_.id rfl
theorem QBb (id ops o r l) : Qyg P D a id ops (o :: r) Q f K l = Qig P D a id ops (o :: r) Q f K () := _root_.id rfl
theorem QGr {α : Type} (x : α) (l : List α) : (x :: l)[0]? = some x := _root_.id rfl
theorem QC3 {α : Type} (x : α) (l : List α) (i : Nat) : (x :: l)[i + 1]? = l[i]? := _root_.id rfl
theorem QF7 {α : Type} (l : List α) (i : Nat) : (List.toArray l)[i]? = l[i]? := by simp
theorem QpZ {α γ : Type} (x : α) (g : α → Option γ) : (some x).bind g = g x := _root_.id rfl
noncomputable def QrR (P : Program) (D : Orc) (j : Option (Nat × Nat × Nat)) (ops : Array Oper) (l : List Oper) (Q : KT β) (f : Fr) (K : KS) (_ : Lk (l, Q, f)) : Option β :=
 match j with
 | none => QaV P D ops l f K (fun f K => Q .normal f K) ()
 | some (s, lo, hi) => QjV (QaV P D ops l f K (fun f _ => asB (f s)) ()) (fun c => Q .normal (up (Qq4 lo hi f) s (.b c)) K) ()
theorem QHK (id ops ol l) : Qig P D a id ops ol Q f K l = QrR P D (lk a.jn id) ops ol Q f K () := _root_.id rfl
theorem Qt0 (ops ol l) : QrR P D none ops ol Q f K l = QaV P D ops ol f K (fun f K => Q .normal f K) () := _root_.id rfl
theorem QrP (s lo hi ops ol l) : QrR P D (some (s, lo, hi)) ops ol Q f K l = QjV (QaV P D ops ol f K (fun f _ => asB (f s)) ()) (fun c => Q .normal (up (Qq4 lo hi f) s (.b c)) K) () := _root_.id rfl
theorem QvN (o) (k : Bool → Option β) (l) : QjV o k l = o.bind k := _root_.id rfl
theorem QDG (b) (k : Bool → Option β) (l) : QjV (Qg9 b) k l = k b := _root_.id rfl
theorem QwD (b x y) : cond b (Qg9 x) (Qg9 y) = Qg9 (cond b x y) := by cases b <;> rfl
theorem QJF (b) : Qg9 b = some b := _root_.id rfl
theorem QGU (a b : Bool) : cond a b false = (a && b) := by cases a <;> rfl
theorem QMY (a b : Bool) : cond a true b = (a || b) := by cases a <;> rfl
theorem QBD (a b : Bool) : cond a false b = (!a && b) := by cases a <;> rfl
theorem QIA (b) : asB (.b b) = Qg9 b := _root_.id rfl
def QxR (D : Orc) (t : Nat) (z : List Nat) (la : Option LA) (Q : KT β) (f : Fr) (K : KS) (_ : Lk Q) : Option β :=
 match la with
 | some la => QbW z la.sl la.rg f K (fun f K => Xg (D.l t f K) (fun o => Q o.1 o.2.1 o.2.2) ()) ()
 | none => none
theorem QzS (c l) : Vf P D a (.loop c) Q f K l = QxR D (tag c) a.ak (lk a.lp (tag c)) Q f K () := _root_.id rfl
theorem Qo7 (t z la l) : QxR D t z (some la) Q f K l = QbW z la.sl la.rg f K (fun f K => Xg (D.l t f K) (fun o => Q o.1 o.2.1 o.2.2) ()) () := _root_.id rfl
theorem Qf0 (id o d) : tag (.region id o d) = id := _root_.id rfl
theorem Qq6 (x y) : tag (.seq x y) = tag x := _root_.id rfl
theorem Qoj (c x y) : tag (.cond c x y) = tag x := _root_.id rfl
theorem QnK (i x) : tag (.block i x) = tag x := _root_.id rfl
theorem Qn3 (x) : tag (.loop x) = tag x := _root_.id rfl
theorem QtY (k : Fr → KS → Option β) (Q f K) : Qma k Q .normal f K = k f K := _root_.id rfl
theorem Qr7 (k : Fr → KS → Option β) (Q f K) : Qma k Q .ret f K = Q .ret f K := _root_.id rfl
theorem Quk (k : Fr → KS → Option β) (Q id f K) : Qma k Q (.exit id) f K = Q (.exit id) f K := _root_.id rfl
theorem Qu1 (i f K) : QqA i Q .normal f K = Q .normal f K := _root_.id rfl
theorem Qwd (i f K) : QqA i Q .ret f K = Q .ret f K := _root_.id rfl
theorem QvT (i j f K) : QqA i Q (.exit j) f K = sel (j == i) (Q .normal f K) (Q (.exit j) f K) () := _root_.id rfl
theorem QGV (ops) (k : Fr → KS → Option β) (l) : QaV P D ops [] f K k l = k f K := _root_.id rfl
theorem QBc (ops r) (k : Fr → KS → Option β) (d op t pos after l) : QaV P D ops (⟨some d, op, t, pos, after, none⟩ :: r) f K k l = oop P D op f K (fun v K' => QgT v (fun v => QaV P D ops r (up f d v) K' k ()) ()) () := _root_.id rfl
theorem Qvb (ops r) (k : Fr → KS → Option β) (op t pos after l) : QaV P D ops (⟨none, op, t, pos, after, none⟩ :: r) f K k l = oop P D op f K (fun v K' => QaV P D ops r f K' k ()) () := _root_.id rfl
theorem c_g (ops r) (k : Fr → KS → Option β) (d op t pos after j want l) : QaV P D ops (⟨some d, op, t, pos, after, some (j, want)⟩ :: r) f K k l =
  ogd ((ops[j]?).bind (·.dst)) want f (fun f => oop P D op f K (fun v K' => QgT v (fun v => QaV P D ops r (up f d v) K' k ()) ()) ()) (fun f => QgT (.tup []) (fun v => QaV P D ops r (up f d v) K k ()) ()) () := _root_.id rfl
theorem QKb (ops r) (k : Fr → KS → Option β) (op t pos after j want l) : QaV P D ops (⟨none, op, t, pos, after, some (j, want)⟩ :: r) f K k l =
  ogd ((ops[j]?).bind (·.dst)) want f (fun f => oop P D op f K (fun v K' => QaV P D ops r f K' k ()) ()) (fun f => QaV P D ops r f K k ()) () := _root_.id rfl
def QwJ (v : AV) (d : Nat) (want : Bool) (f : Fr) (yes no : Fr → Option β) (_ : Lk (f, yes, no)) : Option β :=
 match v with
 | .b x => cond x (cond want (yes (up f d (.b true))) (no (up f d (.b true)))) (cond want (no (up f d (.b false))) (yes (up f d (.b false))))
 | .tup [] => no f
 | _ => none
theorem QJo (d want) (yes no : Fr → Option β) (l) : ogd (some d) want f yes no l = QwJ (f d) d want f yes no () := by
 cases want <;> rfl
theorem Qyi (b d) (yes no : Fr → Option β) (l) : QwJ (.b b) d true f yes no l = cond b (yes (up f d (.b true))) (no (up f d (.b false))) := _root_.id rfl
theorem Qx5 (b d) (yes no : Fr → Option β) (l) : QwJ (.b b) d false f yes no l = cond b (no (up f d (.b true))) (yes (up f d (.b false))) := _root_.id rfl
theorem Qx9 (d w) (yes no : Fr → Option β) (l) : QwJ (.tup []) d w f yes no l = no f := _root_.id rfl
theorem QA5 (x l) : oop P D (.move x) f K k l = k (ev f x) K := _root_.id rfl
theorem QsU (x l) : oop P D (.assign x) f K k l = k (ev f x) K := _root_.id rfl
theorem QBF (c x y l) : oop P D (.pick c x y) f K k l = QhQ (ev f c) (ev f x) (ev f y) (fun v => k v K) () := _root_.id rfl
theorem Qv8 (t l) : oop P D (.alloc t) f K k l = Qh3 K (tzc P t) k () := _root_.id rfl
theorem QIy (t v l) : oop P D (.box t v) f K k l = QoG K (ev f v) k () := _root_.id rfl
theorem Qu0 (t ps l) : oop P D (.build t (List.toArray ps)) f K k l = QgA K (tbd P t) (ps.map fun p => (p.1, ev f p.2)) (fun v => k v K) () := _root_.id rfl
theorem Qtt (t len ps l) : oop P D (.buildSlice t len (List.toArray ps)) f K k l = Qee (zB (QcF P t)) (QcF P t) K (tse P t) len (ps.map fun p => (p.1, ev f p.2)) k () := _root_.id rfl
theorem Qzg (t x l) : oop P D (.load t x) f K k l = Qdc (tk P t) (Xa K (ev f x)) (fun v => k v K) () := _root_.id rfl
theorem Qvc (t p v l) : oop P D (.store t p v) f K k l = Qfx (flT P t) (slz P 9 t) K (tk P t) (ev f p) (ev f v) (fun K => k .u K) () := _root_.id rfl
theorem QGn (op t x y s l) : oop P D (.binOp op t x (.tmp y) s) f K k l = XF (QcI P t) op (ev f x) (ev f (.tmp y)) (fun v => k v K) () := _root_.id rfl
theorem QBd (op t x c n s l) : oop P D (.binOp op t x (.const (.int c n)) s) f K k l = XF (QcI P t) op (ev f x) (ev f (.const (.int c n))) (fun v => k v K) () := _root_.id rfl
theorem Qzd (op t x c s l) : oop P D (.binOp op t x (.const (.bool c)) s) f K k l = XF (QcI P t) op (ev f x) (ev f (.const (.bool c))) (fun v => k v K) () := _root_.id rfl
theorem Qzx (op t x c s l) : oop P D (.binOp op t x (.const (.string c)) s) f K k l = XF (QcI P t) op (ev f x) (ev f (.const (.string c))) (fun v => k v K) () := _root_.id rfl
theorem QBL (op t x s l) (h : Qg6 P t = true) : oop P D (.binOp op t x (.const (.slice none 0 0)) s) f K k l = QgD op (ev f x) (fun v => k v K) () := by simp [oop, Z6, h]
theorem QB7 (g caps l) : oop P D (.makeFunc (.func g) (List.toArray []) (List.toArray caps)) f K k l = k (.clo g (caps.map (ev f))) K := by simp [oop]
theorem QFd (s t x l) (h : bsl P s = true) : oop P D (.convert s t x) f K k l = Ql9 K (ti P t) (ev f x) (fun v => k v K) () := by simp [oop, h]
theorem QHy (s t x l) (h : bsl P s = false) (h2 : tok P s = true) : oop P D (.convert s t x) f K k l = Qnj (ti P t) (ev f x) (fun v => k v K) () := by simp [oop, h, h2]
theorem QCD (t x lo hi l) : oop P D (.slice t x lo hi none) f K k l = Qev (ti P t) (ev f x) (lo.map (ev f)) (hi.map (ev f)) (fun v => k v K) () := _root_.id rfl
theorem QIu (t x i l) : oop P D (.index t x i) f K k l = Qr2 (ti P t) (ev f x) (ev f i) (fun v => k v K) () := _root_.id rfl
theorem QCh (x l) : oop P D (.nilCheck x) f K k l = QtV K (ev f x) (fun v => k v K) () := _root_.id rfl
theorem QJi (op t x l) : oop P D (.unOp op t x) f K k l = oun op (ev f x) (fun v => k v K) () := _root_.id rfl
theorem QJh (t x fl l) : oop P D (.fieldAddr t x fl) f K k l = QqG K (ev f x) (tfo P t fl) (fun v => k v K) () := _root_.id rfl
theorem QKr (t x i l) : oop P D (.indexAddr t x i) f K k l = QlJ K (ti P t) (ev f x) (ev f i) (fun v => k v K) () := _root_.id rfl
theorem QH3 (t x i l) : oop P D (.field t x i) f K k l = Qtr (tfo P t i) (ev f x) (fun v => k v K) () := _root_.id rfl
theorem QEd (x i l) : oop P D (.extract x i) f K k l = QtT (ev f x) i (fun v => k v K) () := _root_.id rfl
theorem QDy (x t ts l) : oop P D (.call ⟨.builtin .len, List.toArray [x], List.toArray (t :: ts)⟩) f K k l = Ql4 K (ti P t) (ev f x) (fun v => k v K) () := _root_.id rfl
theorem QCZ (x y ts l) : oop P D (.call ⟨.builtin .min, List.toArray [x, y], ts⟩) f K k l = QtP (ev f x) (ev f y) (fun v => k v K) () := _root_.id rfl
theorem QHG (x y ts l) : oop P D (.call ⟨.builtin .max, List.toArray [x, y], ts⟩) f K k l = Qtb (ev f x) (ev f y) (fun v => k v K) () := _root_.id rfl
theorem QAk (g args ts l) : oop P D (.call ⟨.value g, List.toArray args, ts⟩) f K k l = QnP (ev f g) (fun g caps => Qc7 D g K (args.map (ev f) ++ caps) k ()) () := _root_.id rfl
theorem QCa (g caps) (k : FuncId → List AV → Option β) (l) : QnP (.clo g caps) k l = k g caps := _root_.id rfl
theorem Qv3 (g vs l) : Qc7 D g K vs k l = Xg (D.p g (QjB (D.z g) (QaS K vs))) (fun x => k (Vc K.length x).1 (K ++ (Vc K.length x).2)) () := _root_.id rfl
end
def Qy7 {β : Type} (o : Option Bool) (k : Bool → Option β) (_ : Lk k) : Option β := match o with | some b => k b | none => none
section
variable {β : Type} {k : AV → Option β} {c : IntKind} {a b : Int} {te : Option (List CK)}
theorem Qzs (K j i o l) : QtV K (.ptr j i o) k l = Qp7 (kg K j) (.ptr j i o) k () := _root_.id rfl
theorem Qy9 (e x l) : Qp7 (some e) x k l = k x := _root_.id rfl
theorem QAV (K n r i o l) : QtV K (.iptr n r i o) k l = k (.iptr n r i o) := _root_.id rfl
theorem QxI (l) : XF te .and (.i c a) (.i c b) k l = k (.i c (Qcd .and c a b)) := by simp [XF, Qdf]
theorem QH5 (l) : XF te .or (.i c a) (.i c b) k l = k (.i c (Qcd .or c a b)) := by simp [XF, Qdf]
theorem QEI (l) : XF te .xor (.i c a) (.i c b) k l = k (.i c (Qcd .xor c a b)) := by simp [XF, Qdf]
theorem QC6 (d l) : XF te .shl (.i c a) (.i d b) k l = Q1 (decide (0 ≤ b)) (k (.i c (shI .shl c a b))) () := by simp [XF, Qdf]
theorem QDA (d l) : XF te .shr (.i c a) (.i d b) k l = Q1 (decide (0 ≤ b)) (k (.i c (shI .shr c a b))) () := by simp [XF, Qdf]
theorem QDn (l) : XF te .add (.i c a) (.i c b) k l = k (.i c (c.wrap (a + b))) := by simp [XF, Qdf]
theorem QHa (l) : XF te .sub (.i c a) (.i c b) k l = k (.i c (c.wrap (a - b))) := by simp [XF, Qdf]
theorem QFv (l) : XF te .mul (.i c a) (.i c b) k l = k (.i c (c.wrap (a * b))) := by simp [XF, Qdf]
theorem QDQ (l) : XF te .quo (.i c a) (.i c b) k l = Q1 (!decide (b = 0)) (k (.i c (c.wrap (a.tdiv b)))) () := by simp [XF, Qdf]
theorem QHs (l) : XF te .rem (.i c a) (.i c b) k l = Q1 (!decide (b = 0)) (k (.i c (a.tmod b))) () := by simp [XF, Qdf]
theorem QEF (l) : XF te .eql (.i c a) (.i c b) k l = k (.b (decide (a = b))) := by simp [XF, Qdf]
theorem QFE (l) : XF te .neq (.i c a) (.i c b) k l = k (.b (!decide (a = b))) := by simp [XF, Qdf]
theorem QGi (l) : XF te .lss (.i c a) (.i c b) k l = k (.b (decide (a < b))) := by simp [XF, Qdf]
theorem QEJ (l) : XF te .leq (.i c a) (.i c b) k l = k (.b (decide (a ≤ b))) := by simp [XF, Qdf]
theorem QFm (l) : XF te .gtr (.i c a) (.i c b) k l = k (.b (decide (b < a))) := by simp [XF, Qdf]
theorem QEP (l) : XF te .geq (.i c a) (.i c b) k l = k (.b (decide (b ≤ a))) := by simp [XF, Qdf]
theorem QIz (ks xs ys l) : XF (some ks) .eql (.agg xs) (.agg ys) k l = Qy7 (QB ks xs ys) (fun b => k (.b b)) () := _root_.id rfl
theorem QH4 (ks xs ys l) : XF (some ks) .neq (.agg xs) (.agg ys) k l = Qy7 (QB ks xs ys) (fun b => k (.b (!b))) () := _root_.id rfl
theorem QHT (x y l) : XF (some [.t]) .eql (.b x) (.b y) k l = k (.b (decide (x = y))) := _root_.id rfl
theorem QGd (x y l) : XF (some [.t]) .neq (.b x) (.b y) k l = k (.b (!decide (x = y))) := _root_.id rfl
theorem QHQ (b) (k : Bool → Option β) (l) : Qy7 (some b) k l = k b := _root_.id rfl
theorem QzY (x y l) : XF te .add (.s x) (.s y) k l = Q1 (QEm x y) (k (.s (QIt x y))) () := by simp [XF, QEm, QIt]
theorem Qy1 (x y l) : XF te .eql (.s x) (.s y) k l = k (.b (decide (x = y))) := by simp [XF]
theorem QzP (x y l) : XF te .neq (.s x) (.s y) k l = k (.b (!decide (x = y))) := by simp [XF]
def QxX (o : Option AV) (k : AV → Option β) (_ : Lk k) : Option β := match o with | some c => k c | none => none
theorem QE3 (cs i l) : QtT (.tup cs) i k l = QxX (cs[i]?) k () := _root_.id rfl
theorem QAl (c l) : QxX (some c) k l = k c := _root_.id rfl
theorem QGX : QB [] [] [] = some true := _root_.id rfl
theorem QFD (ks c x y xs ys) : QB (.i :: ks) (.i c x :: xs) (.i c y :: ys) = (QB ks xs ys).map (decide (x = y) && ·) := by simp [QB]
theorem QEy (ks x y xs ys) : QB (.b :: ks) (.b x :: xs) (.b y :: ys) = (QB ks xs ys).map (decide (x = y) && ·) := _root_.id rfl
theorem QGJ (ks x y xs ys) : QB (.s :: ks) (.s x :: xs) (.s y :: ys) = (QB ks xs ys).map (decide (x = y) && ·) := _root_.id rfl
theorem QHM (x l) : oun .not (.b x) k l = k (.b (!x)) := _root_.id rfl
theorem QIw (l) : oun .neg (.i c a) k l = k (.i c (c.wrap (-a))) := _root_.id rfl
theorem Qws (x y : AV) (l) : QhQ (.b true) x y k l = k x := _root_.id rfl
theorem Qvi (x y : AV) (l) : QhQ (.b false) x y k l = k y := _root_.id rfl
theorem Qwe (x y : Bool) (c : Bool) (l) : QhQ (.b c) (.b x) (.b y) k l = k (.b (cond c x y)) := by cases c <;> rfl
theorem QEW (l) : QtP (.i c a) (.i c b) k l = k (.i c (if b < a then b else a)) := _root_.id rfl
theorem QB3 (l) : Qtb (.i c a) (.i c b) k l = k (.i c (if a < b then b else a)) := _root_.id rfl
theorem QCl (e : Option Ent) (K : KS) : kg (e :: K) 0 = e := _root_.id rfl
theorem QG3 (e : Option Ent) (K : KS) (j : Nat) : kg (e :: K) (j + 1) = kg K j := _root_.id rfl
theorem QAP {α : Type} (e e' : α) (K : List α) : (e :: K).set 0 e' = e' :: K := _root_.id rfl
theorem QAO {α : Type} (e e' : α) (K : List α) (j : Nat) : (e :: K).set (j + 1) e' = e :: K.set j e' := _root_.id rfl
theorem QHm {α : Type} (e : α) (K L : List α) : (e :: K) ++ L = e :: (K ++ L) := _root_.id rfl
theorem Qyz {α : Type} (L : List α) : [] ++ L = L := _root_.id rfl
theorem QBv {α : Type} : ([] : List α).length = 0 := _root_.id rfl
theorem QBX {α : Type} (e : α) (K : List α) : (e :: K).length = K.length + 1 := _root_.id rfl
theorem QuL {α : Type} (K : List α) : K.drop 0 = K := _root_.id rfl
theorem QvZ {α : Type} (e : α) (K : List α) (n : Nat) : (e :: K).drop (n + 1) = K.drop n := _root_.id rfl
theorem Qw0 {α : Type} (K : List α) : K.take 0 = [] := by simp
theorem QwY {α : Type} (e : α) (K : List α) (n : Nat) : (e :: K).take (n + 1) = e :: K.take n := _root_.id rfl
def lnR (r : List (List AV)) : Int := r.length
theorem Qr4 (K e m n r l) : Ql4 K (.sl e m) (.imm n r) k l = k (.i .i64 (lnR r)) := _root_.id rfl
theorem QEG (n r) (k : AV → Option β) (l) : QgD .eql (.imm n r) k l = Qhf r.isEmpty (k (.b true)) (k (.b false)) := _root_.id rfl
theorem QyP (n r) (k : AV → Option β) (l) : QgD .neq (.imm n r) k l = Qhf r.isEmpty (k (.b false)) (k (.b true)) := _root_.id rfl
theorem Qzh (x : Option β) (b) : Qhf b x x = x := by cases b <;> simp [Qhf, oeq]
theorem QyT (n : Nat) (R : List (List AV)) (b : Nat) (m) : Qhf R.isEmpty (some (AV.own n [])) (Q1 (decide (R.length * b ≤ 140737488355328)) (some (AV.own n R)) m) = Q1 (decide (R.length * b ≤ 140737488355328)) (some (AV.own n R)) () := by
 cases R with
 | nil => simp [Qhf, oeq, Q1]
 | cons r R => rfl
theorem Qun (K e m l) : Ql4 K (.sl e m) .nil k l = k (.i .i64 0) := _root_.id rfl
def Qxn (e : Option Ent) (k : AV → Option β) (_ : Lk k) : Option β := match e with | some e => k (.i .i64 (lnR e.rows)) | none => none
theorem QAJ (c d a l) : Qnj (.int c) (.i d a) k l = k (.i c (c.wrap a)) := _root_.id rfl
def Qn7 (o : Option (List UInt8)) (k : AV → Option β) (_ : Lk k) : Option β := match o with | some s => k (.s s) | none => none
def Qss (e : Option Ent) (k : AV → Option β) (_ : Lk k) : Option β := match e with | some (.lst 1 rows) => Qn7 (Qaf rows) k () | _ => none
theorem QCx (K j l) : Ql9 K .str (.sl j) k l = Qss (kg K j) k () := _root_.id rfl
theorem QAM (r l) : Qss (some (.lst 1 r)) k l = Qn7 (Qaf r) k () := _root_.id rfl
theorem QzF (s l) : Qn7 (some s) k l = k (.s s) := _root_.id rfl
theorem QB1 : Qaf [] = some [] := _root_.id rfl
theorem QuU (n r) : Qaf ([.i .u8 n] :: r) = (Qaf r).map (UInt8.ofNat n.toNat :: ·) := by
 show (match Qlk [.i .u8 n], Qaf r with | some x, some xs => some (x :: xs) | _, _ => none) = _
 simp only [Qlk]
 cases Qaf r <;> rfl
theorem QwW (K e m j l) : Ql4 K (.sl e m) (.sl j) k l = Qxn (kg K j) k () := _root_.id rfl
theorem QsA (n r l) : Qxn (some (.lst n r)) k l = k (.i .i64 (lnR r)) := _root_.id rfl
theorem Qsi (K x l) : Ql4 K .str (.s x) k l = k (.i .i64 (ln x)) := _root_.id rfl
theorem QAa (K n r i p o t l) : QqG K (.iptr n r i p) (some (o, t)) k l = k (.iptr n r i (p + o)) := _root_.id rfl
def QxK (e : Option Ent) (v : AV) (k : AV → Option β) (_ : Lk k) : Option β := match e with | some _ => k v | none => none
theorem QEb (K j i p o t l) : QqG K (.ptr j i p) (some (o, t)) k l = QxK (kg K j) (.ptr j i (p + o)) k () := _root_.id rfl
theorem Qyw (e v l) : QxK (some e) v k l = k v := _root_.id rfl
theorem QA9 (K e m r kd i l) : QlJ K (.sl e m) (.imm m r) (.i kd i) k l = Q1 (inb r i) (k (.iptr m r i.toNat 0)) () := by simp [QlJ]
def QtR (e : Option Ent) (m : Nat) (j : Nat) (i : Int) (k : AV → Option β) (_ : Lk k) : Option β := match e with | some e => if m = e.n then Q1 (inb e.rows i) (k (.ptr j i.toNat 0)) () else none | none => none
theorem QGz (K e m j kd i l) : QlJ K (.sl e m) (.sl j) (.i kd i) k l = QtR (kg K j) m j i k () := _root_.id rfl
theorem QAx (m r j i l) : QtR (some (.lst m r)) m j i k l = Q1 (inb r i) (k (.ptr j i.toNat 0)) () := by simp [QtR, Ent.n, Ent.rows]
def Qxq (e : Option Ent) (n : Nat) (i : Int) (p : AV) (k : AV → Option β) (_ : Lk k) : Option β := match e with | some _ => Q1 (QqD n i) (k p) () | none => none
theorem Qyu (K e n m j r o kd i l) : QlJ K (.arr n e m) (.ptr j r o) (.i kd i) k l = Qxq (kg K j) n i (.ptr j r (o + i.toNat * m)) k () := _root_.id rfl
theorem QBo (e n i p l) : Qxq (some e) n i p k l = Q1 (QqD n i) (k p) () := _root_.id rfl
theorem Qy0 (e m r h c l) : Qev (.sl e m) (.imm m r) none (some (.i c h)) k l = Q1 (slB 0 h (lnR r)) (k (.imm m (cut r 0 h))) () := by simp [Qev, bd, lnR]
theorem QyM (e m r h c l) : Qev (.sl e m) (.imm m r) (some (.i c h)) none k l = Q1 (slB h (lnR r) (lnR r)) (k (.imm m (cut r h (lnR r)))) () := by simp [Qev, bd, lnR]
theorem QyW (e m r h h' c c' l) : Qev (.sl e m) (.imm m r) (some (.i c h)) (some (.i c' h')) k l = Q1 (slB h h' (lnR r)) (k (.imm m (cut r h h'))) () := by simp [Qev, bd, lnR]
theorem QAQ (r h c l) : Qev .str (.s r) none (some (.i c h)) k l = Q1 (slB 0 h (ln r)) (k (.s (cut r 0 h))) () := by simp [Qev, bd, ln]
theorem QAe (r h c l) : Qev .str (.s r) (some (.i c h)) none k l = Q1 (slB h (ln r) (ln r)) (k (.s (cut r h (ln r)))) () := by simp [Qev, bd, ln]
theorem QBE (r h h' c c' l) : Qev .str (.s r) (some (.i c h)) (some (.i c' h')) k l = Q1 (slB h h' (ln r)) (k (.s (cut r h h'))) () := by simp [Qev, bd, ln]
theorem QEN (r i c l) : Qr2 .str (.s r) (.i c i) k l = Q1 (inb r i) (k (.i .u8 ((gt r i).toNat : Int))) () := _root_.id rfl
class Strs (cs : List AV) (xs : outParam (List (List UInt8))) : Prop where
 eq : cs = xs.map AV.s
instance : Strs [] [] := ⟨rfl⟩
instance (x cs xs) [h : Strs cs xs] : Strs (.s x :: cs) (x :: xs) := ⟨by rw [h.eq]; rfl⟩
theorem QzQ {cs : List AV} {xs : List (List UInt8)} [h : Strs cs xs] (i : Int) (hi : QqD cs.length i = true) (l) : Qdc .one (cs.drop (0 + i.toNat * 1)) k l = k (.s (gt xs i)) := by
 have hcs := h.eq
 subst hcs
 simp [QqD] at hi
 have h2 : i.toNat < xs.length := by omega
 rw [Nat.zero_add, Nat.mul_one, List.drop_eq_getElem_cons (by simpa using h2)]
 simp [Qdc, gt, List.getD_eq_getElem?_getD, h2]
theorem QJw (K n r i o) : Xa K (.iptr n r i o) = ((Qx r i).drop o).map ld := _root_.id rfl
def QoZ (e : Option Ent) (i o : Nat) : List AV := match e with | some (.box cs) => if i = 0 then cs.drop o else [] | some (.lst _ rows) => ((Qx rows i).drop o).map ld | none => []
theorem m_c (K j i o) : Xa K (.ptr j i o) = QoZ (kg K j) i o := _root_.id rfl
theorem QAX (cs o) : QoZ (some (.box cs)) 0 o = cs.drop o := _root_.id rfl
theorem QyE (n r i o) : QoZ (some (.lst n r)) i o = ((Qx r i).drop o).map ld := _root_.id rfl
theorem QBu {α γ : Type} (g : α → γ) : [].map g = [] := _root_.id rfl
theorem QyX {α γ : Type} (g : α → γ) (x l) : (x :: l).map g = g x :: l.map g := _root_.id rfl
theorem QCY (x) : ld (.b x) = .b x := _root_.id rfl
theorem QE4 (c x) : ld (.i c x) = .i c x := _root_.id rfl
theorem QFZ (x) : ld (.s x) = .s x := _root_.id rfl
theorem Qw3 (n x) : ld (.imm n x) = .imm n x := _root_.id rfl
theorem Qxh : ld .nil = .nil := _root_.id rfl
theorem Qv1 (n x) : ld (.own n x) = .u := _root_.id rfl
theorem QIJ (o t cs l) : Qtr (some (o, t)) (.agg cs) k l = Qdc t (cs.drop o) k () := _root_.id rfl
theorem QwU (c cs l) : Qdc .one (c :: cs) k l = k c := _root_.id rfl
def QtI (b : Bool) (v : AV) (k : AV → Option β) (_ : Lk k) : Option β := cond b (k v) none
theorem QuX (m cs l) : Qdc (.agg m) cs k l = QtI (Nat.blt 0 m && Nat.ble m cs.length) (.agg (cs.take m)) k () :=
 QaM (by simp only [Bool.and_eq_true, QhB, Qf4]) _ _
theorem Qwi (v l) : QtI true v k l = k v := _root_.id rfl
theorem Qu3 (K cs) (k : AV → KS → Option β) (l) : Qh3 K (some cs) k l = Vs (K ++ [some (.box cs)]) (fun K' => k (.ptr K.length 0 0) K') () := _root_.id rfl
def okB (b : Bool) (x : Option β) (_ : Lk x) : Option β := cond b x none
theorem QLv (x : Option β) (l) : okB true x l = x := _root_.id rfl
theorem QAz (K cs) (k : AV → KS → Option β) (l) : QoG K (.agg cs) k l = okB (cs.all (Jk K)) (Vs (K ++ [some (.box cs)]) (fun K' => k (.ptr K.length 0 0) K') ()) () := by
 simp only [QoG, okB]; cases cs.all (Jk K) <;> rfl
theorem QAT (K c x) (k : AV → KS → Option β) (l) : QoG K (.i c x) k l = Vs (K ++ [some (.box [.i c x])]) (fun K' => k (.ptr K.length 0 0) K') () := _root_.id rfl
theorem Qzi {α : Type} (p : α → Bool) : [].all p = true := _root_.id rfl
theorem Qze {α : Type} (p : α → Bool) (x l) : (x :: l).all p = (p x && l.all p) := _root_.id rfl
theorem QFx (K x) : Jk K (.b x) = true := _root_.id rfl
theorem QH2 (K c x) : Jk K (.i c x) = true := _root_.id rfl
theorem QDD (K x) : Jk K (.s x) = true := _root_.id rfl
theorem QHi (K) : Jk K .nil = true := _root_.id rfl
theorem Qwg (K n r) : Jk K (.imm n r) = true := _root_.id rfl
theorem QvQ (K n r) : Jk K (.clo n r) = true := _root_.id rfl
theorem QBf (K j) : Jk K (.sl j) = (kg K j).isSome := _root_.id rfl
theorem QwG (K j i o) : Jk K (.ptr j i o) = (kg K j).isSome := _root_.id rfl
theorem QKn {α : Type} (x : α) : (some x).isSome = true := _root_.id rfl
theorem QDS (x) : AV.closed (.b x) = true := _root_.id rfl
theorem QFX (c x) : AV.closed (.i c x) = true := _root_.id rfl
theorem QFK (x) : AV.closed (.s x) = true := _root_.id rfl
theorem QGF : AV.closed .nil = true := _root_.id rfl
theorem Qvx (n r) : AV.closed (.imm n r) = true := _root_.id rfl
theorem QAv (x : Bool) : (false && x) = false := _root_.id rfl
theorem QGI (x : Bool) : (true && x) = x := _root_.id rfl
def Qd4 (fl : Bool) (ns : List Nat) (K : KS) (e : Option Ent) (t : TK) (j i o : Nat) (v : AV) (k : KS → Option β) (_ : Lk k) : Option β :=
 match e with
  | some (.box cs) => if i = 0 then Qek cs o t v (Jk K) (fun cs => Vs (K.set j (some (.box cs))) k ()) () else none
  | some (.lst n rows) => if (JU v).all clq = true then (if i < rows.length then Qek (Qx rows i) o t v AV.closed (fun r => Vs (K.set j (some (.lst n (rows.set i r)))) k ()) () else none) else if fl = false then Qfw ns K t j i o n rows v k () else none
  | none => none
theorem QvL (fl ns K t j i o v) (k : KS → Option β) (l) : Qfx fl ns K t (.ptr j i o) v k l = Qd4 fl ns K (kg K j) t j i o v k () := by
 show (match kg K j with | some (.lst n rows) => _ | _ => _) = _
 cases h : kg K j with
 | none => simp [Qd4, QgW, h]
 | some e => cases e <;> simp [Qd4, QgW, h]
theorem QrZ (fl ns K cs t j o v) (k : KS → Option β) (l) : Qd4 fl ns K (some (.box cs)) t j 0 o v k l = Qek cs o t v (Jk K) (fun cs => Vs (K.set j (some (.box cs))) k ()) () := _root_.id rfl
def QhL (b fl : Bool) (ns : List Nat) (K : KS) (n : Nat) (r : List (List AV)) (t : TK) (j i o : Nat) (v : AV) (k : KS → Option β) (_ : Lk k) : Option β :=
 cond b (if i < r.length then Qek (Qx r i) o t v AV.closed (fun r' => Vs (K.set j (some (.lst n (r.set i r')))) k ()) () else none) (if fl = false then Qfw ns K t j i o n r v k () else none)
theorem Quz (fl ns K n r t j i o v) (k : KS → Option β) (l) : Qd4 fl ns K (some (.lst n r)) t j i o v k l = QhL ((JU v).all clq) fl ns K n r t j i o v k () := by
 simp only [Qd4, QhL]
 cases (JU v).all clq <;> rfl
theorem QGO (ds) : JU (.agg ds) = ds := _root_.id rfl
theorem QEu (c x) : JU (.i c x) = [.i c x] := _root_.id rfl
theorem QFr (x) : JU (.b x) = [.b x] := _root_.id rfl
theorem QCr (x) : JU (.s x) = [.s x] := _root_.id rfl
theorem QIB : JU .nil = [.nil] := _root_.id rfl
theorem QHr (n r) : JU (.imm n r) = [.imm n r] := _root_.id rfl
theorem QEC (j) : JU (.sl j) = [.sl j] := _root_.id rfl
theorem Qzu (j) : clq (.sl j) = false := _root_.id rfl
theorem QFc (x) : clq (.b x) = true := _root_.id rfl
theorem QEE (c x) : clq (.i c x) = true := _root_.id rfl
theorem QGG (x) : clq (.s x) = true := _root_.id rfl
theorem QCp : clq .nil = false := _root_.id rfl
theorem QF6 (n r) : clq (.imm n r) = true := _root_.id rfl
theorem QLE (cs) : nz [] cs = cs := by cases cs <;> rfl
theorem QLl (ns) : nz ns [] = [] := by cases ns <;> rfl
theorem QKL (n ns c cs) : nz (n :: ns) (c :: cs) = nzc n c :: nz ns cs := _root_.id rfl
theorem QJU (n x) : nzc n (.b x) = .b x := _root_.id rfl
theorem QMU (n c x) : nzc n (.i c x) = .i c x := _root_.id rfl
theorem QLi (n x) : nzc n (.s x) = .s x := _root_.id rfl
theorem QJg (n) : nzc n .nil = .own n [] := _root_.id rfl
theorem QIU (n m r) : nzc n (.own m r) = .own m r := _root_.id rfl
theorem QLI (n m r) : nzc n (.imm m r) = .imm m r := _root_.id rfl
theorem QK3 (k v) : QkQ (.z k) v = nzc k v := _root_.id rfl
theorem QL1 (v) : QkQ .n v = v := _root_.id rfl
theorem QMt (ns cs) : QkQ (.a ns) (.agg cs) = .agg (nz ns cs) := _root_.id rfl
theorem QM3 (v) : QjG [] v = v := _root_.id rfl
theorem QNn (s v) : QjG [s] v = QkQ s v := _root_.id rfl
theorem QJy (s s' ss vs) : QjG (s :: s' :: ss) (.tup vs) = .tup (QlO (s :: s' :: ss) vs) := _root_.id rfl
theorem QJE (s ss v vs) : QlO (s :: ss) (v :: vs) = QkQ s v :: QlO ss vs := _root_.id rfl
theorem QDU (vs) : QlO [] vs = vs := _root_.id rfl
theorem QG7 (m ds l) : Qln (.agg m) (.agg ds) l = (m == l) := _root_.id rfl
theorem QFw (j l) : Qln .one (.sl j) l = (l == 1) := _root_.id rfl
def Qpg (ns : List Nat) (K : KS) (a : Option (KS × List AV)) (t : TK) (j o n i : Nat) (r : List (List AV)) (v : AV) (k : KS → Option β) (_ : Lk k) : Option β :=
 match a with
  | some (K1, ds) => if (kg K1 j).isSome = true ∧ Qln t v ds.length = true ∧ o + ds.length ≤ (Qx r i).length then Vs (K1.set j (some (.lst n (r.set i (putCells (Qx r i) o (nz ns ds)))))) k () else none
  | none => none
theorem QKk (ns K K1 ds t j o n i r v) (k : KS → Option β) (l) : Qpg ns K (some (K1, ds)) t j o n i r v k l = okB ((kg K1 j).isSome && (Qln t v ds.length && Nat.ble (o + ds.length) (Qx r i).length)) (Vs (K1.set j (some (.lst n (r.set i (putCells (Qx r i) o (nz ns ds)))))) k ()) () :=
 QaM (by simp only [Bool.and_eq_true, Qf4]) _ _
def Qje (r : List (List AV)) (i : Nat) : Bool := Nat.blt i r.length
theorem w_n (D : Orc) (f : Fr) (K : KS) (j i o q r v m rs) (k : AV → KS → Option β) (l) : onr D f K j i o q r (v, [some (.lst m rs)]) k l = Q1 (v.flat && Qje r i) (Vs (K.set j (some (.lst q (r.set i (putCells (Qx r i) o [.own m rs])))) ++ [none]) (fun K' => k v K') ()) () := _root_.id rfl
theorem Qyv (x r) : Qje (x :: r) 0 = true := by simp [Qje, Nat.blt_eq]
theorem QyG (x r i) : Qje (x :: r) (i + 1) = Qje r i := by
 unfold Qje; rw [Bool.eq_iff_iff, Nat.blt_eq, Nat.blt_eq]; simp
theorem QBG (fl ns K n r t j i o v) (k : KS → Option β) (l) : QhL true fl ns K n r t j i o v k l = okB (Qje r i) (Qek (Qx r i) o t v AV.closed (fun r' => Vs (K.set j (some (.lst n (r.set i r')))) k ()) ()) () :=
 QaM QhB _ _
theorem Qyy (ns K n r t j i o v) (k : KS → Option β) (l) : QhL false false ns K n r t j i o v k l = okB (Qje r i) (Qpg ns K (Q3 K (JU v)) t j o n i r v k ()) () :=
 QaM QhB _ _
theorem QzA (cs o m ds ok) (k : List AV → Option β) (l) : Qek cs o (.agg m) (.agg ds) ok k l = okB ((m == ds.length) && (Nat.ble (o + m) cs.length && ds.all ok)) (k (putCells cs o ds)) () :=
 QaM (by simp only [Bool.and_eq_true, beq_iff_eq, Qf4]) _ _
theorem Qqz (cs : List AV) (o : Nat) (v : AV) (ok : AV → Bool) (k : List AV → Option β) : (if o < cs.length ∧ ok v = true then k (cs.set o v) else none) = okB (Nat.blt o cs.length && ok v) (k (cs.set o v)) () :=
 QaM (by simp only [Bool.and_eq_true, QhB]) _ _
theorem QBQ (cs o x ok) (k : List AV → Option β) (l) : Qek cs o .one (.b x) ok k l = okB (Nat.blt o cs.length && ok (.b x)) (k (cs.set o (.b x))) () := Qqz ..
theorem QA0 (cs o c x ok) (k : List AV → Option β) (l) : Qek cs o .one (.i c x) ok k l = okB (Nat.blt o cs.length && ok (.i c x)) (k (cs.set o (.i c x))) () := Qqz ..
theorem QAd (cs o x ok) (k : List AV → Option β) (l) : Qek cs o .one (.s x) ok k l = okB (Nat.blt o cs.length && ok (.s x)) (k (cs.set o (.s x))) () := Qqz ..
theorem QyF (cs o ok) (k : List AV → Option β) (l) : Qek cs o .one .nil ok k l = okB (Nat.blt o cs.length && ok .nil) (k (cs.set o .nil)) () := Qqz ..
theorem Qwc (cs o j ok) (k : List AV → Option β) (l) : Qek cs o .one (.sl j) ok k l = okB (Nat.blt o cs.length && ok (.sl j)) (k (cs.set o (.sl j))) () := Qqz ..
theorem QsR (cs o n r ok) (k : List AV → Option β) (l) : Qek cs o .one (.imm n r) ok k l = okB (Nat.blt o cs.length && ok (.imm n r)) (k (cs.set o (.imm n r))) () := Qqz ..
theorem QLP (cs o ds) : putCells cs o ds = cs.take o ++ ds ++ cs.drop (o + ds.length) := _root_.id rfl
theorem QzN (P z nr S rs f K) : Qha P z nr S rs .normal f K = QiI P z S rs nr f K () := _root_.id rfl
theorem QBe (P z nr S rs f K) : Qha P z nr S rs .ret f K = QiI P z S rs nr f K () := _root_.id rfl
theorem QDg (P z S rs f K l) : QiI P z S rs none f K l = Xg (Qaq f K P rs) (fun vs => Q1 (rok (tkl z K).length (QcN vs) && (Qfd (tkl z K) && Nat.ble z.length (tkl z K).length)) (some (QcN vs, tkl z K)) ()) () := _root_.id rfl
theorem QEi (P z S rs r f K l) : QiI P z S rs (some r) f K l = Xg (Qaq f K P rs) (fun vs => QbW z [S] r (up f S (QcN vs)) K (fun f K => QgT (f S) (fun v => Q1 (rok K.length v && (Qfd K && Nat.ble z.length K.length)) (some (v, K)) ()) ()) ()) () := _root_.id rfl
theorem QCd {α : Type} : (none : Option α).isSome = false := _root_.id rfl
theorem QFA {α : Type} (x : α) : (some x).isSome = true := _root_.id rfl
theorem QHB (K) : tkl [] K = [] := by cases K <;> rfl
theorem QIC (x z e K) : tkl (x :: z) (e :: K) = e :: tkl z K := _root_.id rfl
theorem QwZ (P sh rs f K) : Qe2 P sh rs .normal f K = Xg (Qaq f K P rs) (fun vs => (Z8 K (QcN vs)).map fun p => QjG sh p.2) () := _root_.id rfl
theorem QuA (P sh rs f K) : Qe2 P sh rs .ret f K = Xg (Qaq f K P rs) (fun vs => (Z8 K (QcN vs)).map fun p => QjG sh p.2) () := _root_.id rfl
theorem QD0 (f K P) : Qaq f K P [] = some [] := _root_.id rfl
theorem QCu (f K P t rs) : Qaq f K P (.tmp t :: rs) = (Qaq f K P rs).map (f t :: ·) := _root_.id rfl
theorem QzC (f K P x t rs) : Qaq f K P (.cell x t :: rs) = Xg (Qdc (tk P t) (Xa K (f x)) some ()) (fun v => (Qaq f K P rs).map (v :: ·)) () := _root_.id rfl
theorem Qi9 {α γ : Type} (g : α → γ) (x : α) : (some x).map g = some (g x) := _root_.id rfl
theorem QoJ {α γ : Type} (g : α → γ) : (none : Option α).map g = none := _root_.id rfl
theorem QHg (v) : QcN [v] = v := _root_.id rfl
theorem QEO (v w vs) : QcN (v :: w :: vs) = .tup (v :: w :: vs) := _root_.id rfl
theorem QBC : QcN [] = .tup [] := _root_.id rfl
theorem x_b (K x) : Z8 K (.b x) = some (K, .b x) := _root_.id rfl
theorem x_i (K c x) : Z8 K (.i c x) = some (K, .i c x) := _root_.id rfl
theorem x_s (K x) : Z8 K (.s x) = some (K, .s x) := _root_.id rfl
theorem QEK (K) : Z8 K .nil = some (K, .nil) := _root_.id rfl
theorem QHS (K n r) : Z8 K (.imm n r) = none := by simp [Z8]
theorem QHJ (K cs) : Z8 K (.agg cs) = (Qb5 K cs).map fun p => (p.1, .agg p.2) := by simp [Z8]
theorem QIr (K cs) : Z8 K (.tup cs) = (Qb5 K cs).map fun p => (p.1, .tup p.2) := by simp [Z8]
def Qyh (K : KS) (e : Option Ent) (j : Nat) : Option (KS × AV) := match e with | some (.lst n rows) => if QD rows = true then some (K.set j none, .own n rows) else none | _ => none
theorem QKZ (K j) : Z8 K (.sl j) = Qyh K (kg K j) j := by rw [Z8]; rfl
theorem QLb : QD [] = true := _root_.id rfl
theorem QIV (r rs) : QD (r :: rs) = cond (Vm r) (QD rs) false := by rw [show QD (r :: rs) = (Vm r && QD rs) by simp [QD]]; cases Vm r <;> rfl
theorem QLG : Vm [] = true := _root_.id rfl
theorem QMz (c cs) : Vm (c :: cs) = cond (AV.clean c) (Vm cs) false := by rw [show Vm (c :: cs) = (AV.clean c && Vm cs) by simp [Vm]]; cases AV.clean c <;> rfl
theorem k_i (k n) : AV.clean (.i k n) = true := _root_.id rfl
theorem k_b (x) : AV.clean (.b x) = true := _root_.id rfl
theorem k_s (x) : AV.clean (.s x) = true := _root_.id rfl
theorem QIH (K n r j) : Qyh K (some (.lst n r)) j = cond (QD r) (some (K.set j none, .own n r)) none := QaM Iff.rfl _ _
theorem QyJ (K) : Qb5 K [] = some (K, []) := by simp [Qb5]
def Qou (e : Option (KS × AV)) (cs : List AV) : Option (KS × List AV) := match e with | some (K1, c') => (Qb5 K1 cs).map fun p => (p.1, c' :: p.2) | none => none
theorem Qxf (K c cs) : Qb5 K (c :: cs) = Qou (Z8 K c) cs := by rw [Qb5]; rfl
theorem QMI (K c cs) : Qou (some (K, c)) cs = (Qb5 K cs).map fun p => (p.1, c :: p.2) := _root_.id rfl
theorem QLw (cs) : Qou none cs = none := _root_.id rfl
theorem QBV (z sl rg f K) (k : Fr → KS → Option β) (l) : QbW z sl rg f K k l = Q9 rg f K [] (fun f K π => Q1 (ndB π) (onz z π (Vs (Qw9 K π) (fun K' => k (Qvr f π sl) K') ()) ()) ()) () := _root_.id rfl
theorem QCe (π) (q : Option β) (l) : onz [] π q l = q := _root_.id rfl
theorem QCg (x z π) (q : Option β) (l) : onz (x :: z) π q l = Q1 (pfx (x :: z) π) q () := _root_.id rfl
theorem QNh (π) : pfx [] π = true := _root_.id rfl
theorem QMl (x z y π) : pfx (x :: z) (y :: π) = ((x == y) && pfx z π) := by rw [← QgC]; rfl
theorem QMw (x : Nat) : ([] : List Nat).contains x = false := _root_.id rfl
theorem QL9 (x y : Nat) (l : List Nat) : (y :: l).contains x = ((x == y) || l.contains x) := List.contains_cons
theorem QLa (b : Bool) : (false || b) = b := by cases b <;> rfl
theorem QLt (b : Bool) : (true || b) = true := by cases b <;> rfl
theorem Qxt (f K π) (k : Fr → KS → List Nat → Option β) (l) : Q9 [] f K π k l = k f K π := _root_.id rfl
theorem n_r (i r f K π) (k : Fr → KS → List Nat → Option β) (l) : Q9 (.r i :: r) f K π k l = Q9 r f K (π ++ [i]) k () := _root_.id rfl
def Qim (v : AV) (t n : Nat) (r : List Pt) (f : Fr) (K : KS) (π : List Nat) (k : Fr → KS → List Nat → Option β) (_ : Lk (f, k)) : Option β := match v with
  | .sl j => Q9 r f K (π ++ [j]) k ()
  | .ptr j _ _ => Q9 r f K (π ++ [j]) k ()
  | .nil => Q9 r (up f t (.sl K.length)) (K ++ [some (.lst n [])]) (π ++ [K.length]) k ()
  | _ => none
theorem n_s (t n r f K π) (k : Fr → KS → List Nat → Option β) (l) : Q9 (.s t n :: r) f K π k l = Qim (f t) t n r f K π k () := by simp only [Q9, Qim]; rfl
theorem QCn (j t n r f K π) (k : Fr → KS → List Nat → Option β) (l) : Qim (.sl j) t n r f K π k l = Q9 r f K (π ++ [j]) k () := _root_.id rfl
theorem QAs (j i o t n r f K π) (k : Fr → KS → List Nat → Option β) (l) : Qim (.ptr j i o) t n r f K π k l = Q9 r f K (π ++ [j]) k () := _root_.id rfl
theorem QBN (t n r f K π) (k : Fr → KS → List Nat → Option β) (l) : Qim .nil t n r f K π k l = Q9 r (up f t (.sl K.length)) (K ++ [some (.lst n [])]) (π ++ [K.length]) k () := _root_.id rfl
def QiJ (c : Option AV) (r : List Pt) (f : Fr) (K : KS) (π : List Nat) (k : Fr → KS → List Nat → Option β) (_ : Lk (f, k)) : Option β := match c with
  | some (.sl i) => Q9 r f K (π ++ [i]) k ()
  | some (.ptr i _ _) => Q9 r f K (π ++ [i]) k ()
  | _ => none
def Qlj (e : Option Ent) (o : Nat) (r : List Pt) (f : Fr) (K : KS) (π : List Nat) (k : Fr → KS → List Nat → Option β) (_ : Lk (f, k)) : Option β := match e with
  | some (.box cs) => QiJ (cs[o]?) r f K π k ()
  | _ => none
def QnZ (q : Option Nat) (o : Nat) (r : List Pt) (f : Fr) (K : KS) (π : List Nat) (k : Fr → KS → List Nat → Option β) (_ : Lk (f, k)) : Option β := match q with
  | some j => Qlj (kg K j) o r f K π k ()
  | none => none
theorem n_c (q o n r f K π) (k : Fr → KS → List Nat → Option β) (l) : Q9 (.c q o n :: r) f K π k l = QnZ (π[q]?) o r f K π k () := by
 simp only [Q9, QnZ, Qlj, QiJ]
 cases π[q]? with
 | none => rfl
 | some j =>
  simp only
  cases kg K j with
  | none => rfl
  | some e =>
   cases e with
   | box cs =>
    simp only
    cases cs[o]? with
    | none => rfl
    | some c => cases c <;> rfl
   | lst _ _ => rfl
theorem QHd (j o r f K π) (k : Fr → KS → List Nat → Option β) (l) : QnZ (some j) o r f K π k l = Qlj (kg K j) o r f K π k () := _root_.id rfl
theorem QEQ (cs o r f K π) (k : Fr → KS → List Nat → Option β) (l) : Qlj (some (.box cs)) o r f K π k l = QiJ (cs[o]?) r f K π k () := _root_.id rfl
theorem QFY (i r f K π) (k : Fr → KS → List Nat → Option β) (l) : QiJ (some (.sl i)) r f K π k l = Q9 r f K (π ++ [i]) k () := _root_.id rfl
theorem QEH (i a b r f K π) (k : Fr → KS → List Nat → Option β) (l) : QiJ (some (.ptr i a b)) r f K π k l = Q9 r f K (π ++ [i]) k () := _root_.id rfl
def QiC (c : Option AV) (cs : List AV) (t o n : Nat) (r : List Pt) (f : Fr) (K : KS) (π : List Nat) (k : Fr → KS → List Nat → Option β) (_ : Lk (f, k)) : Option β := match c with
  | some (.sl j) => Q9 r f K (π ++ [j]) k ()
  | some .nil => Q9 r (up f t (.agg (cs.set o (.sl K.length)))) (K ++ [some (.lst n [])]) (π ++ [K.length]) k ()
  | _ => none
def QoA (v : AV) (t o n : Nat) (r : List Pt) (f : Fr) (K : KS) (π : List Nat) (k : Fr → KS → List Nat → Option β) (_ : Lk (f, k)) : Option β := match v with
  | .agg cs => QiC (cs[o]?) cs t o n r f K π k ()
  | _ => none
theorem n_g (t o n r f K π) (k : Fr → KS → List Nat → Option β) (l) : Q9 (.g t o n :: r) f K π k l = QoA (f t) t o n r f K π k () := by
 simp only [Q9, QoA, QiC]
 cases f t with
 | agg cs =>
  simp only
  cases cs[o]? with
  | none => rfl
  | some c => cases c <;> rfl
 | _ => rfl
theorem QH7 (cs t o n r f K π) (k : Fr → KS → List Nat → Option β) (l) : QoA (.agg cs) t o n r f K π k l = QiC (cs[o]?) cs t o n r f K π k () := _root_.id rfl
theorem QFh (j cs t o n r f K π) (k : Fr → KS → List Nat → Option β) (l) : QiC (some (.sl j)) cs t o n r f K π k l = Q9 r f K (π ++ [j]) k () := _root_.id rfl
theorem QCF (cs t o n r f K π) (k : Fr → KS → List Nat → Option β) (l) : QiC (some .nil) cs t o n r f K π k l = Q9 r (up f t (.agg (cs.set o (.sl K.length)))) (K ++ [some (.lst n [])]) (π ++ [K.length]) k () := _root_.id rfl
theorem QFG : ndB [] = true := _root_.id rfl
theorem QD7 (x l) : ndB (x :: l) = (!l.contains x && ndB l) := _root_.id rfl
def krn (K : KS) (π : List Nat) (l : List Nat) : KS := l.map fun j => (kg K j).map (Qfc π)
theorem QJq (K π) : Qw9 K π = krn K π π := _root_.id rfl
theorem QBz (K π) : krn K π [] = [] := _root_.id rfl
theorem QA2 (K π j l) : krn K π (j :: l) = (kg K j).map (Qfc π) :: krn K π l := _root_.id rfl
theorem QDq (π cs) : Qfc π (.box cs) = .box (QbN π cs) := _root_.id rfl
theorem QH6 (π n r) : Qfc π (.lst n r) = .lst n r := _root_.id rfl
theorem QGc (π) : QbN π [] = [] := by simp [QbN]
theorem QEj (π c cs) : QbN π (c :: cs) = ren π c :: QbN π cs := by simp [QbN]
def slO : Option Nat → AV | some i => .sl i | none => .u
def QBj (i o : Nat) : Option Nat → AV | some j => .ptr j i o | none => .u
theorem QEr (i) : slO (some i) = .sl i := _root_.id rfl
theorem QHA : slO none = .u := _root_.id rfl
theorem QAB (i o j) : QBj i o (some j) = .ptr j i o := _root_.id rfl
theorem QBq (i o) : QBj i o none = .u := _root_.id rfl
theorem QAb (π j) : ren π (.sl j) = slO (Qhk π j) := by simp only [ren]; rfl
theorem Qvv (π j i o) : ren π (.ptr j i o) = QBj i o (Qhk π j) := by simp only [ren]; rfl
theorem Qwa (π cs) : ren π (.agg cs) = .agg (QbN π cs) := by simp [ren]
theorem Qu8 (π cs) : ren π (.tup cs) = .tup (QbN π cs) := by simp [ren]
theorem Qvd (π g cs) : ren π (.clo g cs) = .clo g (QbN π cs) := by simp [ren]
theorem QBH (π x) : ren π (.b x) = .b x := by simp [ren]
theorem QGS (π c x) : ren π (.i c x) = .i c x := by simp [ren]
theorem QIo (π x) : ren π (.s x) = .s x := by simp [ren]
theorem QIx (π) : ren π .nil = .nil := by simp [ren]
theorem QFT (π) : ren π .u = .u := by simp [ren]
theorem Qvs (π n r) : ren π (.imm n r) = .imm n r := by simp [ren]
theorem QsJ (π n r i o) : ren π (.iptr n r i o) = .iptr n r i o := by simp [ren]
theorem QA3 (j) : Qhk [] j = none := _root_.id rfl
theorem QzH (x l j) : Qhk (x :: l) j = sel (x == j) (some 0) ((Qhk l j).map (· + 1)) () := by
 rw [Qhk]; exact QaM (by simp) _ _
theorem QzL (f π l) : Qvr f π l = frm (frl f π l) := _root_.id rfl
theorem Qzb (f π) : frl f π [] = [] := _root_.id rfl
theorem QzJ (f π t l) : frl f π (t :: l) = (t, ren π (f t)) :: frl f π l := _root_.id rfl
theorem QK6 (z la rt f K) : Qdw z la rt .normal f K = QbW z la.sl la.rg f K (fun f K => some (.inl (f, K))) () := _root_.id rfl
theorem QJO (z la rt f K) : Qdw z la rt .ret f K = QbW z rt.sl rt.rg f K (fun f K => some (.inr (.ret, f, K))) () := _root_.id rfl
theorem QLF (z la rt i f K) : Qdw z la rt (.exit i) f K = QbW z la.xs la.xr f K (fun f K => some (.inr (.exit i, f, K))) () := _root_.id rfl
theorem QGv (t x y) : Qz t (.seq x y) = (Qz t x).or (Qz t y) := _root_.id rfl
theorem QBt (t c x y) : Qz t (.cond c x y) = (Qz t x).or (Qz t y) := _root_.id rfl
theorem Qvj (t i x) : Qz t (.block i x) = Qz t x := _root_.id rfl
theorem QAw (t x) : Qz t (.loop x) = sel (tag x == t) (some x) (Qz t x) () := _root_.id rfl
theorem QsL (t i o d) : Qz t (.region i o d) = none := _root_.id rfl
theorem QzM (t) : Qz t .skip = none := _root_.id rfl
theorem QG6 (t) : Qz t .ret = none := _root_.id rfl
theorem QAR (t i) : Qz t (.exit i) = none := _root_.id rfl
theorem Qxz (x : Option Code) : (none : Option Code).or x = x := by cases x <;> rfl
theorem QxH (x : Code) (y : Option Code) : (some x).or y = some x := _root_.id rfl
theorem l_0 (K) : QaS K [] = [] := by simp [QaS]
theorem l_s (K c cs) : QaS K (c :: cs) = Zd K c :: QaS K cs := by simp [QaS]
def Qsg (e : Option Ent) : AV := match e with | some (.lst n rows) => .imm n (Qf rows) | _ => .u
theorem QIW (K j) : Zd K (.sl j) = Qsg (kg K j) := by simp only [Zd]; rfl
theorem QFt (n r) : Qsg (some (.lst n r)) = .imm n (Qf r) := _root_.id rfl
theorem QFj (K j) : QjT K j = Qsg (kg K j) := _root_.id rfl
def QnT (K : KS) (e : Option Ent) (i o : Nat) : AV := match e with
 | some (.lst n rows) => .iptr n (Qf rows) i o
 | some (.box cs) => .iptr cs.length [cs.map (Qc1 K)] i o
 | none => .u
theorem QDj (K j i o) : Zd K (.ptr j i o) = QnT K (kg K j) i o := by simp only [Zd]; rfl
theorem QzD (K cs i o) : QnT K (some (.box cs)) i o = .iptr cs.length [cs.map (Qc1 K)] i o := _root_.id rfl
theorem Qz8 (K n r i o) : QnT K (some (.lst n r)) i o = .iptr n (Qf r) i o := _root_.id rfl
theorem QzX (K n r i o) : Zd K (.iptr n r i o) = .iptr n r i o := by simp [Zd]
theorem QDc (K j) : Qc1 K (.sl j) = QjT K j := _root_.id rfl
theorem QMd (K x) : Qc1 K (.b x) = .b x := _root_.id rfl
theorem QLo (K c x) : Qc1 K (.i c x) = .i c x := _root_.id rfl
theorem QKJ (K x) : Qc1 K (.s x) = .s x := _root_.id rfl
theorem QM5 (K) : Qc1 K .nil = .nil := _root_.id rfl
theorem QI3 (K n r) : Qc1 K (.imm n r) = .imm n r := _root_.id rfl
theorem Qzp (r : List AV) (rs) : Qx (r :: rs) 0 = r := _root_.id rfl
theorem QHN (K cs) : Zd K (.agg cs) = .agg (QaS K cs) := by simp [Zd]
theorem QD3 (K cs) : Zd K (.tup cs) = .tup (QaS K cs) := by simp [Zd]
theorem QGB (K g cs) : Zd K (.clo g cs) = .clo g (QaS K cs) := by simp [Zd]
theorem l_b (K x) : Zd K (.b x) = .b x := by simp [Zd]
theorem l_i (K c x) : Zd K (.i c x) = .i c x := by simp [Zd]
theorem QNb (K x) : Zd K (.s x) = .s x := by simp [Zd]
theorem l_n (K) : Zd K .nil = .nil := by simp [Zd]
theorem QEw (K n r) : Zd K (.imm n r) = .imm n r := by simp [Zd]
theorem Qxc : Qf [] = [] := by simp [Qf]
theorem QvK (r rs) : Qf (r :: rs) = Q6 r :: Qf rs := by simp [Qf]
theorem Qzt : Q6 [] = [] := by simp [Q6]
theorem QyV (c cs) : Q6 (c :: cs) = Ve c :: Q6 cs := by simp [Q6]
theorem QLK (x) : Ve (.b x) = .b x := by simp [Ve]
theorem QI1 (c x) : Ve (.i c x) = .i c x := by simp [Ve]
theorem QLe (x) : Ve (.s x) = .s x := by simp [Ve]
theorem QNv : Ve .nil = .nil := by simp [Ve]
theorem QyD (n r) : Ve (.imm n r) = .imm n r := by simp [Ve]
theorem QAh (n r) : Ve (.own n r) = .imm n (Qf r) := by simp [Ve]
theorem QHF (m n r) : Vc m (.own n r) = (.sl m, [some (.lst n r)]) := by simp [Vc]
theorem QDE (m cs) : Vc m (.agg cs) = (.agg (Z2 m cs).1, (Z2 m cs).2) := by simp [Vc]
theorem QHn (m cs) : Vc m (.tup cs) = (.tup (Z2 m cs).1, (Z2 m cs).2) := by simp [Vc]
theorem i_b (m x) : Vc m (.b x) = (.b x, []) := by simp [Vc]
theorem i_i (m c x) : Vc m (.i c x) = (.i c x, []) := by simp [Vc]
theorem QL6 (m x) : Vc m (.s x) = (.s x, []) := by simp [Vc]
theorem i_n (m) : Vc m .nil = (.nil, []) := by simp [Vc]
theorem QNu (m) : Z2 m [] = ([], []) := by simp [Z2]
theorem QMp (m c cs) : Z2 m (c :: cs) = ((Vc m c).1 :: (Z2 (m + (Vc m c).2.length) cs).1, (Vc m c).2 ++ (Z2 (m + (Vc m c).2.length) cs).2) := by simp [Z2]
theorem Qyf {α γ : Type} (x : α) (y : γ) : (x, y).1 = x := _root_.id rfl
theorem QH8 {α γ : Type} (x : α) (y : γ) : (x, y).2 = y := _root_.id rfl
def Qlr (e : Option (List AV)) (k : AV → Option β) (_ : Lk k) : Option β := match e with | some cs => k (.agg cs) | none => none
theorem QDo (K z p ps l) : QgA K (.st z p) ps k l = Qlr (Ze K (p[·]?) z ps) k () := _root_.id rfl
theorem QBJ (K z m ps l) : QgA K (.arr z m) ps k l = Qlr (Ze K (fun i => some (i * m, m)) z ps) k () := _root_.id rfl
theorem QIp (cs l) : Qlr (some cs) k l = k (.agg cs) := _root_.id rfl
def Qx8 (fl : Bool) (ns : List Nat) (e : Option (List AV)) (K : KS) (len m : Nat) (k : AV → KS → Option β) (_ : Lk k) : Option β := match e with
  | some cs => cond (yB fl cs) (match Q3 K cs with
   | some (K1, cs) => Vs (K1 ++ [some (.lst m ((Zz m len cs).map (nz ns)))]) (fun K' => k (.sl K.length) K') ()
   | none => none) none
  | none => none
theorem QMx (fl ns K e m z) (k : AV → KS → Option β) (l) : Qee fl ns K (some (e, m, z)) 0 [] k l = Vs (K ++ [some (.lst m [])]) (fun K' => k (.sl K.length) K') () := _root_.id rfl
theorem s_b (fl ns K e m z len ps) (k : AV → KS → Option β) (l) : Qee fl ns K (some (e, m, z)) (len + 1) ps k l = okB (Nat.ble ((len + 1) * m) 16777216) (Qx8 fl ns (Ze K (fun i => some (i * m, m)) (Qbf (len + 1) z) ps) K (len + 1) m k ()) () :=
 QaM Qf4 _ _
def Qyn (ns : List Nat) (e : Option (KS × List AV)) (n len m : Nat) (k : AV → KS → Option β) (_ : Lk k) : Option β := match e with
   | some (K1, cs) => Vs (K1 ++ [some (.lst m ((Zz m len cs).map (nz ns)))]) (fun K' => k (.sl n) K') ()
   | none => none
theorem QMB (fl ns K cs len m) (k : AV → KS → Option β) (l) : Qx8 fl ns (some cs) K len m k l = cond (yB fl cs) (Qyn ns (Q3 K cs) K.length len m k ()) none := _root_.id rfl
theorem QKy : zB [] = true := _root_.id rfl
theorem QMS (l : List Nat) : zB (0 :: l) = zB l := _root_.id rfl
theorem QM7 (n : Nat) (l : List Nat) : zB ((n + 1) :: l) = false := _root_.id rfl
theorem QJs (cs) : yB false cs = true := _root_.id rfl
theorem QLW (cs) : yB true cs = noS cs := _root_.id rfl
theorem QNs : noS [] = true := _root_.id rfl
theorem QJp (c n l) : noS (.i c n :: l) = noS l := _root_.id rfl
theorem QNo (x l) : noS (.b x :: l) = noS l := _root_.id rfl
theorem QKV (x l) : noS (.s x :: l) = noS l := _root_.id rfl
theorem QJ2 (l) : noS (.nil :: l) = noS l := _root_.id rfl
theorem QLy (n r l) : noS (.imm n r :: l) = noS l := _root_.id rfl
theorem QJV (j l) : noS (.sl j :: l) = false := _root_.id rfl
theorem QIY (ns K1 cs n len m) (k : AV → KS → Option β) (l) : Qyn ns (some (K1, cs)) n len m k l = Vs (K1 ++ [some (.lst m ((Zz m len cs).map (nz ns)))]) (fun K' => k (.sl n) K') () := _root_.id rfl
theorem QKS (K p cs) : Ze K p cs [] = some cs := _root_.id rfl
def Qth (K : KS) (place : Nat → Option (Nat × Nat)) (cs : List AV) (p : Option (Nat × Nat)) (d : Option (List AV)) (rest : List (Nat × AV)) : Option (List AV) := match p, d with
  | some (o, m), some ds => if ds.length = m ∧ o + m ≤ cs.length then Ze K place (putCells cs o ds) rest else none
  | _, _ => none
theorem QMy (K p cs i v r) : Ze K p cs ((i, v) :: r) = Qth K p cs (p i) (Qay K v) r := by simp only [Ze]; rfl
theorem QLs (K p cs o m ds r) : Qth K p cs (some (o, m)) (some ds) r = cond ((ds.length == m) && Nat.ble (o + m) cs.length) (Ze K p (putCells cs o ds) r) none :=
 QaM (by simp only [Bool.and_eq_true, beq_iff_eq, Qf4]) _ _
theorem QJj (K cs) : Qay K (.agg cs) = some cs := _root_.id rfl
theorem QLC (K x) : Qay K (.b x) = some [.b x] := _root_.id rfl
theorem QL3 (K c x) : Qay K (.i c x) = some [.i c x] := _root_.id rfl
theorem QLA (K x) : Qay K (.s x) = some [.s x] := _root_.id rfl
theorem QNt (K) : Qay K .nil = some [.nil] := _root_.id rfl
theorem Qzy (K n r) : Qay K (.imm n r) = some [.imm n r] := _root_.id rfl
theorem QDl (K j) : Qay K (.sl j) = cond (kg K j).isSome (some [.sl j]) none := by
 show (if Jk K (.sl j) = true then some [AV.sl j] else none) = _; exact QaM Iff.rfl _ _
theorem QMj (z) : Qbf 0 z = [] := by simp [Qbf]
theorem QKY (n z) : Qbf (n + 1) z = z ++ Qbf n z := by simp [Qbf, List.replicate_succ]
theorem QCQ (K) : Q3 K [] = some (K, []) := _root_.id rfl
theorem QCI (K x cs) : Q3 K (.b x :: cs) = (Q3 K cs).map fun p => (p.1, .b x :: p.2) := by simp [Q3, AV.closed]
theorem QDO (K c x cs) : Q3 K (.i c x :: cs) = (Q3 K cs).map fun p => (p.1, .i c x :: p.2) := by simp [Q3, AV.closed]
theorem QEk (K x cs) : Q3 K (.s x :: cs) = (Q3 K cs).map fun p => (p.1, .s x :: p.2) := by simp [Q3, AV.closed]
theorem QFe (K cs) : Q3 K (.nil :: cs) = (Q3 K cs).map fun p => (p.1, .nil :: p.2) := by simp [Q3, AV.closed]
theorem QuZ (K n r cs) : Q3 K (.imm n r :: cs) = (Q3 K cs).map fun p => (p.1, .imm n r :: p.2) := by simp [Q3, AV.closed]
def QC7 (e : Option Ent) (K : KS) (j : Nat) (cs : List AV) : Option (KS × List AV) := match e with
  | some (.lst n rows) => (Q3 (K.set j none) cs).map fun p => (p.1, .own n rows :: p.2)
  | _ => none
theorem QAZ (K j cs) : Q3 K (.sl j :: cs) = QC7 (kg K j) K j cs := by simp only [Q3]; rfl
theorem QEz (K n r j cs) : QC7 (some (.lst n r)) K j cs = (Q3 (K.set j none) cs).map fun p => (p.1, .own n r :: p.2) := _root_.id rfl
theorem QIa (m cs) : Zz m 0 cs = [] := _root_.id rfl
theorem QDB (m l cs) : Zz m (l + 1) cs = cs.take m :: Zz m l (cs.drop m) := _root_.id rfl
def QpJ (e : Option (List (List AV) × KS)) (n m b : Nat) (s : AV) (k : AV → KS → Option β) (_ : Lk k) : Option β := match e with
  | some (rows', K1) => match s with
   | .sl j => match kg K1 j with
    | some (.lst n' rows) => if n' = m then Q1 (decide ((rows.length + rows'.length) * (b + 1) ≤ 140737488355328)) (Vs (K1.set j none ++ [some (.lst m (rows ++ rows'))]) (fun K' => k (.sl n) K') ()) () else none
    | _ => none
   | .nil => Q1 (decide (rows'.length * (b + 1) ≤ 140737488355328)) (Vs (K1 ++ [some (.lst m rows')]) (fun K' => k (.sl n) K') ()) ()
   | _ => none
  | none => none
def QrE (e : Option Ent) (r : List (List AV)) (K1 : KS) (n m b j : Nat) (k : AV → KS → Option β) (_ : Lk k) : Option β := match e with
    | some (.lst n' rows) => if n' = m then Q1 (decide ((rows.length + r.length) * (b + 1) ≤ 140737488355328)) (Vs (K1.set j none ++ [some (.lst m (rows ++ r))]) (fun K' => k (.sl n) K') ()) () else none
    | _ => none
def QyZ (K : KS) (t : Option (TypeId × Nat × List AV)) (bytes : Option Nat) (s x : AV) (k : AV → KS → Option β) (_ : Lk k) : Option β := QhM K t bytes s x k ()
def QwC (P : Program) (t : Option (TypeId × Nat × List AV)) : Option Nat := t.bind fun q => tb P q.1
theorem QFy {P : Program} {D : Orc} {f : Fr} {K : KS} (s x t tx ts) (k : AV → KS → Option β) (l) : oop P D (.call ⟨.builtin .append, List.toArray [s, x], List.toArray (t :: tx :: ts)⟩) f K k l = okB (Z5 P tx && !(Z6 s && Qcx (ev f x))) (QyZ K (tse P t) (QwC P (tse P t)) (ev f s) (ev f x) k ()) () := by
 simp only [oop, okB, QyZ, QwC]; cases Z5 P tx <;> cases (Z6 s && Qcx (ev f x)) <;> rfl
theorem QMF (d) : Z6 (.tmp d) = false := _root_.id rfl
theorem QLB : Z6 (.const (.slice none 0 0)) = true := _root_.id rfl
theorem QNq (n r) : Qcx (.imm n r) = false := _root_.id rfl
theorem QLh : Qcx .nil = false := _root_.id rfl
theorem QJW (j) : Qcx (.sl j) = true := _root_.id rfl
def QtK (ns : List Nat) (K : KS) (t : Option (TypeId × Nat × List AV)) (bytes : Option Nat) (l c : AV) (k : AV → KS → Option β) (_ : Lk k) : Option β := Qp3 ns K t bytes l c k ()
theorem QJ8 {P : Program} {D : Orc} {f : Fr} {K : KS} (t x c) (k : AV → KS → Option β) (l) : oop P D (.makeSlice t x c) f K k l = QtK (QcF P t) K (tse P t) (QwC P (tse P t)) (ev f x) (ev f c) k () := _root_.id rfl
theorem QFW (ns K e m z b i c) (k : AV → KS → Option β) (l) : QtK ns K (some (e, m, z)) (some (b + 1)) (.i .i64 i) (.i .i64 c) k l = Q1 (decide (i = c)) (Q1 (mkB i (b + 1)) (Vs (K ++ [some (.lst m (List.replicate i.toNat (nz ns z)))]) (fun K' => k (.sl K.length) K') ()) ()) () := _root_.id rfl
theorem QMV (i : Int) : (i = i) = True := by simp
theorem QH1 (P e m z) : QwC P (some (e, m, z)) = tb P e := _root_.id rfl
theorem a_1 (K e m z b s x) (k : AV → KS → Option β) (l) : QyZ K (some (e, m, z)) (some (b + 1)) s x k l = QpJ (Qau K m x) K.length m b s k () := _root_.id rfl
theorem a_2 (r K1 n m b j) (k : AV → KS → Option β) (l) : QpJ (some (r, K1)) n m b (.sl j) k l = QrE (kg K1 j) r K1 n m b j k () := _root_.id rfl
theorem a_3 (r K1 n m b) (k : AV → KS → Option β) (l) : QpJ (some (r, K1)) n m b .nil k l = Q1 (rm r.length (b + 1)) (Vs (K1 ++ [some (.lst m r)]) (fun K' => k (.sl n) K') ()) () := by
 simp [QpJ, rm]
theorem a_4 (r' r K1 n m b j) (k : AV → KS → Option β) (l) : QrE (some (.lst m r')) r K1 n m b j k l = Q1 (rm (r'.length + r.length) (b + 1)) (Vs (K1.set j none ++ [some (.lst m (r' ++ r))]) (fun K' => k (.sl n) K') ()) () := by
 simp [QrE, rm]
theorem QKi (K m) : Qau K m .nil = some ([], K) := _root_.id rfl
theorem QLU (K m r) : Qau K m (.imm m r) = some (r, K) := by simp [Qau]
def Qza (e : Option Ent) (K : KS) (m k : Nat) : Option (List (List AV) × KS) := match e with
  | some (.lst n rows) => if n = m then some (rows, K.set k none) else none
  | _ => none
theorem QJM (K m j) : Qau K m (.sl j) = Qza (kg K j) K m j := _root_.id rfl
theorem QL4 (K m j r) : Qza (some (.lst m r)) K m j = some (r, K.set j none) := by simp [Qza]
end
section
variable (T : Tld)
theorem QID (n h) : (orc T (n + 1) h).w = T.wt := _root_.id rfl
theorem QEs (n h g) : (orc T n h).z g = (lk T.pz g).getD [] := by cases n <;> rfl
theorem QCL (n h) : (orc T (n + 1) h).v = T.vt := _root_.id rfl
theorem QE0 (n h) : (orc T n h).m = CM T n := by cases n <;> rfl
theorem QC5 (n h) : (orc T n h).a = CA T n := by cases n <;> rfl
theorem QDb (n h) : (orc T (n + 1) h).q = T.qt := _root_.id rfl
theorem QDV (n h) : (orc T (n + 1) h).s = T.st := _root_.id rfl
theorem QGu (n h) : (orc T n h).p = CP T n := by cases n <;> rfl
theorem QHD (n h) : (orc T n h).l = LP T n h := _root_.id rfl
noncomputable def cpF (T : Tld) (n g : Nat) (fn : Option Func) (a : Option Ann) (args : List AV) : Option AV := match a with
 | some a => match fn with
  | some f => cond (Nat.ble args.length f.ntmps) (Vf T.P (orc T n g) a (f.body.getD .skip) (Qe2 T.P a.sh f.results.toList) (Vh args) [] ()) none
  | none => cond (Nat.ble args.length 0) (Vf T.P (orc T n g) a .skip (Qe2 T.P a.sh []) (Vh args) [] ()) none
 | none => T.xt g args
noncomputable def caF (T : Tld) (n g : Nat) (fn : Option Func) (a : Option Ann) (K : KS) (args : List AV) : Option (AV × KS) := match a with
 | some a => match fn with
  | some f => cond (a.wr && (Nat.beq K.length a.ak.length && Nat.ble args.length f.ntmps)) (Vf T.P (orc T n g) a (f.body.getD .skip) (Qha T.P a.ak a.nr f.ntmps f.results.toList) (Vh args) K ()) none
  | none => cond (a.wr && (Nat.beq K.length a.ak.length && Nat.ble args.length 0)) (Vf T.P (orc T n g) a .skip (Qha T.P a.ak a.nr 0 []) (Vh args) K ()) none
 | none => none
theorem Zh (n g K args) : CA T (n + 1) g K args = caF T n g (T.P.funcs[g]?) (T.at g) K args := by
 show (match T.at g with | some a => cond _ _ _ | none => none) = _
 unfold caF body Qiv ntm
 cases T.at g with
 | none => rfl
 | some a => cases T.P.funcs[g]? <;> rfl
theorem Quq (n g K args a) (x1 x2 x3 x4 x5 x6 m) (rs : List ResultVar) (c x7 x8 x9 x10 x11 x12 x13) : caF T n g (some ⟨x1, x2, x3, x4, x5, x6, m, List.toArray rs, some c, x7, x8, x9, x10, x11, x12, x13⟩) (some a) K args = cond ((a.nr.isSome || !a.ak.isEmpty) && ((K.length == a.ak.length) && Nat.ble args.length m)) (Vf T.P (orc T n g) a c (Qha T.P a.ak a.nr m rs) (Vh args) K ()) none := by rw [← QgC]; rfl
theorem QyL {α : Type} (x : α) (l : List α) : (x :: l).isEmpty = false := _root_.id rfl
theorem QKC : (!false) = true := _root_.id rfl
noncomputable def cmF (T : Tld) (n g : Nat) (fn : Option Func) (a : Option Ann) (K : KS) (args : List AV) : Option AV := match a with
 | some a => cond (Nat.ble args.length (match fn with | some f => f.ntmps | none => 0)) (Vf T.P (orc T n g) a (match fn with | some f => f.body.getD .skip | none => .skip) (Qe2 T.P a.sh (match fn with | some f => f.results.toList | none => [])) (Vh args) K ()) none
 | none => T.mt g K args
theorem Qua (n g K args a) (x1 x2 x3 x4 x5 x6 m) (rs : List ResultVar) (c x7 x8 x9 x10 x11 x12 x13) : cmF T n g (some ⟨x1, x2, x3, x4, x5, x6, m, List.toArray rs, some c, x7, x8, x9, x10, x11, x12, x13⟩) (some a) K args = cond (Nat.ble args.length m) (Vf T.P (orc T n g) a c (Qe2 T.P a.sh rs) (Vh args) K ()) none := _root_.id rfl
theorem Qk (n g args) : CP T (n + 1) g args = cpF T n g (T.P.funcs[g]?) (T.at g) args := by
 show (match T.at g with | some a => cond _ _ _ | none => T.xt g args) = _
 unfold cpF body Qiv ntm
 cases T.at g with
 | none => rfl
 | some a => cases T.P.funcs[g]? <;> rfl
theorem Qsj (n g args a) (x1 x2 x3 x4 x5 x6 m) (rs : List ResultVar) (c x7 x8 x9 x10 x11 x12 x13) : cpF T n g (some ⟨x1, x2, x3, x4, x5, x6, m, List.toArray rs, some c, x7, x8, x9, x10, x11, x12, x13⟩) (some a) args = cond (Nat.ble args.length m) (Vf T.P (orc T n g) a c (Qe2 T.P a.sh rs) (Vh args) [] ()) none := _root_.id rfl
noncomputable def lpG (T : Tld) (n h : Nat) (a : Ann) (c : Option Code) (la : Option LA) (f : Fr) (K : KS) : Option (XE × Fr × KS) := match c, la with
    | some c, some la => run (fun s => Vf T.P (orc T n h) a c (Qdw a.ak la a.rt) s.1 s.2 ()) (f, K)
    | _, _ => none
noncomputable def lpF (T : Tld) (n h t : Nat) (fn : Option Func) (a : Option Ann) (f : Fr) (K : KS) : Option (XE × Fr × KS) := match a with
 | some a => lpG T n h a (Qz t (match fn with | some f => f.body.getD .skip | none => .skip)) (lk a.lp t) f K
 | none => none
theorem QA (n h t f K) : LP T (n + 1) h t f K = lpF T n h t (T.P.funcs[h]?) (T.at h) f K := by
 show (match T.at h with | some a => _ | none => none) = _
 unfold lpF
 cases T.at h <;> rfl
theorem Qt9 (n h t a f K) (x1 x2 x3 x4 x5 x6 m rs c x7 x8 x9 x10 x11 x12 x13) : lpF T n h t (some ⟨x1, x2, x3, x4, x5, x6, m, rs, some c, x7, x8, x9, x10, x11, x12, x13⟩) (some a) f K = lpG T n h a (Qz t c) (lk a.lp t) f K := _root_.id rfl
theorem Qm (n h a c la f K) : lpG T n h a (some c) (some la) f K = run (fun s => Vf T.P (orc T n h) a c (Qdw a.ak la a.rt) s.1 s.2 ()) (f, K) := _root_.id rfl
theorem getD_some {α : Type} (x d : α) : (some x).getD d = x := _root_.id rfl
theorem Qgo {α : Type} (d : α) : (none : Option α).getD d = d := _root_.id rfl
end
end Go.Proofs.YtncpklppoancgaaGreat.Am
namespace Go.Proofs.YtncpklppoancgaaGreat.Am
open Go
set_option linter.unusedVariables false
set_option linter.unusedSimpArgs false
section
variable {α β γ : Type} {c : α → List AV}
theorem Qmy (xs : List α) (i) : inb (xs.map c) i = inb xs i := by simp [inb]
theorem QJK (xs : List α) : lnR (xs.map c) = ln xs := by simp [lnR, ln]
theorem QmX [Inhabited α] (xs : List α) (i : Int) (h : inb xs i = true) : Qx (xs.map c) i.toNat = c (gt xs i) := by
 obtain ⟨h0, h1⟩ := XC.1 h
 have h2 : i.toNat < xs.length := by omega
 simp [Qx, gt, List.getD_eq_getElem?_getD, h2]
theorem QEe (xs : List α) (i : Int) (h : inb xs i = true) : Qje (xs.map c) i.toNat = true := by
 unfold Qje
 obtain ⟨h0, h1⟩ := XC.1 h
 rw [Nat.blt_eq]; simp; omega
theorem QFF (xs : List α) (l h : Int) : cut (xs.map c) l h = (cut xs l h).map c := by simp [cut, List.map_take, List.map_drop]
theorem QIK (xs : List α) : (xs.map c).length = xs.length := by simp
theorem QsW (xs : List α) (n : Nat) (x : α) (i : Int) : inb (xs.set n x) i = inb xs i := by simp [inb]
theorem Qxd [Inhabited α] (xs : List α) (x : α) (i : Int) (h : inb xs i = true) : gt (xs.set i.toNat x) i = x := by
 obtain ⟨h0, h1⟩ := XC.1 h
 have h2 : i.toNat < xs.length := by omega
 simp [gt, List.getD_eq_getElem?_getD, h2]
theorem Qti (xs : List α) (n : Nat) (x y : α) : (xs.set n x).set n y = xs.set n y := by simp
theorem QqH (o : Option α) (g : β → γ) (f : α → Option β) : (o.bind f).map g = o.bind fun x => (f x).map g := by cases o <;> rfl
theorem QqN (b : Bool) (o : Option β) (g : β → γ) (l) : (Q1 b o l).map g = Q1 b (o.map g) () := by cases b <;> rfl
theorem QqK (b : Bool) (x y : Option β) (g : β → γ) : (cond b x y).map g = cond b (x.map g) (y.map g) := by cases b <;> rfl
theorem Qs9 {ρ δ : Type} (p : ρ → Option β) (q : δ → Option β) (x) (g : β → γ) : (evO p q x).map g = evO (fun r => (p r).map g) (fun r => (q r).map g) x := by cases x <;> rfl
theorem Qnr (x : α) (f : α → Option β) : (some x).bind f = f x := _root_.id rfl
theorem QmM (o : Option α) (f : α → Option β) (g : β → Option γ) : (o.bind f).bind g = o.bind fun x => (f x).bind g := by cases o <;> rfl
theorem Qwv {α' β' : Type} (f : α → α') (g : β → β') (x) : Sum.map f g (.inl x) = .inl (f x) := _root_.id rfl
theorem QvO {α' β' : Type} (f : α → α') (g : β → β') (x) : Sum.map f g (.inr x) = .inr (g x) := _root_.id rfl
end
class EncR {α : Type} (c : α → List AV) (r : List AV) (x : outParam α) : Prop where
 eq : r = c x
class EncL {α : Type} (c : α → List AV) (R : List (List AV)) (xs : outParam (List α)) : Prop where
 eq : R = xs.map c
instance {α : Type} (c : α → List AV) (x : α) : EncR c (c x) x := ⟨rfl⟩
instance {α : Type} (c : α → List AV) (xs : List α) : EncL c (xs.map c) xs := ⟨rfl⟩
instance {α : Type} (c : α → List AV) : EncL c [] [] := ⟨rfl⟩
instance {α : Type} (c : α → List AV) (r R x xs) [h : EncR c r x] [H : EncL c R xs] : EncL c (r :: R) (x :: xs) := ⟨by rw [h.eq, H.eq]; rfl⟩
instance {α : Type} (c : α → List AV) (R S xs ys) [h : EncL c R xs] [H : EncL c S ys] : EncL c (R ++ S) (xs ++ ys) := ⟨by rw [h.eq, H.eq]; simp⟩
instance {α : Type} (c : α → List AV) (R xs) (i : Nat) (r x) [h : EncL c R xs] [H : EncR c r x] : EncL c (R.set i r) (xs.set i x) := ⟨by rw [h.eq, H.eq, List.map_set]⟩
instance {α : Type} (c : α → List AV) (n : Nat) (r x) [H : EncR c r x] : EncL c (List.replicate n r) (List.replicate n x) := ⟨by rw [H.eq, List.map_replicate]⟩
theorem QzR {α : Type} {c : α → List AV} (xs : List α) (R) {ys} [h : EncL c R ys] : xs.map c ++ R = (xs ++ ys).map c := by rw [h.eq]; simp
theorem QAu {α : Type} {c : α → List AV} (xs : List α) (n : Nat) (R) {x} [h : EncR c R x] : (xs.map c).set n R = (xs.set n x).map c := by rw [h.eq, List.map_set]
theorem J4 {α : Type} {c : α → List AV} (h : ∀ x, Vm (c x) = true) (xs : List α) : QD (xs.map c) = true := by
 induction xs with
 | nil => simp [QD]
 | cons x xs ih => simp [QD, h, ih]
theorem Qal {α : Type} {c c' : α → List AV} (h : ∀ x, Q6 (c x) = c' x) (xs : List α) : Qf (xs.map c) = xs.map c' := by
 induction xs with
 | nil => simp [Qf]
 | cons x xs ih => simp [Qf, h, ih]
theorem QBs {α : Type} {c : α → List AV} (xs : List α) (n b : Nat) (m) : Qhf (xs.map c).isEmpty (some (AV.own n [])) (Q1 (rm (0 + xs.length) b) (some (AV.own n (xs.map c))) m) = Q1 (rm (0 + xs.length) b) (some (AV.own n (xs.map c))) () := by
 cases xs with
 | nil => simp [Qhf, oeq, Q1, rm]
 | cons r R => rfl
set_option linter.defProp false
set_option maxRecDepth 100000
def evA := aI @QGw <| aI @QDM <| aI @QsK <| aI @Qxm <| aI @Qsw <| aI @Qye <| aI @QF8 <| aI @QD2 <| aI @Qy5 <| aI @QuD <| aI @Qto <| aI @QKe <| aI @QES <| aI @QJr <| aI @QDv <| aI @QvP <| aI @QCE <| aI @QvJ <| aI @QBk <| aI @Qva <| aI @Qt6 <| aI @QHV <| aI @QGY <| aI @Qz0 <| aI @QyQ <| aI @QB0 <| aI @QAy <| aI @QG0 <| aI @QuH <| aI @Qs6 <| aI @QIk <| aI @Qr5 <| aI @QAY <| aI @Qzw <| aI @QA7 <| aI @QEx <| aI @QF9 <| aI @QCX <| aI @QIN <| aI @QrF <| aI @Qj8 <| aI @Qz1 <| aI @QCU <| aI @QuW <| aI @Qt2 <| aI @Qzv <| aI @Qzk <| aI @QIv <| aI @QFV <| aI @s_v <| aI @v_j <| aI @v_s <| aI @QEv <| aI @QDs <| aI @Qua <| aI @QpZ <| aI @n_c <| aI @QHd <| aI @QEQ <| aI @QFY <| aI @QEH <| aI @n_g <| aI @QH7 <| aI @QFh <| aI @QCF <| aI @Qyx <| aI @QIc <| aI @QAm <| aI @QGq <| aI @Qzr <| aI @QvU <| aI @QsQ <| aI @Qpt <| aI @Qo0 <| aI @Qqa <| aI @Qqf <| aI @QML <| aI @QJ0 <| aI @QxT <| aI @QCe <| aI @QCg <| aI @QzN <| aI @QBe <| aI @QAn <| aI @Qv9 <| aI @QtZ <| aI @Qve <| aI @Qrf <| aI @Qw2 <| aI @QtL <| aI @QHY <| aI @QHz <| aI @QyN <| aI @QyH <| aI @QzE <| aI @QAc <|  aI @QwF <| aI @Qj8 <| aI @QGx <| aI @QH0 <| aI @Qvu <| aI @QEa <| aI @QFq <| aI @QtD <| aI @Qst <| aI @Qs3 <| aI @QCK <| aI @Qsq <| aI @QCo <| aI @QHK <|
 aI @Qt0 <| aI @QrP <| aI @QzS <| aI @Qo7 <| aI @QtY <| aI @Qr7 <| aI @Quk <| aI @Qu1 <| aI @Qwd <| aI @QvT <|
 aI @QGV <| aI @QBc <| aI @Qvb <| aI @c_g <| aI @QKb <| aI @Qyi <| aI @Qx5 <| aI @Qx9 <|
 aI @Qf0 <| aI @Qq6 <| aI @Qoj <| aI @QnK <| aI @Qn3 <|
 aI @QA5 <| aI @QsU <| aI @QBF <| aI @Qv8 <| aI @QIy <| aI @Qu0 <| aI @Qtt <| aI @Qzg <| aI @Qvc <| aI @QGn <| aI @QBd <| aI @Qzd <| aI @Qzx <| aI @QBL <| aI @QB7 <| aI @QFd <| aI @QHy <| aI @QCD <| aI @QIu <| aI @QCh <| aI @Qzs <| aI @Qy9 <| aI @QAV <| aI @QJi <|
 aI @QJh <| aI @QKr <| aI @QEd <| aI @QH3 <| aI @QDy <| aI @QCZ <| aI @QHG <| aI @QAk <| aI @Qv3 <| aI @QFy <| aI @QJ8 <|
 aI @QEn <| aI @Qzc <| aI @Qqx <| aI @Qow <| aI @Qoc <| aI @QlP <| aI @QmO <| aI @Quv <| aI @Qop <| aI @QqV <|
 aI @Qnt <| aI @Qml <| aI @XX <| aI @QfA <| aI @QiG <| aI @Qj1 <|
 aI @QwZ <| aI @QuA <| aI @QBV <| aI @Qxt <| aI @n_r <| aI @n_s <| aI @QK6 <| aI @QJO <| aI @QLF <|
 aI @QGv <| aI @QBt <| aI @Qvj <| aI @QAw <| aI @QsL <| aI @QzM <| aI @QG6 <| aI @QAR <| aI @Qxz <| aI @QxH <|
 aI @getD_some <| aI @Qgo <| aI @Qsj <| aI @Quq <| aI @Qt9 @Qyf
def evB := aI @Qlu <| aI @QkM <| aI @QKp <| aI @QLb <| aI @QIV <| aI @QLG <| aI @QMz <| aI @k_i <| aI @k_b <| aI @k_s <| aI @Qxa <| aI @QAN <| aI @QMT <| aI @QKs <| aI @QLc <| aI @QMr <| aI @QJR <| aI @QNk <| aI @QLf <| aI @QLM <| aI @QJD <| aI @QLO <| aI @QKT <| aI @QLu <| aI @QKy <| aI @QMS <| aI @QM7 <| aI @QJs <| aI @QLW <| aI @QNs <| aI @QJp <| aI @QNo <| aI @QKV <| aI @QJ2 <| aI @QLy <| aI @QJV <| aI @QGw <| aI @QDM <| aI @QsK <| aI @Qxm <| aI @Qsw <| aI @Qye <| aI @QF8 <| aI @QD2 <| aI @QF9 <| aI @QCX <| aI @QIN <| aI @QKj <| aI @c_K <| aI @QDv <| aI @QHS <| aI @QLw <| aI @s_v <| aI @v_j <| aI @v_s <| aI @QEv <| aI @QDs <| aI @Qua <| aI @p_0 <| aI @p_e <| aI @p_s <| aI @p_n <| aI @p_z <| aI @p_a <| aI @QNp <| aI @QJY <| aI @QLV <| aI @QLJ <| aI @QKN <| aI @QJ4 <| aI @QJ5 <| aI @QKA <| aI @QEs <| aI @QiG <| aI @Qj1 <| aI @Qgo <| aI @getD_some <| aI @n_c <| aI @QHd <| aI @QEQ <| aI @QFY <| aI @QEH <| aI @n_g <| aI @QH7 <| aI @QFh <| aI @QCF <| aI @Qxt <| aI @n_r <| aI @n_s <| aI @QvN <| aI @Qw4 <| aI @Qvw <| aI @Qnt <| aI @Qml <| aI @XX <| aI @QfA <| aI @Qt0 <| aI @QrP <| aI @Qo7 <| aI @Qyi <| aI @Qx5 <| aI @Qxz <| aI @QxH <| aI @getD_some <| aI @Qgo <| aI @QtD <| aI @Qst <| aI @Qsq <| aI @Qs3 <| aI @Zf <| aI @QEa <| aI @QFq <| aI @c_M <| aI @QMF <| aI @QLB <| aI @QNq <| aI @QLh <| aI @QJW <| aI @QIP <| aI @QGa <| aI @QAr <| aI @QAI <| aI @Qww <| aI @Qu2 <| aI @QBm <| aI @Qxg <| aI @QrG <| aI @QIM <| aI @QHC <| aI @Qsu <| aI @Qz7 <| aI @QzW <| aI @QDZ <| aI @QzV <| aI @QBh <| aI @QAp <| aI @QsE <| aI @QrK <| aI @Qpt <| aI @Qo0 <| aI @QCe <| aI @QCg <| aI @QNh <| aI @QMl <| aI @QMw <| aI @QL9 <| aI @QLa <| aI @QLt <| aI @s_w <| aI @w_j <| aI @w_s <| aI @QLR <| aI @QK5 <| aI @QHj <| aI @QyO <| aI @QJv <| aI @QNc <| aI @QHk <| aI @QMJ <| aI @QLQ <| aI @QKD <| aI @QKa <| aI @QCW <| aI @QzI <| aI @QJH <| aI @QMm <| aI @QId <| aI @QJm <| aI @QMR <| aI @QMh <| aI @QMf <| aI @QJX <| aI @QKI <| aI @QL0 <| aI @QM1 <| aI @QNd <| aI @QMP <| aI @QMg <| aI @QE5 <| aI @QIm <| aI @QJT <| aI @QJS <| aI @QKw <| aI @QMq <| aI @QKm <| aI @QJZ <| aI @QMW <| aI @QK7 <| aI @QIX <| aI @QKG <| aI @QM4 <| aI @QNa <| aI @QJ3 <| aI @QL2 <| aI @QKW <| aI @QKH <| aI @QKR <| aI @QKK <| aI @QLL <| aI @QLz <| aI @QJf <| aI @QLk <| aI @QJa <| aI @QJ1 <| aI @QKx <| aI @QNf <| aI @QEY <| aI @QCT <| aI @QDm <| aI @QFC <| aI @QLj <| aI @QJd <| aI @QMN <| aI @QLH <| aI @QJb <| aI @QJe <| aI @QNr <| aI @QCP <| aI @QD5 <| aI @QGA <| aI @QGL <| aI @QJB <| aI @QLm <| aI @QKB <| aI @QMk <| aI @QDi <| aI @QL7 <| aI @QJx <| aI @QGQ <| aI @QFp <| aI @QMG <| aI @QJl <| aI @QFn <| aI @QDg <| aI @QEi <| aI @QCd <| aI @QFA <| aI @Bool.true_or <| aI @Bool.false_or <| aI @QKl <| aI @QMu <| aI @QK4 <| aI @QJA <| aI @QMn <| aI @QJ9 <| aI @QJQ <| aI @QKE <| aI @w_p <| aI @QKc <| aI @w_x <| aI @w_n <| aI @QxT <| aI @QHB <| aI @QIC <| aI @Quq <| aI @QyL <| aI @QKC <| aI @Qqa <| aI @Qqf <| aI @s_t <| aI @s_q <| aI @s_f <| aI @QKg <| aI @QEl <| aI @QBi <| aI @QJn <| aI @QEZ <| aI @QBT <| aI @QoE <| aI @QBy <| aI @QBK <| aI @QDH <| aI @QB4 <| aI @QC4 <| aI @QBb <| aI @QGr <| aI @QC3 <| aI @QF7 <| aI @QpZ <| aI @Qsj <| aI @Qt9 <| aI @QiG <| aI @Qf0 <|
 aI @QDp <| aI @QHw <| aI @QJC <| aI @QK1 <| aI @Qyv <| aI @QyG <| aI @QA8 <| aI @QvH <| aI @QqF <| aI @Qts <| aI @QtO <| aI @Qsr <| aI @Qmw <| aI @QFb <| aI @QIA <| aI @QJo <| aI @QCa <|
 aI @QxI <| aI @QH5 <| aI @QEI <| aI @QC6 <| aI @QDA <| aI @QDn <| aI @QHa <| aI @QFv <| aI @QDQ <| aI @QHs <| aI @QEF <| aI @QFE <| aI @QGi <| aI @QEJ <| aI @QFm <| aI @QEP <| aI @QHM <| aI @QIw <|
 aI @QIz <| aI @QH4 <| aI @QHQ <| aI @QHT <| aI @QGd <| aI @QAv <| aI @QzY <| aI @Qy1 <| aI @QzP <| aI @QE3 <| aI @QAl <| aI @QGX <| aI @QFD <| aI @QEy <| aI @QGJ <| aI @Qyu <| aI @QBo <| aI @Qy0 <| aI @QyM <| aI @QyW <| aI @QAQ <| aI @QAe <| aI @QBE <| aI @QEN <| aI @QzQ <|
 aI @Qwe <| aI @Qws <| aI @Qvi <| aI @QDG <| aI @QwD <| aI @QGU <| aI @QMY <| aI @QBD <| aI @Qlq <| aI @QEW <| aI @QB3 <|
 aI @QCl <| aI @QG3 <| aI @QAP <| aI @QAO <| aI @QHm <| aI @Qyz <| aI @QBv <| aI @QBX <| aI @QuL <| aI @QvZ <| aI @Qw0 <| aI @QwY <|
 aI @QAJ <| aI @QCx <| aI @QAM <| aI @QzF <| aI @QB1 <| aI @QuU <| aI @QEG <| aI @QyP <| aI @Qzh <| aI @QyT <| aI @Qr4 <| aI @Qun <| aI @QwW <| aI @QsA <| aI @Qsi <| aI @QAa <| aI @QEb <| aI @Qyw <| aI @QA9 <| aI @QGz <| aI @QAx <|
 aI @QJw <| aI @m_c <| aI @QAX <| aI @QyE <| aI @QBu <| aI @QyX <| aI @QCY <| aI @QE4 <| aI @QFZ <| aI @Qw3 <| aI @Qxh <| aI @Qv1 <|
 aI @QwU <| aI @QIJ <| aI @QuX <| aI @Qwi <| aI @Qu3 <| aI @QLv <| aI @QAz <| aI @QAT <| aI @Qzi <| aI @Qze <|
 aI @QFx <| aI @QH2 <| aI @QDD <| aI @QHi <| aI @Qwg <| aI @QvQ <| aI @QBf <| aI @QwG <| aI @QKn <| aI @QDS <| aI @QFX <| aI @QFK <| aI @QGF <| aI @Qvx <| aI @QGI <|
 aI @QvL <| aI @QrZ <| aI @Quz <| aI @QBG <| aI @Qyy <| aI @QKk <| aI @QGO <| aI @QEu <| aI @QFr <| aI @QCr <| aI @QIB <| aI @QHr <| aI @QEC <| aI @Qzu <| aI @QFc <| aI @QEE <| aI @QGG <| aI @QCp <| aI @QF6 <| aI @QLE <| aI @QLl <| aI @QKL <| aI @QJU <| aI @QMU <| aI @QLi <| aI @QJg <| aI @QIU <| aI @QLI <| aI @QK3 <| aI @QL1 <| aI @QMt <| aI @QM3 <| aI @QNn <| aI @QJy <| aI @QJE <| aI @QDU <| aI @QG7 <| aI @QFw <| aI @QzA <| aI @QBQ <| aI @QA0 <| aI @QAd <| aI @QyF <| aI @Qwc <| aI @QsR <| aI @QLP <|
 aI @QD0 <| aI @QCu <| aI @QzC <| aI @Qi9 <| aI @QoJ <| aI @QHg <| aI @QEO <| aI @QBC <| aI @x_b <| aI @x_i <| aI @x_s <| aI @QEK <| aI @QHJ <| aI @QIr <| aI @QKZ <| aI @QIH <| aI @QyJ <| aI @Qxf <| aI @QMI <|
 aI @QCn <| aI @QAs <| aI @QBN <| aI @QFG <| aI @QD7 <| aI @QJq <| aI @QBz <| aI @QA2 <| aI @QDq <| aI @QH6 <| aI @QGc <| aI @QEj <| aI @QEr <| aI @QHA <| aI @QAB <| aI @QBq <|
 aI @QAb <| aI @Qvv <| aI @Qwa <| aI @Qu8 <| aI @Qvd <| aI @QBH <| aI @QGS <| aI @QIo <| aI @QIx <| aI @QFT <| aI @Qvs <| aI @QsJ <| aI @QA3 <| aI @QzH <| aI @QzL <| aI @Qzb <| aI @QzJ <|
 aI @l_0 <| aI @l_s <| aI @QIW <| aI @QFt <| aI @QFj <| aI @QDj <| aI @QzD <| aI @Qz8 <| aI @QzX <| aI @QDc <| aI @QMd <| aI @QLo <| aI @QKJ <| aI @QM5 <| aI @QI3 <| aI @Qzp <| aI @QHN <| aI @QD3 <| aI @QGB <| aI @l_b <| aI @l_i <| aI @QNb <| aI @l_n <| aI @QEw <| aI @Qxc <| aI @QvK <| aI @Qzt <| aI @QyV <| aI @QLK <| aI @QI1 <| aI @QLe <| aI @QNv <| aI @QyD <| aI @QAh <|
 aI @QHF <| aI @QDE <| aI @QHn <| aI @i_b <| aI @i_i <| aI @QL6 <| aI @i_n <| aI @QNu <| aI @QMp <| aI @Qyf <| aI @QH8 <|
 aI @QDo <| aI @QBJ <| aI @QIp <| aI @QMx <| aI @s_b <| aI @QMB <| aI @QIY <| aI @QKS <| aI @QMy <| aI @QLs <| aI @QJj <| aI @QLC <| aI @QL3 <| aI @QLA <| aI @QNt <| aI @Qzy <| aI @QDl <| aI @QMj <| aI @QKY <|
 aI @QCQ <| aI @QCI <| aI @QDO <| aI @QEk <| aI @QFe <| aI @QuZ <| aI @QAZ <| aI @QEz <| aI @QIa <| aI @QDB <|
 aI @QH1 <| aI @QFW <| aI @QMV <| aI @Qx9 <| aI @a_1 <| aI @a_2 <| aI @a_3 <| aI @a_4 <| aI @QKi <| aI @QLU <| aI @QJM @QL4
def evT := aI @Qmy <| aI @QBs <| aI @QFF <| aI @QJK <| aI @QmX <| aI @QEe <| aI @QAu <| aI @QzR <| aI @QtE <| aI @QIK <| aI @QsW <| aI @Qxd <| aI @Qti <| aI @Qtn <| aI @QET <| aI @QqH <| aI @QqN <| aI @QqK <| aI @Qnr <| aI @Qs9 <| aI @QmM <| aI @Qwv @QvO
def evN := aI @XX <| aI @List.contains_nil <| aI @Bool.not_false <| aI @Bool.and_true <| aI @List.length_append <| aI @List.length_cons <| aI @List.length_nil <| aI @Nat.zero_add <| aI @JM <| @Zf
end Go.Proofs.YtncpklppoancgaaGreat.Am
