import Derived.Test.YtcdffihcfeajfaaGreatEvA
namespace Go.Proofs.YtcdffihcfeajfaaGreat.Am
open Go
set_option linter.unusedVariables false
set_option linter.unusedSimpArgs false
section
variable {β : Type}
theorem QbJ {α : Type} {p : Prop} [Decidable p] {b : Bool} (h : b = true ↔ p) (x y : α) : (if p then x else y) = cond b x y := by
 cases b with
 | true => rw [if_pos (h.1 rfl)]; rfl
 | false => rw [if_neg (fun hp => by have := h.2 hp; cases this)]; rfl
theorem QjP {m n : Nat} : Nat.blt m n = true ↔ m < n := by rw [Nat.blt_eq]
theorem Qg5 {m n : Nat} : Nat.ble m n = true ↔ m ≤ n := by rw [Nat.ble_eq]
def sel {α : Type} (b : Bool) (x y : α) (_ : Lk (x, y)) : α := cond b x y
theorem QwT {α : Type} (x y : α) (l) : sel true x y l = x := _root_.id rfl
theorem Qvo {α : Type} (x y : α) (l) : sel false x y l = y := _root_.id rfl
theorem QyK (v) (k : AV → Option β) (l) : Qi8 v k l = k v := _root_.id rfl
theorem Qv0 (K) (k : KS → Option β) (l) : Vv K k l = k K := _root_.id rfl
theorem QH8 (f : Fr) (d : Nat) (v : AV) (t : Nat) : up f d v t = sel (d == t) v (f t) () := by
 unfold up sel
 by_cases h : t = d
 ·simp [h]
 ·have : (d == t) = false := by simp; exact fun h' => h h'.symm
  simp [h, this]
theorem QFh (m n : Nat) : Nat.ble m n = decide (m ≤ n) := by rw [Bool.eq_iff_iff, Nat.ble_eq]; simp
theorem QEV (m n : Nat) : Nat.blt m n = decide (m < n) := by rw [Bool.eq_iff_iff, Nat.blt_eq]; simp
theorem QOD (h : Decidable True) : @decide True h = true := by simp
theorem QK1 (h : Decidable False) : @decide False h = false := by simp
theorem Qyh (m n : Nat) (f : Fr) (t : Nat) : Qsh m n f t = sel (Nat.ble m t && Nat.blt t n) .u (f t) () := _root_.id rfl
theorem Qr0 (t : Nat) : frm [] t = .u := _root_.id rfl
theorem QpU (d : Nat) (v : AV) (l : List (Nat × AV)) (t : Nat) : frm ((d, v) :: l) t = sel (d == t) v (frm l t) () := by
 show up (frm l) d v t = _; exact QH8 _ _ _ _
theorem Qqh (t : Nat) : Vr [] t = .u := by simp [Vr]
theorem Qpc (v : AV) (l : List AV) : Vr (v :: l) 0 = v := _root_.id rfl
theorem Qpn (v : AV) (l : List AV) (t : Nat) : Vr (v :: l) (t + 1) = Vr l t := _root_.id rfl
theorem QuD (f : Fr) (t : Tmp) : ev f (.tmp t) = f t := _root_.id rfl
theorem QqA (f : Fr) (v : Value) : ev f (.const v) = cv v := _root_.id rfl
theorem QsD (f : Fr) (g : FuncId) : ev f (.func g) = .clo g [] := _root_.id rfl
theorem Qsg (b : Bool) : cv (.bool b) = .b b := _root_.id rfl
theorem QuT (k : IntKind) (i : Int) : cv (.int k i) = .i k i := _root_.id rfl
theorem Qs8 (x : ByteArray) : cv (.string x) = .s x.data.toList := _root_.id rfl
theorem QuF : cv (.slice none 0 0) = .nil := _root_.id rfl
theorem Qpf {α : Type} (x y : α) : cond true x y = x := _root_.id rfl
theorem Qon {α : Type} (x y : α) : cond false x y = y := _root_.id rfl
theorem JJ (q : Option β) (l) : Q8 true q l = q := _root_.id rfl
def VE {ρ δ γ : Type} (o : Option (Fl ρ δ)) (p : ρ → γ) (q : δ → γ) : Option γ := o.map (evO p q)
theorem QnF {ρ δ γ : Type} (o : Option (Fl ρ δ)) (p : ρ → γ) (q : δ → γ) (k : γ → Option β) (l) : Xi (VE o p q) k l = o.bind (evO (fun r => k (p r)) (fun r => k (q r))) := by
 cases o with
 | none => rfl
 | some o => cases o <;> rfl
theorem QhV {α : Type} (x : α) (k : α → Option β) (l) : Xi (some x) k l = k x := _root_.id rfl
theorem Qnj {α : Type} (k : α → Option β) (l) : Xi (none : Option α) k l = none := _root_.id rfl
theorem Qnh {α : Type} (b : Bool) (q : Option α) (k : α → Option β) (l) (l') : Xi (Q8 b q l') k l = Q8 b (Xi q k l) () := by cases b <;> rfl
theorem Qpr {α γ : Type} (o : Option γ) (e : γ → α) (k : α → Option β) (l) : Xi (o.map e) k l = o.bind (fun r => k (e r)) := by cases o <;> rfl
theorem QKP {α : Type} (o : Option α) (k : α → Option β) (l) : Xi o k l = o.bind k := _root_.id rfl
theorem Qk2 {α : Type} (i) : lk ([] : List (Nat × α)) i = none := _root_.id rfl
theorem QmO {α : Type} (i) (x : α) (l j) : lk ((i, x) :: l) j = sel (i == j) (some x) (lk l j) () := _root_.id rfl
end
section
variable {β : Type} {P : Program} {D : Orc} {a : Ann} {f : Fr} {K : KS} {Q : KT β} {k : AV → KS → Option β}
theorem QAt (l) : Vm P D a .skip Q f K l = Q .normal f K := _root_.id rfl
theorem QJT (l) : Vm P D a .ret Q f K l = Q .ret f K := _root_.id rfl
theorem QBj (id l) : Vm P D a (.exit id) Q f K l = Q (.exit id) f K := _root_.id rfl
theorem QIQ (x y l) : Vm P D a (.seq x y) Q f K l = Vm P D a x (QoO (fun f K => Vm P D a y Q f K ()) Q) f K () := _root_.id rfl
def QDT (v : AV) (x y : Option β) (_ : Lk (x, y)) : Option β := match v with | .b b => cond b x y | _ => none
theorem QAB (c x y l) : Vm P D a (.cond c x y) Q f K l = QDT (ev f c) (Vm P D a x Q f K ()) (Vm P D a y Q f K ()) () := _root_.id rfl
theorem QB8 (b) (x y : Option β) (l) : QDT (.b b) x y l = cond b x y := _root_.id rfl
theorem QwF (id c l) : Vm P D a (.block id c) Q f K l = Vm P D a c (Qr5 id Q) f K () := _root_.id rfl
theorem Quy (id ol l) : Vm P D a (.region id (List.toArray ol) false) Q f K l = ofz (lk a.fz id) f K (fun f K => QgO P D a id (lk a.av id) (List.toArray ol) Q f K ()) () := _root_.id rfl
theorem QN1 (f : Fr) (K : KS) (k : Fr → KS → Option β) (l) : ofz none f K k l = k f K := _root_.id rfl
theorem QQu (f : Fr) (K : KS) (ss) (k : Fr → KS → Option β) (l) : ofz (some ss) f K k l = QoQ ss f K k () := _root_.id rfl
theorem QLp (f : Fr) (K : KS) (k : Fr → KS → Option β) (l) : QoQ [] f K k l = k f K := _root_.id rfl
theorem QQq (f : Fr) (K : KS) (s ss) (k : Fr → KS → Option β) (l) : QoQ (s :: ss) f K k l = QvZ s (f s) f K (fun f K => QoQ ss f K k ()) () := _root_.id rfl
theorem QPh (f : Fr) (K : KS) (s j) (k : Fr → KS → Option β) (l) : QvZ s (.sl j) f K k l = Qwe s j (kg K j) f K k () := _root_.id rfl
theorem QQE (f : Fr) (K : KS) (s j m rows) (k : Fr → KS → Option β) (l) : Qwe s j (some (.lst m rows)) f K k l = Q8 (Qab rows) (k (up f s (.imm m rows)) (K.set j none)) () := _root_.id rfl
theorem QB6 (id ol l) : QgO P D a id none (List.toArray ol) Q f K l = Qol P D a id (lk a.an id) (List.toArray ol) ol Q f K () := _root_.id rfl
theorem QEx (id vs ol l) : QgO P D a id (some vs) (List.toArray ol) Q f K l = JU vs P D (List.toArray ol) ol f K (fun f K => Q .normal f K) () := _root_.id rfl
theorem Qyg (vs ops) (k : Fr → KS → Option β) (l) : JU vs P D ops [] f K k l = k f K := _root_.id rfl
theorem Qv9 (vs ops d o t p af r) (k : Fr → KS → Option β) (l) : JU vs P D ops (⟨some d, o, t, p, af, none⟩ :: r) f K k l = Qjn vs P D o f K (fun v K' => Qi8 v (fun v => JU vs P D ops r (up f d v) K' k ()) ()) () := _root_.id rfl
theorem QuU (vs ops o t p af r) (k : Fr → KS → Option β) (l) : JU vs P D ops (⟨none, o, t, p, af, none⟩ :: r) f K k l = Qjn vs P D o f K (fun v K' => JU vs P D ops r f K' k ()) () := _root_.id rfl
theorem QP9 (vs ops r) (k : Fr → KS → Option β) (d op t pos after j want l) : JU vs P D ops (⟨some d, op, t, pos, after, some (j, want)⟩ :: r) f K k l =
  ogd ((ops[j]?).bind (·.dst)) want f (fun f => Qjn vs P D op f K (fun v K' => Qi8 v (fun v => JU vs P D ops r (up f d v) K' k ()) ()) ()) (fun f => Qi8 (.tup []) (fun v => JU vs P D ops r (up f d v) K k ()) ()) () := _root_.id rfl
theorem QEc (vs ops r) (k : Fr → KS → Option β) (op t pos after j want l) : JU vs P D ops (⟨none, op, t, pos, after, some (j, want)⟩ :: r) f K k l =
  ogd ((ops[j]?).bind (·.dst)) want f (fun f => Qjn vs P D op f K (fun v K' => JU vs P D ops r f K' k ()) ()) (fun f => JU vs P D ops r f K k ()) () := _root_.id rfl
def QdC : Op → Bool
 | .call ⟨.value (.func _), _, _⟩ => true
 | _ => false
theorem QLo (vs o l) (k : AV → KS → Option β) (h : QdC o = false) : Qjn vs P D o f K k l = oop P D o f K k () := by
 unfold QdC at h
 unfold Qjn
 split
 ·cases h
 ·rfl
theorem QBr (vs g args ts l) (k : AV → KS → Option β) : Qjn vs P D (.call ⟨.value (.func g), args, ts⟩) f K k l = cond (vs.contains g) (Qcc P D (.call ⟨.value (.func g), args, ts⟩) f K k ()) (oop P D (.call ⟨.value (.func g), args, ts⟩) f K k ()) := _root_.id rfl
theorem QvM (x args ts) : QdC (.call ⟨.value (.tmp x), args, ts⟩) = false := _root_.id rfl
theorem QC1 (b args ts) : QdC (.call ⟨.builtin b, args, ts⟩) = false := _root_.id rfl
theorem QwQ (x) : QdC (.move x) = false := _root_.id rfl
theorem Qz9 (x) : QdC (.assign x) = false := _root_.id rfl
theorem Qv8 (t x) : QdC (.load t x) = false := _root_.id rfl
theorem Qta (t x y) : QdC (.store t x y) = false := _root_.id rfl
theorem QFn (t x i) : QdC (.fieldAddr t x i) = false := _root_.id rfl
theorem QE6 (t x i) : QdC (.indexAddr t x i) = false := _root_.id rfl
theorem QzZ (x i) : QdC (.extract x i) = false := _root_.id rfl
theorem Qzf (o t x y u) : QdC (.binOp o t x y u) = false := _root_.id rfl
theorem QGE (o t x) : QdC (.unOp o t x) = false := _root_.id rfl
theorem Qxn (c x y) : QdC (.pick c x y) = false := _root_.id rfl
theorem QtO (t ps) : QdC (.build t ps) = false := _root_.id rfl
theorem QGK (t n ps) : QdC (.buildSlice t n ps) = false := _root_.id rfl
theorem QtQ (t) : QdC (.alloc t) = false := _root_.id rfl
theorem Qyx (t x) : QdC (.box t x) = false := _root_.id rfl
theorem QzS (t x lo hi m) : QdC (.slice t x lo hi m) = false := _root_.id rfl
theorem QBm (t x i) : QdC (.index t x i) = false := _root_.id rfl
theorem QFe (s t x) : QdC (.convert s t x) = false := _root_.id rfl
theorem Qrw (id ops ol l) : Qol P D a id none ops ol Q f K l = QoS P D a id (lk a.ac id) ops ol Q f K () := _root_.id rfl
theorem Qrv (id us ops ol l) : Qol P D a id (some us) ops ol Q f K l = Qf9 P D ops us ol f K (fun f K => Q .normal f K) () := _root_.id rfl
theorem QrP (id ops ol l) : QoS P D a id none ops ol Q f K l = Qlx P D a id ops ol Q f K () := _root_.id rfl
theorem Qrf (id x ops ol l) : QoS P D a id (some x) ops ol Q f K l = Qel P D ops ol f K (fun f K => Q .normal f K) () := _root_.id rfl
theorem QA5 (ops) (k : Fr → KS → Option β) (l) : Qel P D ops [] f K k l = k f K := _root_.id rfl
theorem Qxt (ops d o t p af r) (k : Fr → KS → Option β) (l) : Qel P D ops (⟨some d, o, t, p, af, none⟩ :: r) f K k l = Qcc P D o f K (fun v K' => Qi8 v (fun v => Qel P D ops r (up f d v) K' k ()) ()) () := _root_.id rfl
theorem Qtb (ops o t p af r) (k : Fr → KS → Option β) (l) : Qel P D ops (⟨none, o, t, p, af, none⟩ :: r) f K k l = Qcc P D o f K (fun v K' => Qel P D ops r f K' k ()) () := _root_.id rfl
theorem QxF (x l) : Qcc P D (.move x) f K k l = oop P D (.move x) f K k () := _root_.id rfl
theorem QrX (x l) : Qcc P D (.assign x) f K k l = oop P D (.assign x) f K k () := _root_.id rfl
theorem QwA (t x l) : Qcc P D (.load t x) f K k l = oop P D (.load t x) f K k () := _root_.id rfl
theorem Qvl (t x y l) : Qcc P D (.store t x y) f K k l = oop P D (.store t x y) f K k () := _root_.id rfl
theorem QIr (t x i l) : Qcc P D (.fieldAddr t x i) f K k l = oop P D (.fieldAddr t x i) f K k () := _root_.id rfl
theorem QJE (t x i l) : Qcc P D (.indexAddr t x i) f K k l = oop P D (.indexAddr t x i) f K k () := _root_.id rfl
theorem QBc (x i l) : Qcc P D (.extract x i) f K k l = oop P D (.extract x i) f K k () := _root_.id rfl
theorem QBh (o t x y u l) : Qcc P D (.binOp o t x y u) f K k l = oop P D (.binOp o t x y u) f K k () := _root_.id rfl
theorem Qtl (t ps l) : Qcc P D (.build t ps) f K k l = oop P D (.build t ps) f K k () := _root_.id rfl
theorem QIb (o t x l) : Qcc P D (.unOp o t x) f K k l = oop P D (.unOp o t x) f K k () := _root_.id rfl
theorem Qw8 (c x y l) : Qcc P D (.pick c x y) f K k l = oop P D (.pick c x y) f K k () := _root_.id rfl
theorem Qtw (t l) : Qcc P D (.alloc t) f K k l = oop P D (.alloc t) f K k () := _root_.id rfl
theorem QAN (t x lo hi m l) : Qcc P D (.slice t x lo hi m) f K k l = oop P D (.slice t x lo hi m) f K k () := _root_.id rfl
theorem Qyi (t x i l) : Qcc P D (.index t x i) f K k l = oop P D (.index t x i) f K k () := _root_.id rfl
theorem QKq (b xs ts l) : Qcc P D (.call ⟨.builtin b, xs, ts⟩) f K k l = oop P D (.call ⟨.builtin b, xs, ts⟩) f K k () := _root_.id rfl
theorem QCW (s t x l) : Qcc P D (.convert s t x) f K k l = oop P D (.convert s t x) f K k () := _root_.id rfl
theorem Qy2 (t x l) : Qcc P D (.box t x) f K k l = oop P D (.box t x) f K k () := _root_.id rfl
def QsM (b c d e : Bool) (D : Orc) (g : FuncId) (K : KS) (vs : List AV) (k : AV → KS → Option β) (_ : Lk (vs, k)) : Option β := cond b (QmV K vs k ()) (cond c (Qk5 K vs k ()) (cond d (Qih D g K vs k ()) (cond e (Qga D g K vs k ()) (Qeq D g K vs k ()))))
theorem QwP (x xs ts l) : Qcc P D (.call ⟨.value x, List.toArray xs, ts⟩) f K k l = Qp6 (ev f x) (fun g caps => QsM (D.s g) (D.q g) (D.w g) (D.v g) D g K (xs.map (ev f) ++ caps) k ()) () := _root_.id rfl
theorem s_t (g c d e) (K : KS) (vs) (k : AV → KS → Option β) (l) : QsM true c d e D g K vs k l = QmV K vs k () := _root_.id rfl
theorem s_q (g d e) (K : KS) (vs) (k : AV → KS → Option β) (l) : QsM false true d e D g K vs k l = Qk5 K vs k () := _root_.id rfl
theorem s_f (g) (K : KS) (vs) (k : AV → KS → Option β) (l) : QsM false false false false D g K vs k l = Qeq D g K vs k () := _root_.id rfl
theorem s_w (g e) (K : KS) (vs) (k : AV → KS → Option β) (l) : QsM false false true e D g K vs k l = QjQ D g K (Qdh vs) vs k () := _root_.id rfl
theorem w_j (g) (K : KS) (js vs) (k : AV → KS → Option β) (l) : QjQ D g K js vs k l = Q8 (ndB js) (QjT D g K js (Qb8 js vs) k ()) () := _root_.id rfl
theorem w_s (g) (K : KS) (js cs) (k : AV → KS → Option β) (l) : QjT D g K js (some cs) k l = Q8 (Qje (Ji K js)) (Xi (D.a g (Ji K js) cs) (fun r => k r.1 (Jf K js r.2)) ()) () := _root_.id rfl
theorem s_v (g) (K : KS) (vs) (k : AV → KS → Option β) (l) : QsM false false false true D g K vs k l = QjS D g K (Qdh vs) vs k () := _root_.id rfl
theorem v_j (g) (K : KS) (js vs) (k : AV → KS → Option β) (l) : QjS D g K js vs k l = Q8 (ndB js) (QjI D g K js (Qb8 js vs) k ()) () := _root_.id rfl
theorem v_s (g) (K : KS) (js cs) (k : AV → KS → Option β) (l) : QjI D g K js (some cs) k l = Q8 (Qje (Ji K js)) (Xi (D.m g (Ji K js) cs) (fun x => k (Vi K.length x).1 (Jf K js (ZH js) ++ (Vi K.length x).2)) ()) () := _root_.id rfl
theorem QEt : ZH [] = [] := _root_.id rfl
theorem QE3 (j js) : ZH (j :: js) = none :: ZH js := _root_.id rfl
theorem p_0 (vs) : Qml [] vs = vs := by cases vs <;> rfl
theorem p_e (ss) : Qml ss [] = [] := by cases ss <;> rfl
theorem p_s (s ss v vs) : Qml (s :: ss) (v :: vs) = QqB s v :: Qml ss vs := _root_.id rfl
theorem p_n (v) : QqB .n v = v := by cases v <;> rfl
theorem p_z (k v) : QqB (.z k) v = nic k v := by cases v <;> rfl
theorem p_a (ns cs) : QqB (.a ns) (.agg cs) = .agg (ni ns cs) := _root_.id rfl
theorem QN2 (cs) : ni [] cs = cs := by cases cs <;> rfl
theorem QQT (n ns c cs) : ni (n :: ns) (c :: cs) = nic n c :: ni ns cs := _root_.id rfl
theorem QNG (n) : nic (n + 1) .nil = .imm (n + 1) [] := _root_.id rfl
theorem QMy : nic 0 .nil = .nil := _root_.id rfl
theorem QRa (n c x) : nic n (.i c x) = .i c x := _root_.id rfl
theorem QNn (n x) : nic n (.b x) = .b x := _root_.id rfl
theorem QOS (n x) : nic n (.s x) = .s x := _root_.id rfl
theorem QMI (n m r) : nic n (.imm m r) = .imm m r := _root_.id rfl
theorem QNw : Qdh [] = [] := _root_.id rfl
theorem QNQ (c cs) : Qdh (c :: cs) = QlZ c ++ Qdh cs := _root_.id rfl
theorem QGI (j) : QlZ (.sl j) = [j] := _root_.id rfl
theorem QAk (cs) : QlZ (.agg cs) = Qdh cs := _root_.id rfl
theorem QKV (c n) : QlZ (.i c n) = [] := _root_.id rfl
theorem QLP (x) : QlZ (.b x) = [] := _root_.id rfl
theorem QFZ (x) : QlZ (.s x) = [] := _root_.id rfl
theorem QPC : QlZ .nil = [] := _root_.id rfl
theorem QLt (n r) : QlZ (.imm n r) = [] := _root_.id rfl
theorem QLm (g l) : QlZ (.clo g l) = [] := _root_.id rfl
theorem QP6 (js) : Qb8 js [] = some [] := _root_.id rfl
theorem QQ3 (js c cs) : Qb8 js (c :: cs) = (Qb3 js c).bind fun c' => (Qb8 js cs).map (c' :: ·) := _root_.id rfl
theorem QFz (js j) : Qb3 js (.sl j) = (Qbl js j).map .sl := _root_.id rfl
theorem QA8 (js cs) : Qb3 js (.agg cs) = (Qb8 js cs).map .agg := _root_.id rfl
theorem QRk (js c n) : Qb3 js (.i c n) = some (.i c n) := _root_.id rfl
theorem QPT (js x) : Qb3 js (.b x) = some (.b x) := _root_.id rfl
theorem QFY (js x) : Qb3 js (.s x) = some (.s x) := _root_.id rfl
theorem QKY (js) : Qb3 js .nil = some .nil := _root_.id rfl
theorem QPe (js n r) : Qb3 js (.imm n r) = some (.imm n r) := _root_.id rfl
theorem QQo (js g) : Qb3 js (.clo g []) = some (.clo g []) := _root_.id rfl
theorem QKW {α γ : Type} (x : α) (k : α → Option γ) : (some x).bind k = k x := _root_.id rfl
theorem Qh4 (x y : Nat) : Nat.beq x y = (x == y) := by rw [Bool.eq_iff_iff]; simp
theorem QPA (x l j) : Qbl (x :: l) j = sel (x == j) (some 0) ((Qbl l j).map (· + 1)) () := by rw [← Qh4]; rfl
theorem QPE (K) : Ji K [] = [] := _root_.id rfl
theorem QMG (K j js) : Ji K (j :: js) = kg K j :: Ji K js := _root_.id rfl
theorem QK4 (K es) : Jf K [] es = K := by cases es <;> rfl
theorem QRh (K j js e es) : Jf K (j :: js) (e :: es) = Jf (K.set j e) js es := _root_.id rfl
theorem QPU : Qje [] = true := _root_.id rfl
theorem QQt (n r K) : Qje (some (.lst n r) :: K) = Qje K := _root_.id rfl
theorem QLz (c n) : AV.scal (.i c n) = true := _root_.id rfl
theorem QMq (x) : AV.scal (.b x) = true := _root_.id rfl
theorem QNf (x) : AV.scal (.s x) = true := _root_.id rfl
theorem QPa (c n) : AV.flat (.i c n) = true := _root_.id rfl
theorem QQl (x) : AV.flat (.b x) = true := _root_.id rfl
theorem QOR (x) : AV.flat (.s x) = true := _root_.id rfl
theorem QL6 : AV.flat (.tup []) = true := _root_.id rfl
theorem QOu : Qt9 .one = true := _root_.id rfl
theorem w_p (x g j i o) (k : AV → KS → Option β) (l) : onp D f K (.ptr j i o) x g k l = onj D f K x g j i o (kg K j) k () := _root_.id rfl
theorem QRf (x g j i o q r) (k : AV → KS → Option β) (l) : onj D f K x g j i o (some (.lst q r)) k l = onx D f K x g j i o q r ((QF r i).drop o) k () := _root_.id rfl
theorem w_x (x g j i o q r m rs cs) (k : AV → KS → Option β) (l) : onx D f K x g j i o q r (.own m rs :: cs) k l = Q8 x.scal (Xi (D.a g [some (.lst m rs)] [.sl 0, x]) (fun s => onr D f K j i o q r s k ()) ()) () := _root_.id rfl
theorem QLX (u us ops d o t p af r) (k : Fr → KS → Option β) (l) : Qf9 P D ops (u :: us) (⟨some d, o, t, p, af, none⟩ :: r) f K k l = oop P D o f K (fun v K' => Qi8 v (fun v => Qf9 P D ops us r (up f d v) K' k ()) ()) () := _root_.id rfl
def Qx0 (d : Option Tmp) (v : AV) (f : Fr) (k : Fr → Option β) (_ : Lk (f, k)) : Option β := match d with
 | some d => Qi8 v (fun v => k (up f d v)) ()
 | none => k f
theorem QxV (d v f) (k : Fr → Option β) (l) : Qx0 (some d) v f k l = Qi8 v (fun v => k (up f d v)) () := _root_.id rfl
theorem QQB (ops d t p y1 p1 a1 e x y2 p2 a2 dst g d' e' ts y3 p3 a3 r) (k : Fr → KS → Option β) (l) : Qf9 P D ops [] (⟨some d, .load t p, y1, p1, a1, none⟩ :: ⟨some e, .move x, y2, p2, a2, none⟩ :: ⟨dst, .call ⟨.value (.func g), List.toArray [.tmp d', .tmp e'], ts⟩, y3, p3, a3, none⟩ :: r) f K k l =
  Q8 (Qt9 (tk P t) && ((d == d') && ((e == e') && !(d == e)))) (onp D f K (ev f p) (ev (up f d (.sl K.length)) x) g (fun v K' => Qx0 dst v (up (up f d (.sl K.length)) e (ev (up f d (.sl K.length)) x)) (fun f => Qel P D ops r f K' k ()) ()) ()) () := by rw [← Qh4, ← Qh4, ← Qh4]; cases dst <;> rfl
theorem QF0 (a b l) : oop P D (.makeInterface a b) f K k l = none := _root_.id rfl
theorem QCL (a l) : oop P D (.panic a) f K k l = none := _root_.id rfl
theorem QmK (t len ps l) : Qcc P D (.buildSlice t len ps) f K k l = oop P D (.buildSlice t len ps) f K k () := _root_.id rfl
def QqD (o : Option (List Int)) (K : KS) (j : Nat) (k : AV → KS → Option β) (_ : Lk k) : Option β := match o with
 | some xs => Q8 (decide (xs.length < 4611686018427387904)) (Vv (K.set j none ++ [some (.lst 1 ((XY xs).map cI))]) (fun K' => k (.sl K.length) K') ()) ()
 | none => none
def Qva (e : Option Ent) (K : KS) (j : Nat) (k : AV → KS → Option β) (_ : Lk k) : Option β := match e with
 | some (.lst 1 rows) => QqD (Qbo rows) K j k ()
 | _ => none
theorem QPs (K : KS) (j) (k : AV → KS → Option β) (l) : Qk5 K [.sl j] k l = Qva (kg K j) K j k () := _root_.id rfl
theorem QHT (r) (K : KS) (j) (k : AV → KS → Option β) (l) : Qva (some (.lst 1 r)) K j k l = QqD (Qbo r) K j k () := _root_.id rfl
theorem Qyy (xs) (K : KS) (j) (k : AV → KS → Option β) (l) : QqD (some xs) K j k l = Q8 (decide (xs.length < 4611686018427387904)) (Vv (K.set j none ++ [some (.lst 1 ((XY xs).map cI))]) (fun K' => k (.sl K.length) K') ()) () := _root_.id rfl
def QpY (o : Option (List Int)) (K : KS) (j : Nat) (k : AV → KS → Option β) (_ : Lk k) : Option β := match o with
 | some xs => Q8 (decide (xs.length < 4611686018427387904)) (Vv (K.set j (some (.lst 1 ((QaE xs).map cI)))) (fun K => k (.tup []) K) ()) ()
 | none => none
def Qut (e : Option Ent) (K : KS) (j : Nat) (k : AV → KS → Option β) (_ : Lk k) : Option β := match e with
 | some (.lst 1 rows) => QpY (Qbo rows) K j k ()
 | _ => none
theorem QM2 (K : KS) (j) (k : AV → KS → Option β) (l) : QmV K [.sl j] k l = Qut (kg K j) K j k () := _root_.id rfl
theorem QDq (r) (K : KS) (j) (k : AV → KS → Option β) (l) : Qut (some (.lst 1 r)) K j k l = QpY (Qbo r) K j k () := _root_.id rfl
theorem Qzl (xs) (K : KS) (j) (k : AV → KS → Option β) (l) : QpY (some xs) K j k l = Q8 (decide (xs.length < 4611686018427387904)) (Vv (K.set j (some (.lst 1 ((QaE xs).map cI)))) (fun K => k (.tup []) K) ()) () := _root_.id rfl
theorem Qqu : ∀ xs : List Int, Qbo (xs.map fun x => [.i .i64 x]) = some xs
 | [] => rfl
 | x :: xs => by rw [List.map_cons, Qbo, Qqu xs]; rfl
noncomputable def Quo (P : Program) (D : Orc) (a : Ann) (id : Nat) (ops : Array Oper) (o : Option (List Nat)) (Q : KT β) (f : Fr) (K : KS) (_ : Lk (ops, Q, f)) : Option β := Qlx P D a id ops (Qn7 ops o) Q f K ()
theorem Qvt (id ol l) : Vm P D a (.region id (List.toArray ol) true) Q f K l = ofz (lk a.fz id) f K (fun f K => Qg8 P D a id (lk a.av id) (List.toArray ol) Q f K ()) () := _root_.id rfl
theorem QBv (id ol l) : Qg8 P D a id none (List.toArray ol) Q f K l = Qpy P D a id (lk a.eb id) (List.toArray ol) Q f K () := _root_.id rfl
theorem QF9 (id vs ol l) : Qg8 P D a id (some vs) (List.toArray ol) Q f K l = Qoa vs P D a id (lk a.ot id) (List.toArray ol) Q f K () := _root_.id rfl
theorem QKt (id vs ol l) : Qoa vs P D a id none (List.toArray ol) Q f K l = QrH vs P D (List.toArray ol) (lk a.ord id) Q f K () := _root_.id rfl
theorem QGJ (id vs t ops l) : Qoa vs P D a id (some t) ops Q f K l = QaG vs P D ops t f K (fun f K => Q .normal f K) () := _root_.id rfl
theorem QBA (vs ol l) : QrH vs P D (List.toArray ol) none Q f K l = JU vs P D (List.toArray ol) ol f K (fun f K => Q .normal f K) () := _root_.id rfl
theorem QKa (id ops l) : Qpy P D a id none ops Q f K l = Qe2 P D a id ops (lk a.ot id) Q f K () := _root_.id rfl
noncomputable def Qx4 (P : Program) (D : Orc) (a : Ann) (id : Nat) (ol : List Oper) (Q : KT β) (f : Fr) (K : KS) (_ : Lk (Q, f)) : Option β := Qe2 P D a id (List.toArray ol) (lk a.ot id) Q f K ()
theorem QG6 (id ds ol l) : Qpy P D a id (some ds) (List.toArray ol) Q f K l = Qx4 P D a id (ol.map (VS ds)) Q f K () := by
 show Qe2 P D a id ((List.toArray ol).map (VS ds)) (lk a.ot id) Q f K () = Qe2 P D a id (List.toArray (ol.map (VS ds))) (lk a.ot id) Q f K ()
 rw [List.map_toArray]
theorem c_M (id o r l) : Qx4 P D a id (o :: r) Q f K l = Qe2 P D a id (List.toArray (o :: r)) (lk a.ot id) Q f K () := _root_.id rfl
theorem QJX (ds d t y p e g) : VS ds ⟨d, .buildSlice t 0 (List.toArray []), y, p, e, g⟩ = ⟨d, .move (.const (.slice none 0 0)), y, p, e, g⟩ := _root_.id rfl
theorem QFp (ds d t m ps y p e g) : VS ds ⟨d, .buildSlice t (m + 1) ps, y, p, e, g⟩ = ⟨d, .buildSlice t (m + 1) ps, y, p, e, g⟩ := _root_.id rfl
theorem QAM (ds d s x ts y p e g) : VS ds ⟨d, .call ⟨.builtin .append, List.toArray [.tmp s, x], ts⟩, y, p, e, g⟩ = cond (ds.contains s) ⟨d, .call ⟨.builtin .append, List.toArray [.const (.slice none 0 0), x], ts⟩, y, p, e, g⟩ ⟨d, .call ⟨.builtin .append, List.toArray [.tmp s, x], ts⟩, y, p, e, g⟩ := _root_.id rfl
theorem Qyz (ds d xs ts y p e g) : VS ds ⟨d, .call ⟨.builtin .len, xs, ts⟩, y, p, e, g⟩ = ⟨d, .call ⟨.builtin .len, xs, ts⟩, y, p, e, g⟩ := _root_.id rfl
theorem Qvz (ds d v xs ts y p e g) : VS ds ⟨d, .call ⟨.value v, xs, ts⟩, y, p, e, g⟩ = ⟨d, .call ⟨.value v, xs, ts⟩, y, p, e, g⟩ := _root_.id rfl
theorem QvD (ds d x y p e g) : VS ds ⟨d, .move x, y, p, e, g⟩ = ⟨d, .move x, y, p, e, g⟩ := _root_.id rfl
theorem QBk (ds d x y p e g) : VS ds ⟨d, .assign x, y, p, e, g⟩ = ⟨d, .assign x, y, p, e, g⟩ := _root_.id rfl
theorem QwB (ds d t x y p e g) : VS ds ⟨d, .load t x, y, p, e, g⟩ = ⟨d, .load t x, y, p, e, g⟩ := _root_.id rfl
theorem Qu8 (ds d t x z y p e g) : VS ds ⟨d, .store t x z, y, p, e, g⟩ = ⟨d, .store t x z, y, p, e, g⟩ := _root_.id rfl
theorem QIl (ds d t x i y p e g) : VS ds ⟨d, .fieldAddr t x i, y, p, e, g⟩ = ⟨d, .fieldAddr t x i, y, p, e, g⟩ := _root_.id rfl
theorem QCy (ds d t x i y p e g) : VS ds ⟨d, .indexAddr t x i, y, p, e, g⟩ = ⟨d, .indexAddr t x i, y, p, e, g⟩ := _root_.id rfl
theorem Qvk (ds d t ps y p e g) : VS ds ⟨d, .build t ps, y, p, e, g⟩ = ⟨d, .build t ps, y, p, e, g⟩ := _root_.id rfl
theorem Qzj (ds d o t x z u y p e g) : VS ds ⟨d, .binOp o t x z u, y, p, e, g⟩ = ⟨d, .binOp o t x z u, y, p, e, g⟩ := _root_.id rfl
theorem QGH (ds d o t x y p e g) : VS ds ⟨d, .unOp o t x, y, p, e, g⟩ = ⟨d, .unOp o t x, y, p, e, g⟩ := _root_.id rfl
theorem QyY (ds d x i y p e g) : VS ds ⟨d, .extract x i, y, p, e, g⟩ = ⟨d, .extract x i, y, p, e, g⟩ := _root_.id rfl
theorem Qyt (ds d t x y p e g) : VS ds ⟨d, .box t x, y, p, e, g⟩ = ⟨d, .box t x, y, p, e, g⟩ := _root_.id rfl
theorem Qtp (ds d t y p e g) : VS ds ⟨d, .alloc t, y, p, e, g⟩ = ⟨d, .alloc t, y, p, e, g⟩ := _root_.id rfl
theorem Qth (ds d t x lo hi mx y p e g) : VS ds ⟨d, .slice t x lo hi mx, y, p, e, g⟩ = ⟨d, .slice t x lo hi mx, y, p, e, g⟩ := _root_.id rfl
theorem Qu0 (id ol l) : Qe2 P D a id (List.toArray ol) none Q f K l = Quo P D a id (List.toArray ol) (lk a.ord id) Q f K () := _root_.id rfl
theorem Qun (id ops t l) : Qe2 P D a id ops (some t) Q f K l = QcK P D ops t f K (fun f K => Q .normal f K) () := _root_.id rfl
noncomputable def Qq0 (P : Program) (D : Orc) (ops : Array Oper) (o : Option Oper) (t : OT) (f : Fr) (K : KS) (k : Fr → KS → Option β) (_ : Lk (ops, f, k)) : Option β := match o with
 | some o => Qca P D ops [o] f K (fun f K => QcK P D ops t f K k ()) ()
 | none => none
theorem QtR (ops) (k : Fr → KS → Option β) (l) : QcK P D ops .done f K k l = k f K := _root_.id rfl
theorem QGq (ol i t) (k : Fr → KS → Option β) (l) : QcK P D (List.toArray ol) (.one i t) f K k l = Qq0 P D (List.toArray ol) (ol[i]?) t f K k () := by
 have : (List.toArray ol)[i]? = ol[i]? := by simp
 unfold QcK Qq0
 rw [this]
 cases ol[i]? <;> rfl
theorem QtK (ops o t) (k : Fr → KS → Option β) (l) : Qq0 P D ops (some o) t f K k l = Qca P D ops [o] f K (fun f K => QcK P D ops t f K k ()) () := _root_.id rfl
theorem QuW (vs ops) (k : Fr → KS → Option β) (l) : QaG vs P D ops .done f K k l = k f K := _root_.id rfl
noncomputable def Qnw (vs : List Nat) (P : Program) (D : Orc) (ops : Array Oper) (o : Option Oper) (t : OT) (f : Fr) (K : KS) (k : Fr → KS → Option β) (_ : Lk (ops, f, k)) : Option β := match o with
 | some o => JU vs P D ops [o] f K (fun f K => QaG vs P D ops t f K k ()) ()
 | none => none
theorem QxK (vs ol i t) (k : Fr → KS → Option β) (l) : QaG vs P D (List.toArray ol) (.one i t) f K k l = Qnw vs P D (List.toArray ol) (ol[i]?) t f K k () := by
 have : (List.toArray ol)[i]? = ol[i]? := by simp
 unfold QaG Qnw
 rw [this]
 cases ol[i]? <;> rfl
theorem QtX (vs ops o t) (k : Fr → KS → Option β) (l) : Qnw vs P D ops (some o) t f K k l = JU vs P D ops [o] f K (fun f K => QaG vs P D ops t f K k ()) () := _root_.id rfl
theorem Qyb (vs ops a b) (k : Fr → KS → Option β) (l) : QaG vs P D ops (.alt a b) f K k l = oeq (QaG vs P D ops a f K k ()) (QaG vs P D ops b f K k ()) := _root_.id rfl
theorem QKB (ops a b) (k : Fr → KS → Option β) (l) : QcK P D ops (.alt a b) f K k l = oeq (QcK P D ops a f K k ()) (QcK P D ops b f K k ()) := _root_.id rfl
theorem ZK (x : Option β) : oeq x x = x := by simp [oeq]
theorem Zf (p q : Bool) (x : Option β) (l l' : Unit) : Q8 p (Q8 q x l) l' = Q8 q (Q8 p x l) l' := by cases p <;> cases q <;> rfl
theorem Qys (id ol l) : Quo P D a id (List.toArray ol) none Q f K l = Qlx P D a id (List.toArray ol) ol Q f K () := _root_.id rfl
def pk : List Oper → List Nat → List Oper
 | _, [] => []
 | ol, i :: is => match ol[i]? with | some o => o :: pk ol is | none => pk ol is
noncomputable def QxM (P : Program) (D : Orc) (a : Ann) (id : Nat) (ops : Array Oper) (l : List Oper) (Q : KT β) (f : Fr) (K : KS) (_ : Lk (ops, Q, f)) : Option β := Qlx P D a id ops l Q f K ()
theorem QmG (ol is) : Qn7 (List.toArray ol) (some is) = pk ol is := by
 show is.filterMap (fun i => (List.toArray ol)[i]?) = _
 induction is with
 | nil => rfl
 | cons i is ih =>
  rw [pk, List.filterMap_cons]
  have : (List.toArray ol)[i]? = ol[i]? := by simp
  rw [this]
  cases ol[i]? with
  | none => simpa using ih
  | some o => rw [← ih]
theorem QAf (id ol is l) : Quo P D a id (List.toArray ol) (some is) Q f K l = QxM P D a id (List.toArray ol) (pk ol is) Q f K () := by
 show Qlx P D a id _ (Qn7 _ _) Q f K () = _
 rw [QmG]; rfl
noncomputable def Qye (vs : List Nat) (P : Program) (D : Orc) (ops : Array Oper) (l : List Oper) (Q : KT β) (f : Fr) (K : KS) (_ : Lk (ops, Q, f)) : Option β := JU vs P D ops l f K (fun f K => Q .normal f K) ()
theorem QOE (vs ol is l) : QrH vs P D (List.toArray ol) (some is) Q f K l = Qye vs P D (List.toArray ol) (pk ol is) Q f K () := by
 show JU vs P D _ (Qn7 _ _) f K _ () = _
 rw [QmG]; rfl
theorem c_K (vs ops o r l) : Qye vs P D ops (o :: r) Q f K l = JU vs P D ops (o :: r) f K (fun f K => Q .normal f K) () := _root_.id rfl
theorem QFR (ol) : pk ol [] = [] := _root_.id rfl
def pkO (o : Option Oper) (l : List Oper) : List Oper := match o with | some o => o :: l | none => l
theorem QGd (ol i is) : pk ol (i :: is) = pkO (ol[i]?) (pk ol is) := by rw [pk]; cases ol[i]? <;> rfl
theorem QBW (o l) : pkO (some o) l = o :: l := _root_.id rfl
theorem QA3 (id ops o r l) : QxM P D a id ops (o :: r) Q f K l = Qlx P D a id ops (o :: r) Q f K () := _root_.id rfl
theorem QIX {α : Type} (x : α) (l : List α) : (x :: l)[0]? = some x := _root_.id rfl
theorem QJj {α : Type} (x : α) (l : List α) (i : Nat) : (x :: l)[i + 1]? = l[i]? := _root_.id rfl
theorem QGT {α : Type} (l : List α) (i : Nat) : (List.toArray l)[i]? = l[i]? := by simp
theorem QrM {α γ : Type} (x : α) (g : α → Option γ) : (some x).bind g = g x := _root_.id rfl
noncomputable def QtB (P : Program) (D : Orc) (j : Option (Nat × Nat × Nat)) (ops : Array Oper) (l : List Oper) (Q : KT β) (f : Fr) (K : KS) (_ : Lk (l, Q, f)) : Option β :=
 match j with
 | none => Qca P D ops l f K (fun f K => Q .normal f K) ()
 | some (s, lo, hi) => QmF (Qca P D ops l f K (fun f _ => asB (f s)) ()) (fun c => Q .normal (up (Qsh lo hi f) s (.b c)) K) ()
theorem QIW (id ops ol l) : Qlx P D a id ops ol Q f K l = QtB P D (lk a.jn id) ops ol Q f K () := _root_.id rfl
theorem QtM (ops ol l) : QtB P D none ops ol Q f K l = Qca P D ops ol f K (fun f K => Q .normal f K) () := _root_.id rfl
theorem Qtn (s lo hi ops ol l) : QtB P D (some (s, lo, hi)) ops ol Q f K l = QmF (Qca P D ops ol f K (fun f _ => asB (f s)) ()) (fun c => Q .normal (up (Qsh lo hi f) s (.b c)) K) () := _root_.id rfl
theorem QvV (o) (k : Bool → Option β) (l) : QmF o k l = o.bind k := _root_.id rfl
theorem QH1 (b) (k : Bool → Option β) (l) : QmF (QiP b) k l = k b := _root_.id rfl
theorem Qv5 (b x y) : cond b (QiP x) (QiP y) = QiP (cond b x y) := by cases b <;> rfl
theorem QRl (b) : QiP b = some b := _root_.id rfl
theorem QB2 (a b : Bool) : cond a b false = (a && b) := by cases a <;> rfl
theorem QP1 (a b : Bool) : cond a true b = (a || b) := by cases a <;> rfl
theorem Qzz (a b : Bool) : cond a false b = (!a && b) := by cases a <;> rfl
theorem QIz (b) : asB (.b b) = QiP b := _root_.id rfl
def QxZ (D : Orc) (t : Nat) (z : List Nat) (la : Option LA) (Q : KT β) (f : Fr) (K : KS) (_ : Lk Q) : Option β :=
 match la with
 | some la => Qep z la.sl la.rg f K (fun f K => Xi (D.l t f K) (fun o => Q o.1 o.2.1 o.2.2) ()) ()
 | none => none
theorem QAW (c l) : Vm P D a (.loop c) Q f K l = QxZ D (tag c) a.ak (lk a.lp (tag c)) Q f K () := _root_.id rfl
theorem Qro (t z la l) : QxZ D t z (some la) Q f K l = Qep z la.sl la.rg f K (fun f K => Xi (D.l t f K) (fun o => Q o.1 o.2.1 o.2.2) ()) () := _root_.id rfl
theorem Qhu (id o d) : tag (.region id o d) = id := _root_.id rfl
theorem Qsu (x y) : tag (.seq x y) = tag x := _root_.id rfl
theorem Qqa (c x y) : tag (.cond c x y) = tag x := _root_.id rfl
theorem QoM (i x) : tag (.block i x) = tag x := _root_.id rfl
theorem Qp5 (x) : tag (.loop x) = tag x := _root_.id rfl
theorem Qs1 (k : Fr → KS → Option β) (Q f K) : QoO k Q .normal f K = k f K := _root_.id rfl
theorem QuP (k : Fr → KS → Option β) (Q f K) : QoO k Q .ret f K = Q .ret f K := _root_.id rfl
theorem Qu5 (k : Fr → KS → Option β) (Q id f K) : QoO k Q (.exit id) f K = Q (.exit id) f K := _root_.id rfl
theorem Qwl (i f K) : Qr5 i Q .normal f K = Q .normal f K := _root_.id rfl
theorem QvS (i f K) : Qr5 i Q .ret f K = Q .ret f K := _root_.id rfl
theorem QvQ (i j f K) : Qr5 i Q (.exit j) f K = sel (j == i) (Q .normal f K) (Q (.exit j) f K) () := _root_.id rfl
theorem QD6 (ops) (k : Fr → KS → Option β) (l) : Qca P D ops [] f K k l = k f K := _root_.id rfl
theorem QzT (ops r) (k : Fr → KS → Option β) (d op t pos after l) : Qca P D ops (⟨some d, op, t, pos, after, none⟩ :: r) f K k l = oop P D op f K (fun v K' => Qi8 v (fun v => Qca P D ops r (up f d v) K' k ()) ()) () := _root_.id rfl
theorem QvU (ops r) (k : Fr → KS → Option β) (op t pos after l) : Qca P D ops (⟨none, op, t, pos, after, none⟩ :: r) f K k l = oop P D op f K (fun v K' => Qca P D ops r f K' k ()) () := _root_.id rfl
theorem c_g (ops r) (k : Fr → KS → Option β) (d op t pos after j want l) : Qca P D ops (⟨some d, op, t, pos, after, some (j, want)⟩ :: r) f K k l =
  ogd ((ops[j]?).bind (·.dst)) want f (fun f => oop P D op f K (fun v K' => Qi8 v (fun v => Qca P D ops r (up f d v) K' k ()) ()) ()) (fun f => Qi8 (.tup []) (fun v => Qca P D ops r (up f d v) K k ()) ()) () := _root_.id rfl
theorem QOp (ops r) (k : Fr → KS → Option β) (op t pos after j want l) : Qca P D ops (⟨none, op, t, pos, after, some (j, want)⟩ :: r) f K k l =
  ogd ((ops[j]?).bind (·.dst)) want f (fun f => oop P D op f K (fun v K' => Qca P D ops r f K' k ()) ()) (fun f => Qca P D ops r f K k ()) () := _root_.id rfl
def Qxw (v : AV) (d : Nat) (want : Bool) (f : Fr) (yes no : Fr → Option β) (_ : Lk (f, yes, no)) : Option β :=
 match v with
 | .b x => cond x (cond want (yes (up f d (.b true))) (no (up f d (.b true)))) (cond want (no (up f d (.b false))) (yes (up f d (.b false))))
 | .tup [] => no f
 | _ => none
theorem QLq (d want) (yes no : Fr → Option β) (l) : ogd (some d) want f yes no l = Qxw (f d) d want f yes no () := by
 cases want <;> rfl
theorem QxP (b d) (yes no : Fr → Option β) (l) : Qxw (.b b) d true f yes no l = cond b (yes (up f d (.b true))) (no (up f d (.b false))) := _root_.id rfl
theorem QxN (b d) (yes no : Fr → Option β) (l) : Qxw (.b b) d false f yes no l = cond b (no (up f d (.b true))) (yes (up f d (.b false))) := _root_.id rfl
theorem Qx2 (d w) (yes no : Fr → Option β) (l) : Qxw (.tup []) d w f yes no l = no f := _root_.id rfl
theorem QyR (x l) : oop P D (.move x) f K k l = k (ev f x) K := _root_.id rfl
theorem QtL (x l) : oop P D (.assign x) f K k l = k (ev f x) K := _root_.id rfl
theorem QAE (c x y l) : oop P D (.pick c x y) f K k l = Qi1 (ev f c) (ev f x) (ev f y) (fun v => k v K) () := _root_.id rfl
theorem Qxp (t l) : oop P D (.alloc t) f K k l = Qk0 K (tzc P t) k () := _root_.id rfl
theorem QIP (t v l) : oop P D (.box t v) f K k l = QqX K (ev f v) k () := _root_.id rfl
theorem Qw6 (t ps l) : oop P D (.build t (List.toArray ps)) f K k l = Qh7 K (tbd P t) (ps.map fun p => (p.1, ev f p.2)) (fun v => k v K) () := _root_.id rfl
theorem Qt3 (t len ps l) : oop P D (.buildSlice t len (List.toArray ps)) f K k l = Qft (zB (Qdb P t)) (Qdb P t) K (tse P t) len (ps.map fun p => (p.1, ev f p.2)) k () := _root_.id rfl
theorem QBe (t x l) : oop P D (.load t x) f K k l = Qf7 (tk P t) (Xd K (ev f x)) (fun v => k v K) () := _root_.id rfl
theorem QwZ (t p v l) : oop P D (.store t p v) f K k l = QgX (flT P t) (slz P 9 t) K (tk P t) (ev f p) (ev f v) (fun K => k .u K) () := _root_.id rfl
theorem QCO (op t x y s l) : oop P D (.binOp op t x (.tmp y) s) f K k l = Zr (Qjz P t) op (ev f x) (ev f (.tmp y)) (fun v => k v K) () := _root_.id rfl
theorem Qzs (op t x c n s l) : oop P D (.binOp op t x (.const (.int c n)) s) f K k l = Zr (Qjz P t) op (ev f x) (ev f (.const (.int c n))) (fun v => k v K) () := _root_.id rfl
theorem QyM (op t x c s l) : oop P D (.binOp op t x (.const (.bool c)) s) f K k l = Zr (Qjz P t) op (ev f x) (ev f (.const (.bool c))) (fun v => k v K) () := _root_.id rfl
theorem QzW (op t x c s l) : oop P D (.binOp op t x (.const (.string c)) s) f K k l = Zr (Qjz P t) op (ev f x) (ev f (.const (.string c))) (fun v => k v K) () := _root_.id rfl
theorem Qzo (op t x s l) (h : Qdv P t = true) : oop P D (.binOp op t x (.const (.slice none 0 0)) s) f K k l = Qiz op (ev f x) (fun v => k v K) () := by simp [oop, QaH, h]
theorem QGC (g caps l) : oop P D (.makeFunc (.func g) (List.toArray []) (List.toArray caps)) f K k l = k (.clo g (caps.map (ev f))) K := by simp [oop]
theorem QGO (s t x l) (h : bsl P s = true) : oop P D (.convert s t x) f K k l = Qot K (ti P t) (ev f x) (fun v => k v K) () := by simp [oop, h]
theorem QFl (s t x l) (h : bsl P s = false) (h2 : tok P s = true) : oop P D (.convert s t x) f K k l = Qpt (ti P t) (ev f x) (fun v => k v K) () := by simp [oop, h, h2]
theorem QEi (t x lo hi l) : oop P D (.slice t x lo hi none) f K k l = QfX (ti P t) (ev f x) (lo.map (ev f)) (hi.map (ev f)) (fun v => k v K) () := _root_.id rfl
theorem QEQ (t x i l) : oop P D (.index t x i) f K k l = Qvc (ti P t) (ev f x) (ev f i) (fun v => k v K) () := _root_.id rfl
theorem QRe (op t x l) : oop P D (.unOp op t x) f K k l = oun op (ev f x) (fun v => k v K) () := _root_.id rfl
theorem QO4 (t x fl l) : oop P D (.fieldAddr t x fl) f K k l = QsY K (ev f x) (tfo P t fl) (fun v => k v K) () := _root_.id rfl
theorem QLN (t x i l) : oop P D (.indexAddr t x i) f K k l = Qpk K (ti P t) (ev f x) (ev f i) (fun v => k v K) () := _root_.id rfl
theorem QCB (x i l) : oop P D (.extract x i) f K k l = Qvd (ev f x) i (fun v => k v K) () := _root_.id rfl
theorem QBP (x t ts l) : oop P D (.call ⟨.builtin .len, List.toArray [x], List.toArray (t :: ts)⟩) f K k l = QoL K (ti P t) (ev f x) (fun v => k v K) () := _root_.id rfl
theorem QFq (x y ts l) : oop P D (.call ⟨.builtin .min, List.toArray [x, y], ts⟩) f K k l = Qvf (ev f x) (ev f y) (fun v => k v K) () := _root_.id rfl
theorem QEn (x y ts l) : oop P D (.call ⟨.builtin .max, List.toArray [x, y], ts⟩) f K k l = Qve (ev f x) (ev f y) (fun v => k v K) () := _root_.id rfl
theorem Qz4 (g args ts l) : oop P D (.call ⟨.value g, List.toArray args, ts⟩) f K k l = Qp6 (ev f g) (fun g caps => Qeq D g K (args.map (ev f) ++ caps) k ()) () := _root_.id rfl
theorem QH0 (g caps) (k : FuncId → List AV → Option β) (l) : Qp6 (.clo g caps) k l = k g caps := _root_.id rfl
theorem QvN (g vs l) : Qeq D g K vs k l = Xi (D.p g (Qml (D.z g) (Qb7 K vs))) (fun x => k (Vi K.length x).1 (K ++ (Vi K.length x).2)) () := _root_.id rfl
end
def QyF {β : Type} (o : Option Bool) (k : Bool → Option β) (_ : Lk k) : Option β := match o with | some b => k b | none => none
section
variable {β : Type} {k : AV → Option β} {c : IntKind} {a b : Int} {te : Option (List CK)}
theorem QHi (l) : Zr te .add (.i c a) (.i c b) k l = k (.i c (c.wrap (a + b))) := by simp [Zr]
theorem QD4 (l) : Zr te .sub (.i c a) (.i c b) k l = k (.i c (c.wrap (a - b))) := by simp [Zr]
theorem QDz (l) : Zr te .mul (.i c a) (.i c b) k l = k (.i c (c.wrap (a * b))) := by simp [Zr]
theorem QCJ (l) : Zr te .quo (.i c a) (.i c b) k l = Q8 (!decide (b = 0)) (k (.i c (c.wrap (a.tdiv b)))) () := by simp [Zr]
theorem QHI (l) : Zr te .rem (.i c a) (.i c b) k l = Q8 (!decide (b = 0)) (k (.i c (a.tmod b))) () := by simp [Zr]
theorem QC3 (l) : Zr te .eql (.i c a) (.i c b) k l = k (.b (decide (a = b))) := by simp [Zr]
theorem QJc (l) : Zr te .neq (.i c a) (.i c b) k l = k (.b (!decide (a = b))) := by simp [Zr]
theorem QGu (l) : Zr te .lss (.i c a) (.i c b) k l = k (.b (decide (a < b))) := by simp [Zr]
theorem QKd (l) : Zr te .leq (.i c a) (.i c b) k l = k (.b (decide (a ≤ b))) := by simp [Zr]
theorem QGn (l) : Zr te .gtr (.i c a) (.i c b) k l = k (.b (decide (b < a))) := by simp [Zr]
theorem QDU (l) : Zr te .geq (.i c a) (.i c b) k l = k (.b (decide (b ≤ a))) := by simp [Zr]
theorem QFi (ks xs ys l) : Zr (some ks) .eql (.agg xs) (.agg ys) k l = QyF (QK ks xs ys) (fun b => k (.b b)) () := _root_.id rfl
theorem QGg (ks xs ys l) : Zr (some ks) .neq (.agg xs) (.agg ys) k l = QyF (QK ks xs ys) (fun b => k (.b (!b))) () := _root_.id rfl
theorem QFf (x y l) : Zr (some [.t]) .eql (.b x) (.b y) k l = k (.b (decide (x = y))) := _root_.id rfl
theorem QDx (x y l) : Zr (some [.t]) .neq (.b x) (.b y) k l = k (.b (!decide (x = y))) := _root_.id rfl
theorem QF8 (b) (k : Bool → Option β) (l) : QyF (some b) k l = k b := _root_.id rfl
theorem QyW (x y l) : Zr te .add (.s x) (.s y) k l = Q8 (QIc x y) (k (.s (QFx x y))) () := by simp [Zr, QIc, QFx]
theorem QAZ (x y l) : Zr te .eql (.s x) (.s y) k l = k (.b (decide (x = y))) := by simp [Zr]
theorem QAo (x y l) : Zr te .neq (.s x) (.s y) k l = k (.b (!decide (x = y))) := by simp [Zr]
def QxW (o : Option AV) (k : AV → Option β) (_ : Lk k) : Option β := match o with | some c => k c | none => none
theorem QB9 (cs i l) : Qvd (.tup cs) i k l = QxW (cs[i]?) k () := _root_.id rfl
theorem QAJ (c l) : QxW (some c) k l = k c := _root_.id rfl
theorem QDR : QK [] [] [] = some true := _root_.id rfl
theorem QFu (ks c x y xs ys) : QK (.i :: ks) (.i c x :: xs) (.i c y :: ys) = (QK ks xs ys).map (decide (x = y) && ·) := by simp [QK]
theorem QHQ (ks x y xs ys) : QK (.b :: ks) (.b x :: xs) (.b y :: ys) = (QK ks xs ys).map (decide (x = y) && ·) := _root_.id rfl
theorem QHy (ks x y xs ys) : QK (.s :: ks) (.s x :: xs) (.s y :: ys) = (QK ks xs ys).map (decide (x = y) && ·) := _root_.id rfl
theorem QJF (x l) : oun .not (.b x) k l = k (.b (!x)) := _root_.id rfl
theorem QJK (l) : oun .neg (.i c a) k l = k (.i c (c.wrap (-a))) := _root_.id rfl
theorem QQy (x y : AV) (c : Bool) (l) : Qi1 (.b c) x y k l = cond c (k x) (k y) := _root_.id rfl
theorem QwY (x y : AV) (l) : Qi1 (.b true) x y k l = k x := _root_.id rfl
theorem Qw4 (x y : AV) (l) : Qi1 (.b false) x y k l = k y := _root_.id rfl
theorem QvP (x y : Bool) (c : Bool) (l) : Qi1 (.b c) (.b x) (.b y) k l = k (.b (cond c x y)) := by cases c <;> rfl
theorem QIp (l) : Qvf (.i c a) (.i c b) k l = k (.i c (if b < a then b else a)) := _root_.id rfl
theorem QC4 (l) : Qve (.i c a) (.i c b) k l = k (.i c (if a < b then b else a)) := _root_.id rfl
theorem QD7 (e : Option Ent) (K : KS) : kg (e :: K) 0 = e := _root_.id rfl
theorem QGF (e : Option Ent) (K : KS) (j : Nat) : kg (e :: K) (j + 1) = kg K j := _root_.id rfl
theorem Qyp {α : Type} (e e' : α) (K : List α) : (e :: K).set 0 e' = e' :: K := _root_.id rfl
theorem QAm {α : Type} (e e' : α) (K : List α) (j : Nat) : (e :: K).set (j + 1) e' = e :: K.set j e' := _root_.id rfl
theorem QJ4 {α : Type} (e : α) (K L : List α) : (e :: K) ++ L = e :: (K ++ L) := _root_.id rfl
theorem QAD {α : Type} (L : List α) : [] ++ L = L := _root_.id rfl
theorem QyX {α : Type} : ([] : List α).length = 0 := _root_.id rfl
theorem QAV {α : Type} (e : α) (K : List α) : (e :: K).length = K.length + 1 := _root_.id rfl
theorem Qwn {α : Type} (K : List α) : K.drop 0 = K := _root_.id rfl
theorem Qxr {α : Type} (e : α) (K : List α) (n : Nat) : (e :: K).drop (n + 1) = K.drop n := _root_.id rfl
theorem Qv7 {α : Type} (K : List α) : K.take 0 = [] := by simp
theorem Qwa {α : Type} (e : α) (K : List α) (n : Nat) : (e :: K).take (n + 1) = e :: K.take n := _root_.id rfl
def lnR (r : List (List AV)) : Int := r.length
theorem Qui (K e m n r l) : QoL K (.sl e m) (.imm n r) k l = k (.i .i64 (lnR r)) := _root_.id rfl
theorem QFK (n r) (k : AV → Option β) (l) : Qiz .eql (.imm n r) k l = Qjb r.isEmpty (k (.b true)) (k (.b false)) := _root_.id rfl
theorem QBd (n r) (k : AV → Option β) (l) : Qiz .neq (.imm n r) k l = Qjb r.isEmpty (k (.b false)) (k (.b true)) := _root_.id rfl
theorem QzU (x : Option β) (b) : Qjb b x x = x := by cases b <;> simp [Qjb, oeq]
theorem QAl (n : Nat) (R : List (List AV)) (b : Nat) (m) : Qjb R.isEmpty (some (AV.own n [])) (Q8 (decide (R.length * b ≤ 140737488355328)) (some (AV.own n R)) m) = Q8 (decide (R.length * b ≤ 140737488355328)) (some (AV.own n R)) () := by
 cases R with
 | nil => simp [Qjb, oeq, Q8]
 | cons r R => rfl
theorem Qvj (K e m l) : QoL K (.sl e m) .nil k l = k (.i .i64 0) := _root_.id rfl
def QxY (e : Option Ent) (k : AV → Option β) (_ : Lk k) : Option β := match e with | some e => k (.i .i64 (lnR e.rows)) | none => none
theorem QAQ (c d a l) : Qpt (.int c) (.i d a) k l = k (.i c (c.wrap a)) := _root_.id rfl
def QpR (o : Option (List UInt8)) (k : AV → Option β) (_ : Lk k) : Option β := match o with | some s => k (.s s) | none => none
def QtY (e : Option Ent) (k : AV → Option β) (_ : Lk k) : Option β := match e with | some (.lst 1 rows) => QpR (Qa3 rows) k () | _ => none
theorem QIC (K j l) : Qot K .str (.sl j) k l = QtY (kg K j) k () := _root_.id rfl
theorem Qy1 (r l) : QtY (some (.lst 1 r)) k l = QpR (Qa3 r) k () := _root_.id rfl
theorem QyS (s l) : QpR (some s) k l = k (.s s) := _root_.id rfl
theorem QyO : Qa3 [] = some [] := _root_.id rfl
theorem QwR (n r) : Qa3 ([.i .u8 n] :: r) = (Qa3 r).map (UInt8.ofNat n.toNat :: ·) := by
 show (match QnV [.i .u8 n], Qa3 r with | some x, some xs => some (x :: xs) | _, _ => none) = _
 simp only [QnV]
 cases Qa3 r <;> rfl
theorem Qwz (K e m j l) : QoL K (.sl e m) (.sl j) k l = QxY (kg K j) k () := _root_.id rfl
theorem Qtz (n r l) : QxY (some (.lst n r)) k l = k (.i .i64 (lnR r)) := _root_.id rfl
theorem Quu (K x l) : QoL K .str (.s x) k l = k (.i .i64 (ln x)) := _root_.id rfl
theorem Qzu (K n r i p o t l) : QsY K (.iptr n r i p) (some (o, t)) k l = k (.iptr n r i (p + o)) := _root_.id rfl
def QxR (e : Option Ent) (v : AV) (k : AV → Option β) (_ : Lk k) : Option β := match e with | some _ => k v | none => none
theorem QF5 (K j i p o t l) : QsY K (.ptr j i p) (some (o, t)) k l = QxR (kg K j) (.ptr j i (p + o)) k () := _root_.id rfl
theorem QAI (e v l) : QxR (some e) v k l = k v := _root_.id rfl
theorem QyQ (K e m r kd i l) : Qpk K (.sl e m) (.imm m r) (.i kd i) k l = Q8 (inb r i) (k (.iptr m r i.toNat 0)) () := by simp [Qpk]
def QuC (e : Option Ent) (m : Nat) (j : Nat) (i : Int) (k : AV → Option β) (_ : Lk k) : Option β := match e with | some e => if m = e.n then Q8 (inb e.rows i) (k (.ptr j i.toNat 0)) () else none | none => none
theorem QDA (K e m j kd i l) : Qpk K (.sl e m) (.sl j) (.i kd i) k l = QuC (kg K j) m j i k () := _root_.id rfl
theorem Qz1 (m r j i l) : QuC (some (.lst m r)) m j i k l = Q8 (inb r i) (k (.ptr j i.toNat 0)) () := by simp [QuC, Ent.n, Ent.rows]
def QxJ (e : Option Ent) (n : Nat) (i : Int) (p : AV) (k : AV → Option β) (_ : Lk k) : Option β := match e with | some _ => Q8 (QrZ n i) (k p) () | none => none
theorem Qyw (K e n m j r o kd i l) : Qpk K (.arr n e m) (.ptr j r o) (.i kd i) k l = QxJ (kg K j) n i (.ptr j r (o + i.toNat * m)) k () := _root_.id rfl
theorem QzQ (e n i p l) : QxJ (some e) n i p k l = Q8 (QrZ n i) (k p) () := _root_.id rfl
theorem QyT (e m r h c l) : QfX (.sl e m) (.imm m r) none (some (.i c h)) k l = Q8 (slB 0 h (lnR r)) (k (.imm m (cut r 0 h))) () := by simp [QfX, bd, lnR]
theorem Qzh (e m r h c l) : QfX (.sl e m) (.imm m r) (some (.i c h)) none k l = Q8 (slB h (lnR r) (lnR r)) (k (.imm m (cut r h (lnR r)))) () := by simp [QfX, bd, lnR]
theorem QAx (e m r h h' c c' l) : QfX (.sl e m) (.imm m r) (some (.i c h)) (some (.i c' h')) k l = Q8 (slB h h' (lnR r)) (k (.imm m (cut r h h'))) () := by simp [QfX, bd, lnR]
theorem Qy5 (r h c l) : QfX .str (.s r) none (some (.i c h)) k l = Q8 (slB 0 h (ln r)) (k (.s (cut r 0 h))) () := by simp [QfX, bd, ln]
theorem QAX (r h c l) : QfX .str (.s r) (some (.i c h)) none k l = Q8 (slB h (ln r) (ln r)) (k (.s (cut r h (ln r)))) () := by simp [QfX, bd, ln]
theorem Qzt (r h h' c c' l) : QfX .str (.s r) (some (.i c h)) (some (.i c' h')) k l = Q8 (slB h h' (ln r)) (k (.s (cut r h h'))) () := by simp [QfX, bd, ln]
theorem QDF (r i c l) : Qvc .str (.s r) (.i c i) k l = Q8 (inb r i) (k (.i .u8 ((gt r i).toNat : Int))) () := _root_.id rfl
class Strs (cs : List AV) (xs : outParam (List (List UInt8))) : Prop where
 eq : cs = xs.map AV.s
instance : Strs [] [] := ⟨rfl⟩
instance (x cs xs) [h : Strs cs xs] : Strs (.s x :: cs) (x :: xs) := ⟨by rw [h.eq]; rfl⟩
theorem QyZ {cs : List AV} {xs : List (List UInt8)} [h : Strs cs xs] (i : Int) (hi : QrZ cs.length i = true) (l) : Qf7 .one (cs.drop (0 + i.toNat * 1)) k l = k (.s (gt xs i)) := by
 have hcs := h.eq
 subst hcs
 simp [QrZ] at hi
 have h2 : i.toNat < xs.length := by omega
 rw [Nat.zero_add, Nat.mul_one, List.drop_eq_getElem_cons (by simpa using h2)]
 simp [Qf7, gt, List.getD_eq_getElem?_getD, h2]
theorem QRg (K n r i o) : Xd K (.iptr n r i o) = ((QF r i).drop o).map ld := _root_.id rfl
def QpZ (e : Option Ent) (i o : Nat) : List AV := match e with | some (.box cs) => if i = 0 then cs.drop o else [] | some (.lst _ rows) => ((QF rows i).drop o).map ld | none => []
theorem m_c (K j i o) : Xd K (.ptr j i o) = QpZ (kg K j) i o := _root_.id rfl
theorem Qzr (cs o) : QpZ (some (.box cs)) 0 o = cs.drop o := _root_.id rfl
theorem QzE (n r i o) : QpZ (some (.lst n r)) i o = ((QF r i).drop o).map ld := _root_.id rfl
theorem QA2 {α γ : Type} (g : α → γ) : [].map g = [] := _root_.id rfl
theorem QzI {α γ : Type} (g : α → γ) (x l) : (x :: l).map g = g x :: l.map g := _root_.id rfl
theorem QGj (x) : ld (.b x) = .b x := _root_.id rfl
theorem QGm (c x) : ld (.i c x) = .i c x := _root_.id rfl
theorem QKD (x) : ld (.s x) = .s x := _root_.id rfl
theorem Qvw (n x) : ld (.imm n x) = .imm n x := _root_.id rfl
theorem Qvr : ld .nil = .nil := _root_.id rfl
theorem Qw9 (n x) : ld (.own n x) = .u := _root_.id rfl
theorem Qvv (c cs l) : Qf7 .one (c :: cs) k l = k c := _root_.id rfl
def Qtk (b : Bool) (v : AV) (k : AV → Option β) (_ : Lk k) : Option β := cond b (k v) none
theorem Qxd (m cs l) : Qf7 (.agg m) cs k l = Qtk (Nat.blt 0 m && Nat.ble m cs.length) (.agg (cs.take m)) k () :=
 QbJ (by simp only [Bool.and_eq_true, QjP, Qg5]) _ _
theorem Qxs (v l) : Qtk true v k l = k v := _root_.id rfl
theorem QvE (K cs) (k : AV → KS → Option β) (l) : Qk0 K (some cs) k l = Vv (K ++ [some (.box cs)]) (fun K' => k (.ptr K.length 0 0) K') () := _root_.id rfl
def okB (b : Bool) (x : Option β) (_ : Lk x) : Option β := cond b x none
theorem QLi (x : Option β) (l) : okB true x l = x := _root_.id rfl
theorem QzA (K cs) (k : AV → KS → Option β) (l) : QqX K (.agg cs) k l = okB (cs.all (JH K)) (Vv (K ++ [some (.box cs)]) (fun K' => k (.ptr K.length 0 0) K') ()) () := by
 simp only [QqX, okB]; cases cs.all (JH K) <;> rfl
theorem Qz7 (K c x) (k : AV → KS → Option β) (l) : QqX K (.i c x) k l = Vv (K ++ [some (.box [.i c x])]) (fun K' => k (.ptr K.length 0 0) K') () := _root_.id rfl
theorem Qyv {α : Type} (p : α → Bool) : [].all p = true := _root_.id rfl
theorem QAK {α : Type} (p : α → Bool) (x l) : (x :: l).all p = (p x && l.all p) := _root_.id rfl
theorem QJS (K x) : JH K (.b x) = true := _root_.id rfl
theorem QJb (K c x) : JH K (.i c x) = true := _root_.id rfl
theorem QDC (K x) : JH K (.s x) = true := _root_.id rfl
theorem QFw (K) : JH K .nil = true := _root_.id rfl
theorem Qwj (K n r) : JH K (.imm n r) = true := _root_.id rfl
theorem QwC (K n r) : JH K (.clo n r) = true := _root_.id rfl
theorem QyE (K j) : JH K (.sl j) = (kg K j).isSome := _root_.id rfl
theorem Qxf (K j i o) : JH K (.ptr j i o) = (kg K j).isSome := _root_.id rfl
theorem QLE {α : Type} (x : α) : (some x).isSome = true := _root_.id rfl
theorem QEC (x) : AV.closed (.b x) = true := _root_.id rfl
theorem QHr (c x) : AV.closed (.i c x) = true := _root_.id rfl
theorem QJ6 (x) : AV.closed (.s x) = true := _root_.id rfl
theorem QJ3 : AV.closed .nil = true := _root_.id rfl
theorem Qxj (n r) : AV.closed (.imm n r) = true := _root_.id rfl
theorem Qzp (x : Bool) : (false && x) = false := _root_.id rfl
theorem QIe (x : Bool) : (true && x) = x := _root_.id rfl
def Qfy (fl : Bool) (ns : List Nat) (K : KS) (e : Option Ent) (t : TK) (j i o : Nat) (v : AV) (k : KS → Option β) (_ : Lk k) : Option β :=
 match e with
  | some (.box cs) => if i = 0 then QfE cs o t v (JH K) (fun cs => Vv (K.set j (some (.box cs))) k ()) () else none
  | some (.lst n rows) => if (J0 v).all clq = true then (if i < rows.length then QfE (QF rows i) o t v AV.closed (fun r => Vv (K.set j (some (.lst n (rows.set i r)))) k ()) () else none) else if fl = false then QhU ns K t j i o n rows v k () else none
  | none => none
theorem Qwh (fl ns K t j i o v) (k : KS → Option β) (l) : QgX fl ns K t (.ptr j i o) v k l = Qfy fl ns K (kg K j) t j i o v k () := by
 show (match kg K j with | some (.lst n rows) => _ | _ => _) = _
 cases h : kg K j with
 | none => simp [Qfy, Qh2, h]
 | some e => cases e <;> simp [Qfy, Qh2, h]
theorem Qty (fl ns K cs t j o v) (k : KS → Option β) (l) : Qfy fl ns K (some (.box cs)) t j 0 o v k l = QfE cs o t v (JH K) (fun cs => Vv (K.set j (some (.box cs))) k ()) () := _root_.id rfl
def QjR (b fl : Bool) (ns : List Nat) (K : KS) (n : Nat) (r : List (List AV)) (t : TK) (j i o : Nat) (v : AV) (k : KS → Option β) (_ : Lk k) : Option β :=
 cond b (if i < r.length then QfE (QF r i) o t v AV.closed (fun r' => Vv (K.set j (some (.lst n (r.set i r')))) k ()) () else none) (if fl = false then QhU ns K t j i o n r v k () else none)
theorem QuO (fl ns K n r t j i o v) (k : KS → Option β) (l) : Qfy fl ns K (some (.lst n r)) t j i o v k l = QjR ((J0 v).all clq) fl ns K n r t j i o v k () := by
 simp only [Qfy, QjR]
 cases (J0 v).all clq <;> rfl
theorem QJI (ds) : J0 (.agg ds) = ds := _root_.id rfl
theorem QEH (c x) : J0 (.i c x) = [.i c x] := _root_.id rfl
theorem QJe (x) : J0 (.b x) = [.b x] := _root_.id rfl
theorem QI2 (x) : J0 (.s x) = [.s x] := _root_.id rfl
theorem QCv : J0 .nil = [.nil] := _root_.id rfl
theorem QJu (n r) : J0 (.imm n r) = [.imm n r] := _root_.id rfl
theorem QFv (j) : J0 (.sl j) = [.sl j] := _root_.id rfl
theorem Qzv (j) : clq (.sl j) = false := _root_.id rfl
theorem QJJ (x) : clq (.b x) = true := _root_.id rfl
theorem QG8 (c x) : clq (.i c x) = true := _root_.id rfl
theorem QFN (x) : clq (.s x) = true := _root_.id rfl
theorem QEN : clq .nil = false := _root_.id rfl
theorem QHB (n r) : clq (.imm n r) = true := _root_.id rfl
theorem QQX (cs) : nz [] cs = cs := by cases cs <;> rfl
theorem QMB (ns) : nz ns [] = [] := by cases ns <;> rfl
theorem QPF (n ns c cs) : nz (n :: ns) (c :: cs) = nzc n c :: nz ns cs := _root_.id rfl
theorem QNI (n x) : nzc n (.b x) = .b x := _root_.id rfl
theorem QKZ (n c x) : nzc n (.i c x) = .i c x := _root_.id rfl
theorem QM3 (n x) : nzc n (.s x) = .s x := _root_.id rfl
theorem QP3 (n) : nzc n .nil = .own n [] := _root_.id rfl
theorem QMQ (n m r) : nzc n (.own m r) = .own m r := _root_.id rfl
theorem QMj (n m r) : nzc n (.imm m r) = .imm m r := _root_.id rfl
theorem QQf (k v) : Qm7 (.z k) v = nzc k v := _root_.id rfl
theorem QOi (v) : Qm7 .n v = v := _root_.id rfl
theorem QLs (ns cs) : Qm7 (.a ns) (.agg cs) = .agg (nz ns cs) := _root_.id rfl
theorem QNe (v) : QlQ [] v = v := _root_.id rfl
theorem QM6 (s v) : QlQ [s] v = Qm7 s v := _root_.id rfl
theorem QNJ (s s' ss vs) : QlQ (s :: s' :: ss) (.tup vs) = .tup (Qo8 (s :: s' :: ss) vs) := _root_.id rfl
theorem QPM (s ss v vs) : Qo8 (s :: ss) (v :: vs) = Qm7 s v :: Qo8 ss vs := _root_.id rfl
theorem QHh (vs) : Qo8 [] vs = vs := _root_.id rfl
theorem QEK (m ds l) : Qn3 (.agg m) (.agg ds) l = (m == l) := _root_.id rfl
theorem QEb (j l) : Qn3 .one (.sl j) l = (l == 1) := _root_.id rfl
def Qrr (ns : List Nat) (K : KS) (a : Option (KS × List AV)) (t : TK) (j o n i : Nat) (r : List (List AV)) (v : AV) (k : KS → Option β) (_ : Lk k) : Option β :=
 match a with
  | some (K1, ds) => if (kg K1 j).isSome = true ∧ Qn3 t v ds.length = true ∧ o + ds.length ≤ (QF r i).length then Vv (K1.set j (some (.lst n (r.set i (putCells (QF r i) o (nz ns ds)))))) k () else none
  | none => none
theorem QNc (ns K K1 ds t j o n i r v) (k : KS → Option β) (l) : Qrr ns K (some (K1, ds)) t j o n i r v k l = okB ((kg K1 j).isSome && (Qn3 t v ds.length && Nat.ble (o + ds.length) (QF r i).length)) (Vv (K1.set j (some (.lst n (r.set i (putCells (QF r i) o (nz ns ds)))))) k ()) () :=
 QbJ (by simp only [Bool.and_eq_true, Qg5]) _ _
def Qmi (r : List (List AV)) (i : Nat) : Bool := Nat.blt i r.length
theorem w_n (D : Orc) (f : Fr) (K : KS) (j i o q r v m rs) (k : AV → KS → Option β) (l) : onr D f K j i o q r (v, [some (.lst m rs)]) k l = Q8 (Qmi r i) (Vv (K.set j (some (.lst q (r.set i (putCells (QF r i) o [.own m rs])))) ++ [none]) (fun K' => k v K') ()) () := _root_.id rfl
theorem QAO (x r) : Qmi (x :: r) 0 = true := by simp [Qmi, Nat.blt_eq]
theorem Qyu (x r i) : Qmi (x :: r) (i + 1) = Qmi r i := by
 unfold Qmi; rw [Bool.eq_iff_iff, Nat.blt_eq, Nat.blt_eq]; simp
theorem Qy6 (fl ns K n r t j i o v) (k : KS → Option β) (l) : QjR true fl ns K n r t j i o v k l = okB (Qmi r i) (QfE (QF r i) o t v AV.closed (fun r' => Vv (K.set j (some (.lst n (r.set i r')))) k ()) ()) () :=
 QbJ QjP _ _
theorem QBb (ns K n r t j i o v) (k : KS → Option β) (l) : QjR false false ns K n r t j i o v k l = okB (Qmi r i) (Qrr ns K (Vb K (J0 v)) t j o n i r v k ()) () :=
 QbJ QjP _ _
theorem QyH (cs o m ds ok) (k : List AV → Option β) (l) : QfE cs o (.agg m) (.agg ds) ok k l = okB ((m == ds.length) && (Nat.ble (o + m) cs.length && ds.all ok)) (k (putCells cs o ds)) () :=
 QbJ (by simp only [Bool.and_eq_true, beq_iff_eq, Qg5]) _ _
theorem Qsf (cs : List AV) (o : Nat) (v : AV) (ok : AV → Bool) (k : List AV → Option β) : (if o < cs.length ∧ ok v = true then k (cs.set o v) else none) = okB (Nat.blt o cs.length && ok v) (k (cs.set o v)) () :=
 QbJ (by simp only [Bool.and_eq_true, QjP]) _ _
theorem QzR (cs o x ok) (k : List AV → Option β) (l) : QfE cs o .one (.b x) ok k l = okB (Nat.blt o cs.length && ok (.b x)) (k (cs.set o (.b x))) () := Qsf ..
theorem Qyr (cs o c x ok) (k : List AV → Option β) (l) : QfE cs o .one (.i c x) ok k l = okB (Nat.blt o cs.length && ok (.i c x)) (k (cs.set o (.i c x))) () := Qsf ..
theorem QAU (cs o x ok) (k : List AV → Option β) (l) : QfE cs o .one (.s x) ok k l = okB (Nat.blt o cs.length && ok (.s x)) (k (cs.set o (.s x))) () := Qsf ..
theorem QzY (cs o ok) (k : List AV → Option β) (l) : QfE cs o .one .nil ok k l = okB (Nat.blt o cs.length && ok .nil) (k (cs.set o .nil)) () := Qsf ..
theorem QwJ (cs o j ok) (k : List AV → Option β) (l) : QfE cs o .one (.sl j) ok k l = okB (Nat.blt o cs.length && ok (.sl j)) (k (cs.set o (.sl j))) () := Qsf ..
theorem Qtc (cs o n r ok) (k : List AV → Option β) (l) : QfE cs o .one (.imm n r) ok k l = okB (Nat.blt o cs.length && ok (.imm n r)) (k (cs.set o (.imm n r))) () := Qsf ..
theorem QOQ (cs o ds) : putCells cs o ds = cs.take o ++ ds ++ cs.drop (o + ds.length) := _root_.id rfl
theorem QAa (P z rs f K) : QdT P z rs .normal f K = Xi (Qb4 f K P rs) (fun vs => Q8 ((QeA vs).flat && (Qje (tkl z K) && Nat.ble z.length K.length)) (some (QeA vs, tkl z K)) ()) () := _root_.id rfl
theorem Qym (P z rs f K) : QdT P z rs .ret f K = Xi (Qb4 f K P rs) (fun vs => Q8 ((QeA vs).flat && (Qje (tkl z K) && Nat.ble z.length K.length)) (some (QeA vs, tkl z K)) ()) () := _root_.id rfl
theorem QFU (K) : tkl [] K = [] := by cases K <;> rfl
theorem QEz (x z e K) : tkl (x :: z) (e :: K) = e :: tkl z K := _root_.id rfl
theorem QxD (P sh rs f K) : Qgj P sh rs .normal f K = Xi (Qb4 f K P rs) (fun vs => (QaP K (QeA vs)).map fun p => QlQ sh p.2) () := _root_.id rfl
theorem QxH (P sh rs f K) : Qgj P sh rs .ret f K = Xi (Qb4 f K P rs) (fun vs => (QaP K (QeA vs)).map fun p => QlQ sh p.2) () := _root_.id rfl
theorem QJN (f K P) : Qb4 f K P [] = some [] := _root_.id rfl
theorem QI3 (f K P t rs) : Qb4 f K P (.tmp t :: rs) = (Qb4 f K P rs).map (f t :: ·) := _root_.id rfl
theorem QyC (f K P x t rs) : Qb4 f K P (.cell x t :: rs) = Xi (Qf7 (tk P t) (Xd K (f x)) some ()) (fun v => (Qb4 f K P rs).map (v :: ·)) () := _root_.id rfl
theorem Qkb {α γ : Type} (g : α → γ) (x : α) : (some x).map g = some (g x) := _root_.id rfl
theorem Qqo {α γ : Type} (g : α → γ) : (none : Option α).map g = none := _root_.id rfl
theorem QEE (v) : QeA [v] = v := _root_.id rfl
theorem QGw (v w vs) : QeA (v :: w :: vs) = .tup (v :: w :: vs) := _root_.id rfl
theorem Qy8 : QeA [] = .tup [] := _root_.id rfl
theorem x_b (K x) : QaP K (.b x) = some (K, .b x) := _root_.id rfl
theorem x_i (K c x) : QaP K (.i c x) = some (K, .i c x) := _root_.id rfl
theorem x_s (K x) : QaP K (.s x) = some (K, .s x) := _root_.id rfl
theorem QKf (K) : QaP K .nil = some (K, .nil) := _root_.id rfl
theorem QBO (K n r) : QaP K (.imm n r) = none := by simp [QaP]
theorem QCG (K cs) : QaP K (.agg cs) = (Qdr K cs).map fun p => (p.1, .agg p.2) := by simp [QaP]
theorem QGh (K cs) : QaP K (.tup cs) = (Qdr K cs).map fun p => (p.1, .tup p.2) := by simp [QaP]
def Qx5 (K : KS) (e : Option Ent) (j : Nat) : Option (KS × AV) := match e with | some (.lst n rows) => if QO rows = true then some (K.set j none, .own n rows) else none | _ => none
theorem QOc (K j) : QaP K (.sl j) = Qx5 K (kg K j) j := by rw [QaP]; rfl
theorem QCR (K n r j) : Qx5 K (some (.lst n r)) j = cond (QO r) (some (K.set j none, .own n r)) none := QbJ Iff.rfl _ _
theorem Qzx (K) : Qdr K [] = some (K, []) := by simp [Qdr]
def Qp9 (e : Option (KS × AV)) (cs : List AV) : Option (KS × List AV) := match e with | some (K1, c') => (Qdr K1 cs).map fun p => (p.1, c' :: p.2) | none => none
theorem QvA (K c cs) : Qdr K (c :: cs) = Qp9 (QaP K c) cs := by rw [Qdr]; rfl
theorem QQF (K c cs) : Qp9 (some (K, c)) cs = (Qdr K cs).map fun p => (p.1, c :: p.2) := _root_.id rfl
theorem QOx (cs) : Qp9 none cs = none := _root_.id rfl
theorem Qza (z sl rg f K) (k : Fr → KS → Option β) (l) : Qep z sl rg f K k l = Vg rg f K [] (fun f K π => Q8 (ndB π) (onz z π (Vv (QuS K π) (fun K' => k (Qvx f π sl) K') ()) ()) ()) () := _root_.id rfl
theorem QDb (π) (q : Option β) (l) : onz [] π q l = q := _root_.id rfl
theorem QKs (x z π) (q : Option β) (l) : onz (x :: z) π q l = Q8 (pfx (x :: z) π) q () := _root_.id rfl
theorem QL1 (π) : pfx [] π = true := _root_.id rfl
theorem QNu (x z y π) : pfx (x :: z) (y :: π) = ((x == y) && pfx z π) := by rw [← Qh4]; rfl
theorem QOP (x : Nat) : ([] : List Nat).contains x = false := _root_.id rfl
theorem QMd (x y : Nat) (l : List Nat) : (y :: l).contains x = ((x == y) || l.contains x) := List.contains_cons
theorem QK0 (b : Bool) : (false || b) = b := by cases b <;> rfl
theorem QPl (b : Bool) : (true || b) = true := by cases b <;> rfl
theorem Qx6 (f K π) (k : Fr → KS → List Nat → Option β) (l) : Vg [] f K π k l = k f K π := _root_.id rfl
theorem n_r (i r f K π) (k : Fr → KS → List Nat → Option β) (l) : Vg (.r i :: r) f K π k l = Vg r f K (π ++ [i]) k () := _root_.id rfl
def Qk3 (v : AV) (t n : Nat) (r : List Pt) (f : Fr) (K : KS) (π : List Nat) (k : Fr → KS → List Nat → Option β) (_ : Lk (f, k)) : Option β := match v with
  | .sl j => Vg r f K (π ++ [j]) k ()
  | .ptr j _ _ => Vg r f K (π ++ [j]) k ()
  | .nil => Vg r (up f t (.sl K.length)) (K ++ [some (.lst n [])]) (π ++ [K.length]) k ()
  | _ => none
theorem n_s (t n r f K π) (k : Fr → KS → List Nat → Option β) (l) : Vg (.s t n :: r) f K π k l = Qk3 (f t) t n r f K π k () := by simp only [Vg, Qk3]; rfl
theorem QIT (j t n r f K π) (k : Fr → KS → List Nat → Option β) (l) : Qk3 (.sl j) t n r f K π k l = Vg r f K (π ++ [j]) k () := _root_.id rfl
theorem QAT (j i o t n r f K π) (k : Fr → KS → List Nat → Option β) (l) : Qk3 (.ptr j i o) t n r f K π k l = Vg r f K (π ++ [j]) k () := _root_.id rfl
theorem QyV (t n r f K π) (k : Fr → KS → List Nat → Option β) (l) : Qk3 .nil t n r f K π k l = Vg r (up f t (.sl K.length)) (K ++ [some (.lst n [])]) (π ++ [K.length]) k () := _root_.id rfl
def Qll (c : Option AV) (r : List Pt) (f : Fr) (K : KS) (π : List Nat) (k : Fr → KS → List Nat → Option β) (_ : Lk (f, k)) : Option β := match c with
  | some (.sl i) => Vg r f K (π ++ [i]) k ()
  | some (.ptr i _ _) => Vg r f K (π ++ [i]) k ()
  | _ => none
def QnQ (e : Option Ent) (o : Nat) (r : List Pt) (f : Fr) (K : KS) (π : List Nat) (k : Fr → KS → List Nat → Option β) (_ : Lk (f, k)) : Option β := match e with
  | some (.box cs) => Qll (cs[o]?) r f K π k ()
  | _ => none
def QqW (q : Option Nat) (o : Nat) (r : List Pt) (f : Fr) (K : KS) (π : List Nat) (k : Fr → KS → List Nat → Option β) (_ : Lk (f, k)) : Option β := match q with
  | some j => QnQ (kg K j) o r f K π k ()
  | none => none
theorem n_c (q o n r f K π) (k : Fr → KS → List Nat → Option β) (l) : Vg (.c q o n :: r) f K π k l = QqW (π[q]?) o r f K π k () := by
 simp only [Vg, QqW, QnQ, Qll]
 cases π[q]? with
 | none => rfl
 | some j =>
  simp only
  cases kg K j with
  | none => rfl
  | some e =>
   cases e with
   | box cs =>
    simp only
    cases cs[o]? with
    | none => rfl
    | some c => cases c <;> rfl
   | lst _ _ => rfl
theorem QDf (j o r f K π) (k : Fr → KS → List Nat → Option β) (l) : QqW (some j) o r f K π k l = QnQ (kg K j) o r f K π k () := _root_.id rfl
theorem QKj (cs o r f K π) (k : Fr → KS → List Nat → Option β) (l) : QnQ (some (.box cs)) o r f K π k l = Qll (cs[o]?) r f K π k () := _root_.id rfl
theorem QFX (i r f K π) (k : Fr → KS → List Nat → Option β) (l) : Qll (some (.sl i)) r f K π k l = Vg r f K (π ++ [i]) k () := _root_.id rfl
theorem QIf (i a b r f K π) (k : Fr → KS → List Nat → Option β) (l) : Qll (some (.ptr i a b)) r f K π k l = Vg r f K (π ++ [i]) k () := _root_.id rfl
def Qlg (c : Option AV) (cs : List AV) (t o n : Nat) (r : List Pt) (f : Fr) (K : KS) (π : List Nat) (k : Fr → KS → List Nat → Option β) (_ : Lk (f, k)) : Option β := match c with
  | some (.sl j) => Vg r f K (π ++ [j]) k ()
  | some .nil => Vg r (up f t (.agg (cs.set o (.sl K.length)))) (K ++ [some (.lst n [])]) (π ++ [K.length]) k ()
  | _ => none
def Qqk (v : AV) (t o n : Nat) (r : List Pt) (f : Fr) (K : KS) (π : List Nat) (k : Fr → KS → List Nat → Option β) (_ : Lk (f, k)) : Option β := match v with
  | .agg cs => Qlg (cs[o]?) cs t o n r f K π k ()
  | _ => none
theorem n_g (t o n r f K π) (k : Fr → KS → List Nat → Option β) (l) : Vg (.g t o n :: r) f K π k l = Qqk (f t) t o n r f K π k () := by
 simp only [Vg, Qqk, Qlg]
 cases f t with
 | agg cs =>
  simp only
  cases cs[o]? with
  | none => rfl
  | some c => cases c <;> rfl
 | _ => rfl
theorem QHj (cs t o n r f K π) (k : Fr → KS → List Nat → Option β) (l) : Qqk (.agg cs) t o n r f K π k l = Qlg (cs[o]?) cs t o n r f K π k () := _root_.id rfl
theorem QHb (j cs t o n r f K π) (k : Fr → KS → List Nat → Option β) (l) : Qlg (some (.sl j)) cs t o n r f K π k l = Vg r f K (π ++ [j]) k () := _root_.id rfl
theorem QBw (cs t o n r f K π) (k : Fr → KS → List Nat → Option β) (l) : Qlg (some .nil) cs t o n r f K π k l = Vg r (up f t (.agg (cs.set o (.sl K.length)))) (K ++ [some (.lst n [])]) (π ++ [K.length]) k () := _root_.id rfl
theorem QIA : ndB [] = true := _root_.id rfl
theorem QET (x l) : ndB (x :: l) = (!l.contains x && ndB l) := _root_.id rfl
theorem QRm (K) : QuS K [] = [] := _root_.id rfl
def krn (K : KS) (π : List Nat) (l : List Nat) : KS := l.map fun j => (kg K j).map (Qgw π)
theorem QK6 (K π) : QuS K π = krn K π π := _root_.id rfl
theorem QAs (K π) : krn K π [] = [] := _root_.id rfl
theorem QBg (K π j l) : krn K π (j :: l) = (kg K j).map (Qgw π) :: krn K π l := _root_.id rfl
theorem QHL (π cs) : Qgw π (.box cs) = .box (Qde π cs) := _root_.id rfl
theorem QCX (π n r) : Qgw π (.lst n r) = .lst n r := _root_.id rfl
theorem QDH (π) : Qde π [] = [] := by simp [Qde]
theorem QGV (π c cs) : Qde π (c :: cs) = ren π c :: Qde π cs := by simp [Qde]
def slO : Option Nat → AV | some i => .sl i | none => .u
def QAA (i o : Nat) : Option Nat → AV | some j => .ptr j i o | none => .u
theorem QIt (i) : slO (some i) = .sl i := _root_.id rfl
theorem QDZ : slO none = .u := _root_.id rfl
theorem QAb (i o j) : QAA i o (some j) = .ptr j i o := _root_.id rfl
theorem QA9 (i o) : QAA i o none = .u := _root_.id rfl
theorem QA4 (π j) : ren π (.sl j) = slO (Qja π j) := by simp only [ren]; rfl
theorem QvJ (π j i o) : ren π (.ptr j i o) = QAA i o (Qja π j) := by simp only [ren]; rfl
theorem QvG (π cs) : ren π (.agg cs) = .agg (Qde π cs) := by simp [ren]
theorem QvT (π cs) : ren π (.tup cs) = .tup (Qde π cs) := by simp [ren]
theorem Qwt (π g cs) : ren π (.clo g cs) = .clo g (Qde π cs) := by simp [ren]
theorem Qzy (π x) : ren π (.b x) = .b x := by simp [ren]
theorem QCc (π c x) : ren π (.i c x) = .i c x := by simp [ren]
theorem QD1 (π x) : ren π (.s x) = .s x := by simp [ren]
theorem QCq (π) : ren π .nil = .nil := by simp [ren]
theorem QCz (π) : ren π .u = .u := by simp [ren]
theorem QwM (π n r) : ren π (.imm n r) = .imm n r := by simp [ren]
theorem QuV (π n r i o) : ren π (.iptr n r i o) = .iptr n r i o := by simp [ren]
theorem QyI (j) : Qja [] j = none := _root_.id rfl
theorem QzF (x l j) : Qja (x :: l) j = sel (x == j) (some 0) ((Qja l j).map (· + 1)) () := by
 rw [Qja]; exact QbJ (by simp) _ _
theorem Qy9 (f π l) : Qvx f π l = frm (frl f π l) := _root_.id rfl
theorem Qzq (f π) : frl f π [] = [] := _root_.id rfl
theorem QA1 (f π t l) : frl f π (t :: l) = (t, ren π (f t)) :: frl f π l := _root_.id rfl
theorem QLd (z la rt f K) : Qe9 z la rt .normal f K = Qep z la.sl la.rg f K (fun f K => some (.inl (f, K))) () := _root_.id rfl
theorem QNx (z la rt f K) : Qe9 z la rt .ret f K = Qep z rt.sl rt.rg f K (fun f K => some (.inr (.ret, f, K))) () := _root_.id rfl
theorem QQn (z la rt i f K) : Qe9 z la rt (.exit i) f K = Qep z la.xs la.xr f K (fun f K => some (.inr (.exit i, f, K))) () := _root_.id rfl
theorem QE7 (t x y) : QI t (.seq x y) = (QI t x).or (QI t y) := _root_.id rfl
theorem QA0 (t c x y) : QI t (.cond c x y) = (QI t x).or (QI t y) := _root_.id rfl
theorem Qwd (t i x) : QI t (.block i x) = QI t x := _root_.id rfl
theorem QAr (t x) : QI t (.loop x) = sel (tag x == t) (some x) (QI t x) () := _root_.id rfl
theorem Qvg (t i o d) : QI t (.region i o d) = none := _root_.id rfl
theorem QAF (t) : QI t .skip = none := _root_.id rfl
theorem QIL (t) : QI t .ret = none := _root_.id rfl
theorem Qy0 (t i) : QI t (.exit i) = none := _root_.id rfl
theorem Qx8 (x : Option Code) : (none : Option Code).or x = x := by cases x <;> rfl
theorem Qyd (x : Code) (y : Option Code) : (some x).or y = some x := _root_.id rfl
theorem l_0 (K) : Qb7 K [] = [] := by simp [Qb7]
theorem l_s (K c cs) : Qb7 K (c :: cs) = ZC K c :: Qb7 K cs := by simp [Qb7]
def QtT (e : Option Ent) : AV := match e with | some (.lst n rows) => .imm n (QB rows) | _ => .u
theorem QMF (K j) : ZC K (.sl j) = QtT (kg K j) := by simp only [ZC]; rfl
theorem QGx (n r) : QtT (some (.lst n r)) = .imm n (QB r) := _root_.id rfl
theorem QDO (K j) : QmC K j = QtT (kg K j) := _root_.id rfl
def QqQ (K : KS) (e : Option Ent) (i o : Nat) : AV := match e with
 | some (.lst n rows) => .iptr n (QB rows) i o
 | some (.box cs) => .iptr cs.length [cs.map (Qes K)] i o
 | none => .u
theorem QEs (K j i o) : ZC K (.ptr j i o) = QqQ K (kg K j) i o := by simp only [ZC]; rfl
theorem QAR (K cs i o) : QqQ K (some (.box cs)) i o = .iptr cs.length [cs.map (Qes K)] i o := _root_.id rfl
theorem QzV (K n r i o) : QqQ K (some (.lst n r)) i o = .iptr n (QB r) i o := _root_.id rfl
theorem QAg (K n r i o) : ZC K (.iptr n r i o) = .iptr n r i o := by simp [ZC]
theorem QDt (K j) : Qes K (.sl j) = QmC K j := _root_.id rfl
theorem QPn (K x) : Qes K (.b x) = .b x := _root_.id rfl
theorem QQZ (K c x) : Qes K (.i c x) = .i c x := _root_.id rfl
theorem QQL (K x) : Qes K (.s x) = .s x := _root_.id rfl
theorem QMc (K) : Qes K .nil = .nil := _root_.id rfl
theorem QK7 (K n r) : Qes K (.imm n r) = .imm n r := _root_.id rfl
theorem QyB (r : List AV) (rs) : QF (r :: rs) 0 = r := _root_.id rfl
theorem QKG (K cs) : ZC K (.agg cs) = .agg (Qb7 K cs) := by simp [ZC]
theorem QKI (K cs) : ZC K (.tup cs) = .tup (Qb7 K cs) := by simp [ZC]
theorem QFj (K g cs) : ZC K (.clo g cs) = .clo g (Qb7 K cs) := by simp [ZC]
theorem l_b (K x) : ZC K (.b x) = .b x := by simp [ZC]
theorem l_i (K c x) : ZC K (.i c x) = .i c x := by simp [ZC]
theorem QPJ (K x) : ZC K (.s x) = .s x := by simp [ZC]
theorem l_n (K) : ZC K .nil = .nil := by simp [ZC]
theorem QJg (K n r) : ZC K (.imm n r) = .imm n r := by simp [ZC]
theorem Qw0 : QB [] = [] := by simp [QB]
theorem QvB (r rs) : QB (r :: rs) = Vh r :: QB rs := by simp [QB]
theorem QyN : Vh [] = [] := by simp [Vh]
theorem Qyq (c cs) : Vh (c :: cs) = VF c :: Vh cs := by simp [Vh]
theorem QNC (x) : VF (.b x) = .b x := by simp [VF]
theorem QLj (c x) : VF (.i c x) = .i c x := by simp [VF]
theorem QQI (x) : VF (.s x) = .s x := by simp [VF]
theorem QQD : VF .nil = .nil := by simp [VF]
theorem QAp (n r) : VF (.imm n r) = .imm n r := by simp [VF]
theorem QAi (n r) : VF (.own n r) = .imm n (QB r) := by simp [VF]
theorem QBC (m n r) : Vi m (.own n r) = (.sl m, [some (.lst n r)]) := by simp [Vi]
theorem QJV (m cs) : Vi m (.agg cs) = (.agg (QaD m cs).1, (QaD m cs).2) := by simp [Vi]
theorem QJy (m cs) : Vi m (.tup cs) = (.tup (QaD m cs).1, (QaD m cs).2) := by simp [Vi]
theorem i_b (m x) : Vi m (.b x) = (.b x, []) := by simp [Vi]
theorem i_i (m c x) : Vi m (.i c x) = (.i c x, []) := by simp [Vi]
theorem QLF (m x) : Vi m (.s x) = (.s x, []) := by simp [Vi]
theorem i_n (m) : Vi m .nil = (.nil, []) := by simp [Vi]
theorem QP0 (m) : QaD m [] = ([], []) := by simp [QaD]
theorem QP7 (m c cs) : QaD m (c :: cs) = ((Vi m c).1 :: (QaD (m + (Vi m c).2.length) cs).1, (Vi m c).2 ++ (QaD (m + (Vi m c).2.length) cs).2) := by simp [QaD]
theorem QxL {α γ : Type} (x : α) (y : γ) : (x, y).1 = x := _root_.id rfl
theorem QKp {α γ : Type} (x : α) (y : γ) : (x, y).2 = y := _root_.id rfl
def Qm4 (e : Option (List AV)) (k : AV → Option β) (_ : Lk k) : Option β := match e with | some cs => k (.agg cs) | none => none
theorem QCf (K z p ps l) : Qh7 K (.st z p) ps k l = Qm4 (ZP K (p[·]?) z ps) k () := _root_.id rfl
theorem QzL (K z m ps l) : Qh7 K (.arr z m) ps k l = Qm4 (ZP K (fun i => some (i * m, m)) z ps) k () := _root_.id rfl
theorem QEA (cs l) : Qm4 (some cs) k l = k (.agg cs) := _root_.id rfl
def QxO (fl : Bool) (ns : List Nat) (e : Option (List AV)) (K : KS) (len m : Nat) (k : AV → KS → Option β) (_ : Lk k) : Option β := match e with
  | some cs => cond (yB fl cs) (match Vb K cs with
   | some (K1, cs) => Vv (K1 ++ [some (.lst m ((Z8 m len cs).map (nz ns)))]) (fun K' => k (.sl K.length) K') ()
   | none => none) none
  | none => none
theorem QQz (fl ns K e m z) (k : AV → KS → Option β) (l) : Qft fl ns K (some (e, m, z)) 0 [] k l = Vv (K ++ [some (.lst m [])]) (fun K' => k (.sl K.length) K') () := _root_.id rfl
theorem s_b (fl ns K e m z len ps) (k : AV → KS → Option β) (l) : Qft fl ns K (some (e, m, z)) (len + 1) ps k l = okB (Nat.ble ((len + 1) * m) 16777216) (QxO fl ns (ZP K (fun i => some (i * m, m)) (QcB (len + 1) z) ps) K (len + 1) m k ()) () :=
 QbJ Qg5 _ _
def Qx9 (ns : List Nat) (e : Option (KS × List AV)) (n len m : Nat) (k : AV → KS → Option β) (_ : Lk k) : Option β := match e with
   | some (K1, cs) => Vv (K1 ++ [some (.lst m ((Z8 m len cs).map (nz ns)))]) (fun K' => k (.sl n) K') ()
   | none => none
theorem QLv (fl ns K cs len m) (k : AV → KS → Option β) (l) : QxO fl ns (some cs) K len m k l = cond (yB fl cs) (Qx9 ns (Vb K cs) K.length len m k ()) none := _root_.id rfl
theorem QMi : zB [] = true := _root_.id rfl
theorem QMh (l : List Nat) : zB (0 :: l) = zB l := _root_.id rfl
theorem QLu (n : Nat) (l : List Nat) : zB ((n + 1) :: l) = false := _root_.id rfl
theorem QOY (cs) : yB false cs = true := _root_.id rfl
theorem QQU (cs) : yB true cs = noS cs := _root_.id rfl
theorem QOj : noS [] = true := _root_.id rfl
theorem QOh (c n l) : noS (.i c n :: l) = noS l := _root_.id rfl
theorem QOB (x l) : noS (.b x :: l) = noS l := _root_.id rfl
theorem QOq (x l) : noS (.s x :: l) = noS l := _root_.id rfl
theorem QLe (l) : noS (.nil :: l) = noS l := _root_.id rfl
theorem QOr (n r l) : noS (.imm n r :: l) = noS l := _root_.id rfl
theorem QMb (j l) : noS (.sl j :: l) = false := _root_.id rfl
theorem QNE (ns K1 cs n len m) (k : AV → KS → Option β) (l) : Qx9 ns (some (K1, cs)) n len m k l = Vv (K1 ++ [some (.lst m ((Z8 m len cs).map (nz ns)))]) (fun K' => k (.sl n) K') () := _root_.id rfl
theorem QLA (K p cs) : ZP K p cs [] = some cs := _root_.id rfl
def Qs5 (K : KS) (place : Nat → Option (Nat × Nat)) (cs : List AV) (p : Option (Nat × Nat)) (d : Option (List AV)) (rest : List (Nat × AV)) : Option (List AV) := match p, d with
  | some (o, m), some ds => if ds.length = m ∧ o + m ≤ cs.length then ZP K place (putCells cs o ds) rest else none
  | _, _ => none
theorem QN3 (K p cs i v r) : ZP K p cs ((i, v) :: r) = Qs5 K p cs (p i) (QbF K v) r := by simp only [ZP]; rfl
theorem QPu (K p cs o m ds r) : Qs5 K p cs (some (o, m)) (some ds) r = cond ((ds.length == m) && Nat.ble (o + m) cs.length) (ZP K p (putCells cs o ds) r) none :=
 QbJ (by simp only [Bool.and_eq_true, beq_iff_eq, Qg5]) _ _
theorem QOs (K cs) : QbF K (.agg cs) = some cs := _root_.id rfl
theorem QLy (K x) : QbF K (.b x) = some [.b x] := _root_.id rfl
theorem QMV (K c x) : QbF K (.i c x) = some [.i c x] := _root_.id rfl
theorem QPb (K x) : QbF K (.s x) = some [.s x] := _root_.id rfl
theorem QNL (K) : QbF K .nil = some [.nil] := _root_.id rfl
theorem QzX (K n r) : QbF K (.imm n r) = some [.imm n r] := _root_.id rfl
theorem QJn (K j) : QbF K (.sl j) = cond (kg K j).isSome (some [.sl j]) none := by
 show (if JH K (.sl j) = true then some [AV.sl j] else none) = _; exact QbJ Iff.rfl _ _
theorem QL3 (z) : QcB 0 z = [] := by simp [QcB]
theorem QMu (n z) : QcB (n + 1) z = z ++ QcB n z := by simp [QcB, List.replicate_succ]
theorem QCm (K) : Vb K [] = some (K, []) := _root_.id rfl
theorem QIK (K x cs) : Vb K (.b x :: cs) = (Vb K cs).map fun p => (p.1, .b x :: p.2) := by simp [Vb, AV.closed]
theorem QII (K c x cs) : Vb K (.i c x :: cs) = (Vb K cs).map fun p => (p.1, .i c x :: p.2) := by simp [Vb, AV.closed]
theorem QEU (K x cs) : Vb K (.s x :: cs) = (Vb K cs).map fun p => (p.1, .s x :: p.2) := by simp [Vb, AV.closed]
theorem QFy (K cs) : Vb K (.nil :: cs) = (Vb K cs).map fun p => (p.1, .nil :: p.2) := by simp [Vb, AV.closed]
theorem Qxo (K n r cs) : Vb K (.imm n r :: cs) = (Vb K cs).map fun p => (p.1, .imm n r :: p.2) := by simp [Vb, AV.closed]
def QEe (e : Option Ent) (K : KS) (j : Nat) (cs : List AV) : Option (KS × List AV) := match e with
  | some (.lst n rows) => (Vb (K.set j none) cs).map fun p => (p.1, .own n rows :: p.2)
  | _ => none
theorem QBi (K j cs) : Vb K (.sl j :: cs) = QEe (kg K j) K j cs := by simp only [Vb]; rfl
theorem QJh (K n r j cs) : QEe (some (.lst n r)) K j cs = (Vb (K.set j none) cs).map fun p => (p.1, .own n r :: p.2) := _root_.id rfl
theorem QCr (m cs) : Z8 m 0 cs = [] := _root_.id rfl
theorem QBB (m l cs) : Z8 m (l + 1) cs = cs.take m :: Z8 m l (cs.drop m) := _root_.id rfl
def Qrh (e : Option (List (List AV) × KS)) (n m b : Nat) (s : AV) (k : AV → KS → Option β) (_ : Lk k) : Option β := match e with
  | some (rows', K1) => match s with
   | .sl j => match kg K1 j with
    | some (.lst n' rows) => if n' = m then Q8 (decide ((rows.length + rows'.length) * (b + 1) ≤ 140737488355328)) (Vv (K1.set j none ++ [some (.lst m (rows ++ rows'))]) (fun K' => k (.sl n) K') ()) () else none
    | _ => none
   | .nil => Q8 (decide (rows'.length * (b + 1) ≤ 140737488355328)) (Vv (K1 ++ [some (.lst m rows')]) (fun K' => k (.sl n) K') ()) ()
   | _ => none
  | none => none
def Qup (e : Option Ent) (r : List (List AV)) (K1 : KS) (n m b j : Nat) (k : AV → KS → Option β) (_ : Lk k) : Option β := match e with
    | some (.lst n' rows) => if n' = m then Q8 (decide ((rows.length + r.length) * (b + 1) ≤ 140737488355328)) (Vv (K1.set j none ++ [some (.lst m (rows ++ r))]) (fun K' => k (.sl n) K') ()) () else none
    | _ => none
def QAd (K : KS) (t : Option (TypeId × Nat × List AV)) (bytes : Option Nat) (s x : AV) (k : AV → KS → Option β) (_ : Lk k) : Option β := QjM K t bytes s x k ()
def QxA (P : Program) (t : Option (TypeId × Nat × List AV)) : Option Nat := t.bind fun q => tb P q.1
theorem QEW {P : Program} {D : Orc} {f : Fr} {K : KS} (s x t tx ts) (k : AV → KS → Option β) (l) : oop P D (.call ⟨.builtin .append, List.toArray [s, x], List.toArray (t :: tx :: ts)⟩) f K k l = okB (Z7 P tx && !(QaH s && QdO (ev f x))) (QAd K (tse P t) (QxA P (tse P t)) (ev f s) (ev f x) k ()) () := by
 simp only [oop, okB, QAd, QxA]; cases Z7 P tx <;> cases (QaH s && QdO (ev f x)) <;> rfl
theorem QQw (d) : QaH (.tmp d) = false := _root_.id rfl
theorem QNh : QaH (.const (.slice none 0 0)) = true := _root_.id rfl
theorem QLC (n r) : QdO (.imm n r) = false := _root_.id rfl
theorem QQO : QdO .nil = false := _root_.id rfl
theorem QPH (j) : QdO (.sl j) = true := _root_.id rfl
def QuG (ns : List Nat) (K : KS) (t : Option (TypeId × Nat × List AV)) (bytes : Option Nat) (l c : AV) (k : AV → KS → Option β) (_ : Lk k) : Option β := Qrx ns K t bytes l c k ()
theorem QQQ {P : Program} {D : Orc} {f : Fr} {K : KS} (t x c) (k : AV → KS → Option β) (l) : oop P D (.makeSlice t x c) f K k l = QuG (Qdb P t) K (tse P t) (QxA P (tse P t)) (ev f x) (ev f c) k () := _root_.id rfl
theorem QDc (ns K e m z b i c) (k : AV → KS → Option β) (l) : QuG ns K (some (e, m, z)) (some (b + 1)) (.i .i64 i) (.i .i64 c) k l = Q8 (decide (i = c)) (Q8 (mkB i (b + 1)) (Vv (K ++ [some (.lst m (List.replicate i.toNat (nz ns z)))]) (fun K' => k (.sl K.length) K') ()) ()) () := _root_.id rfl
theorem QMx (i : Int) : (i = i) = True := by simp
theorem QCY (P e m z) : QxA P (some (e, m, z)) = tb P e := _root_.id rfl
theorem a_1 (K e m z b s x) (k : AV → KS → Option β) (l) : QAd K (some (e, m, z)) (some (b + 1)) s x k l = Qrh (QbZ K m x) K.length m b s k () := _root_.id rfl
theorem a_2 (r K1 n m b j) (k : AV → KS → Option β) (l) : Qrh (some (r, K1)) n m b (.sl j) k l = Qup (kg K1 j) r K1 n m b j k () := _root_.id rfl
theorem a_3 (r K1 n m b) (k : AV → KS → Option β) (l) : Qrh (some (r, K1)) n m b .nil k l = Q8 (rm r.length (b + 1)) (Vv (K1 ++ [some (.lst m r)]) (fun K' => k (.sl n) K') ()) () := by
 simp [Qrh, rm]
theorem a_4 (r' r K1 n m b j) (k : AV → KS → Option β) (l) : Qup (some (.lst m r')) r K1 n m b j k l = Q8 (rm (r'.length + r.length) (b + 1)) (Vv (K1.set j none ++ [some (.lst m (r' ++ r))]) (fun K' => k (.sl n) K') ()) () := by
 simp [Qup, rm]
theorem QPq (K m) : QbZ K m .nil = some ([], K) := _root_.id rfl
theorem QPk (K m r) : QbZ K m (.imm m r) = some (r, K) := by simp [QbZ]
def QzJ (e : Option Ent) (K : KS) (m k : Nat) : Option (List (List AV) × KS) := match e with
  | some (.lst n rows) => if n = m then some (rows, K.set k none) else none
  | _ => none
theorem QM9 (K m j) : QbZ K m (.sl j) = QzJ (kg K j) K m j := _root_.id rfl
theorem QK9 (K m j r) : QzJ (some (.lst m r)) K m j = some (r, K.set j none) := by simp [QzJ]
end
section
variable (T : Tld)
theorem QD0 (n h) : (orc T (n + 1) h).w = T.wt := _root_.id rfl
theorem QJl (n h g) : (orc T n h).z g = (lk T.pz g).getD [] := by cases n <;> rfl
theorem QDJ (n h) : (orc T (n + 1) h).v = T.vt := _root_.id rfl
theorem QCe (n h) : (orc T n h).m = CM T n := by cases n <;> rfl
theorem QHG (n h) : (orc T n h).a = CA T n := by cases n <;> rfl
theorem QFc (n h) : (orc T (n + 1) h).q = T.qt := _root_.id rfl
theorem QDP (n h) : (orc T (n + 1) h).s = T.st := _root_.id rfl
theorem QDa (n h) : (orc T n h).p = CP T n := by cases n <;> rfl
theorem QJM (n h) : (orc T n h).l = LP T n h := _root_.id rfl
noncomputable def cpF (T : Tld) (n g : Nat) (fn : Option Func) (a : Option Ann) (args : List AV) : Option AV := match a with
 | some a => match fn with
  | some f => cond (Nat.ble args.length f.ntmps) (Vm T.P (orc T n g) a (f.body.getD .skip) (Qgj T.P a.sh f.results.toList) (Vr args) [] ()) none
  | none => cond (Nat.ble args.length 0) (Vm T.P (orc T n g) a .skip (Qgj T.P a.sh []) (Vr args) [] ()) none
 | none => T.xt g args
noncomputable def caF (T : Tld) (n g : Nat) (fn : Option Func) (a : Option Ann) (K : KS) (args : List AV) : Option (AV × KS) := match a with
 | some a => match fn with
  | some f => cond (!a.ak.isEmpty && (Nat.beq K.length a.ak.length && Nat.ble args.length f.ntmps)) (Vm T.P (orc T n g) a (f.body.getD .skip) (QdT T.P a.ak f.results.toList) (Vr args) K ()) none
  | none => cond (!a.ak.isEmpty && (Nat.beq K.length a.ak.length && Nat.ble args.length 0)) (Vm T.P (orc T n g) a .skip (QdT T.P a.ak []) (Vr args) K ()) none
 | none => none
theorem QdK (n g K args) : CA T (n + 1) g K args = caF T n g (T.P.funcs[g]?) (T.at g) K args := by
 show (match T.at g with | some a => cond _ _ _ | none => none) = _
 unfold caF body Qi5 ntm
 cases T.at g with
 | none => rfl
 | some a => cases T.P.funcs[g]? <;> rfl
theorem QtF (n g K args a) (x1 x2 x3 x4 x5 x6 m) (rs : List ResultVar) (c x7 x8 x9 x10 x11 x12 x13) : caF T n g (some ⟨x1, x2, x3, x4, x5, x6, m, List.toArray rs, some c, x7, x8, x9, x10, x11, x12, x13⟩) (some a) K args = cond (!a.ak.isEmpty && ((K.length == a.ak.length) && Nat.ble args.length m)) (Vm T.P (orc T n g) a c (QdT T.P a.ak rs) (Vr args) K ()) none := by rw [← Qh4]; rfl
theorem QAP {α : Type} (x : α) (l : List α) : (x :: l).isEmpty = false := _root_.id rfl
theorem QNB : (!false) = true := _root_.id rfl
noncomputable def cmF (T : Tld) (n g : Nat) (fn : Option Func) (a : Option Ann) (K : KS) (args : List AV) : Option AV := match a with
 | some a => cond (Nat.ble args.length (match fn with | some f => f.ntmps | none => 0)) (Vm T.P (orc T n g) a (match fn with | some f => f.body.getD .skip | none => .skip) (Qgj T.P a.sh (match fn with | some f => f.results.toList | none => [])) (Vr args) K ()) none
 | none => T.mt g K args
theorem Qrs (n g K args) : CM T (n + 1) g K args = cmF T n g (T.P.funcs[g]?) (T.at g) K args := by
 show (match T.at g with | some a => _ | none => _) = _
 unfold cmF body Qi5 ntm
 cases T.at g with
 | none => rfl
 | some a => cases T.P.funcs[g]? <;> rfl
theorem QRs (n g K args) (h : T.at g = none) : CM T (n + 1) g K args = T.mt g K args := by rw [Qrs, h]; rfl
theorem Qu4 (n g K args a) (x1 x2 x3 x4 x5 x6 m) (rs : List ResultVar) (c x7 x8 x9 x10 x11 x12 x13) : cmF T n g (some ⟨x1, x2, x3, x4, x5, x6, m, List.toArray rs, some c, x7, x8, x9, x10, x11, x12, x13⟩) (some a) K args = cond (Nat.ble args.length m) (Vm T.P (orc T n g) a c (Qgj T.P a.sh rs) (Vr args) K ()) none := _root_.id rfl
theorem Qd (n g args) : CP T (n + 1) g args = cpF T n g (T.P.funcs[g]?) (T.at g) args := by
 show (match T.at g with | some a => cond _ _ _ | none => T.xt g args) = _
 unfold cpF body Qi5 ntm
 cases T.at g with
 | none => rfl
 | some a => cases T.P.funcs[g]? <;> rfl
theorem QQR (n g args) (h : T.at g = none) : CP T (n + 1) g args = T.xt g args := by rw [Qd, h]; rfl
theorem Qtf (n g args a) (x1 x2 x3 x4 x5 x6 m) (rs : List ResultVar) (c x7 x8 x9 x10 x11 x12 x13) : cpF T n g (some ⟨x1, x2, x3, x4, x5, x6, m, List.toArray rs, some c, x7, x8, x9, x10, x11, x12, x13⟩) (some a) args = cond (Nat.ble args.length m) (Vm T.P (orc T n g) a c (Qgj T.P a.sh rs) (Vr args) [] ()) none := _root_.id rfl
noncomputable def lpG (T : Tld) (n h : Nat) (a : Ann) (c : Option Code) (la : Option LA) (f : Fr) (K : KS) : Option (XE × Fr × KS) := match c, la with
    | some c, some la => run (fun s => Vm T.P (orc T n h) a c (Qe9 a.ak la a.rt) s.1 s.2 ()) (f, K)
    | _, _ => none
noncomputable def lpF (T : Tld) (n h t : Nat) (fn : Option Func) (a : Option Ann) (f : Fr) (K : KS) : Option (XE × Fr × KS) := match a with
 | some a => lpG T n h a (QI t (match fn with | some f => f.body.getD .skip | none => .skip)) (lk a.lp t) f K
 | none => none
theorem Qr (n h t f K) : LP T (n + 1) h t f K = lpF T n h t (T.P.funcs[h]?) (T.at h) f K := by
 show (match T.at h with | some a => _ | none => none) = _
 unfold lpF
 cases T.at h <;> rfl
theorem QuB (n h t a f K) (x1 x2 x3 x4 x5 x6 m rs c x7 x8 x9 x10 x11 x12 x13) : lpF T n h t (some ⟨x1, x2, x3, x4, x5, x6, m, rs, some c, x7, x8, x9, x10, x11, x12, x13⟩) (some a) f K = lpG T n h a (QI t c) (lk a.lp t) f K := _root_.id rfl
theorem Qj (n h a c la f K) : lpG T n h a (some c) (some la) f K = run (fun s => Vm T.P (orc T n h) a c (Qe9 a.ak la a.rt) s.1 s.2 ()) (f, K) := _root_.id rfl
theorem QRq (g) : T.at g = lk T.ann g := _root_.id rfl
theorem getD_some {α : Type} (x d : α) : (some x).getD d = x := _root_.id rfl
theorem Qh5 {α : Type} (d : α) : (none : Option α).getD d = d := _root_.id rfl
end
end Go.Proofs.YtcdffihcfeajfaaGreat.Am
namespace Go.Proofs.YtcdffihcfeajfaaGreat.Am
open Go
set_option linter.unusedVariables false
set_option linter.unusedSimpArgs false
section
variable {α β γ : Type} {c : α → List AV}
theorem QoE (xs : List α) (i) : inb (xs.map c) i = inb xs i := by simp [inb]
theorem QQj (xs : List α) : lnR (xs.map c) = ln xs := by simp [lnR, ln]
theorem QpM [Inhabited α] (xs : List α) (i : Int) (h : inb xs i = true) : QF (xs.map c) i.toNat = c (gt xs i) := by
 obtain ⟨h0, h1⟩ := QdY.1 h
 have h2 : i.toNat < xs.length := by omega
 simp [QF, gt, List.getD_eq_getElem?_getD, h2]
theorem QD5 (xs : List α) (i : Int) (h : inb xs i = true) : Qmi (xs.map c) i.toNat = true := by
 unfold Qmi
 obtain ⟨h0, h1⟩ := QdY.1 h
 rw [Nat.blt_eq]; simp; omega
theorem QRn (xs : List α) (i : Int) (x : α) : (xs.map c).set i.toNat (c x) = (xs.set i.toNat x).map c := by rw [List.map_set]
theorem QDB (xs : List α) (l h : Int) : cut (xs.map c) l h = (cut xs l h).map c := by simp [cut, List.map_take, List.map_drop]
theorem QME (xs : List α) (i : Int) (ys : List α) (b : Nat) : QsJ (xs.map c) i (ys.map c) b = QsJ xs i ys b := by simp [QsJ]
theorem QMp (xs : List α) (i : Int) (ys : List α) : QaV (xs.map c) i (ys.map c) = (QaV xs i ys).map c := by simp [QaV, List.map_take, List.map_drop]
theorem QRr (xs ys : List α) : xs.map c ++ ys.map c = (xs ++ ys).map c := by simp
theorem QGG (xs : List α) : (xs.map c).length = xs.length := by simp
theorem Qtu (xs : List α) (n : Nat) (x : α) (i : Int) : inb (xs.set n x) i = inb xs i := by simp [inb]
theorem Qxe [Inhabited α] (xs : List α) (x : α) (i : Int) (h : inb xs i = true) : gt (xs.set i.toNat x) i = x := by
 obtain ⟨h0, h1⟩ := QdY.1 h
 have h2 : i.toNat < xs.length := by omega
 simp [gt, List.getD_eq_getElem?_getD, h2]
theorem Qtq (xs : List α) (n : Nat) (x y : α) : (xs.set n x).set n y = xs.set n y := by simp
theorem Qst (o : Option α) (g : β → γ) (f : α → Option β) : (o.bind f).map g = o.bind fun x => (f x).map g := by cases o <;> rfl
theorem Qr1 (b : Bool) (o : Option β) (g : β → γ) (l) : (Q8 b o l).map g = Q8 b (o.map g) () := by cases b <;> rfl
theorem QsU (b : Bool) (x y : Option β) (g : β → γ) : (cond b x y).map g = cond b (x.map g) (y.map g) := by cases b <;> rfl
theorem Quk {ρ δ : Type} (p : ρ → Option β) (q : δ → Option β) (x) (g : β → γ) : (evO p q x).map g = evO (fun r => (p r).map g) (fun r => (q r).map g) x := by cases x <;> rfl
theorem Qpj (x : α) (f : α → Option β) : (some x).bind f = f x := _root_.id rfl
theorem QoK (o : Option α) (f : α → Option β) (g : β → Option γ) : (o.bind f).bind g = o.bind fun x => (f x).bind g := by cases o <;> rfl
theorem Qxv {α' β' : Type} (f : α → α') (g : β → β') (x) : Sum.map f g (.inl x) = .inl (f x) := _root_.id rfl
theorem Qw7 {α' β' : Type} (f : α → α') (g : β → β') (x) : Sum.map f g (.inr x) = .inr (g x) := _root_.id rfl
end
class EncR {α : Type} (c : α → List AV) (r : List AV) (x : outParam α) : Prop where
 eq : r = c x
class EncL {α : Type} (c : α → List AV) (R : List (List AV)) (xs : outParam (List α)) : Prop where
 eq : R = xs.map c
instance {α : Type} (c : α → List AV) (x : α) : EncR c (c x) x := ⟨rfl⟩
instance {α : Type} (c : α → List AV) (xs : List α) : EncL c (xs.map c) xs := ⟨rfl⟩
instance {α : Type} (c : α → List AV) : EncL c [] [] := ⟨rfl⟩
instance {α : Type} (c : α → List AV) (r R x xs) [h : EncR c r x] [H : EncL c R xs] : EncL c (r :: R) (x :: xs) := ⟨by rw [h.eq, H.eq]; rfl⟩
instance {α : Type} (c : α → List AV) (R S xs ys) [h : EncL c R xs] [H : EncL c S ys] : EncL c (R ++ S) (xs ++ ys) := ⟨by rw [h.eq, H.eq]; simp⟩
instance {α : Type} (c : α → List AV) (R xs) (i : Nat) (r x) [h : EncL c R xs] [H : EncR c r x] : EncL c (R.set i r) (xs.set i x) := ⟨by rw [h.eq, H.eq, List.map_set]⟩
instance {α : Type} (c : α → List AV) (n : Nat) (r x) [H : EncR c r x] : EncL c (List.replicate n r) (List.replicate n x) := ⟨by rw [H.eq, List.map_replicate]⟩
theorem Qzi {α : Type} {c : α → List AV} (xs : List α) (R) {ys} [h : EncL c R ys] : xs.map c ++ R = (xs ++ ys).map c := by rw [h.eq]; simp
theorem QAh {α : Type} {c : α → List AV} (xs : List α) (n : Nat) (R) {x} [h : EncR c R x] : (xs.map c).set n R = (xs.set n x).map c := by rw [h.eq, List.map_set]
theorem JX {α : Type} {c : α → List AV} (h : ∀ x, VX (c x) = true) (xs : List α) : QO (xs.map c) = true := by
 induction xs with
 | nil => simp [QO]
 | cons x xs ih => simp [QO, h, ih]
theorem QlP {α : Type} {c : α → List AV} (h : ∀ x, (c x).all AV.scal = true) (xs : List α) : Qab (xs.map c) = true := by
 induction xs with
 | nil => rfl
 | cons x xs ih => unfold Qab at ih ⊢; rw [List.map_cons, List.all_cons, h, ih]; rfl
theorem QaF {α : Type} {c c' : α → List AV} (h : ∀ x, Vh (c x) = c' x) (xs : List α) : QB (xs.map c) = xs.map c' := by
 induction xs with
 | nil => simp [QB]
 | cons x xs ih => simp [QB, h, ih]
theorem QAz {α : Type} {c : α → List AV} (xs : List α) (n b : Nat) (m) : Qjb (xs.map c).isEmpty (some (AV.own n [])) (Q8 (rm (0 + xs.length) b) (some (AV.own n (xs.map c))) m) = Q8 (rm (0 + xs.length) b) (some (AV.own n (xs.map c))) () := by
 cases xs with
 | nil => simp [Qjb, oeq, Q8, rm]
 | cons r R => rfl
set_option linter.defProp false
set_option maxRecDepth 100000
def evA := And.intro @QKt <| And.intro @QGJ <| And.intro @QuW <| And.intro @QxK <| And.intro @QtX <| And.intro @Qyb <| And.intro @QB6 <| And.intro @QEx <| And.intro @Qyg <| And.intro @Qv9 <| And.intro @QuU <| And.intro @QP9 <| And.intro @QEc <| And.intro @QLo <| And.intro @QBr <| And.intro @QvM <| And.intro @QC1 <| And.intro @QwQ <| And.intro @Qz9 <| And.intro @Qv8 <| And.intro @Qta <| And.intro @QFn <| And.intro @QE6 <| And.intro @QzZ <| And.intro @Qzf <| And.intro @QGE <| And.intro @Qxn <| And.intro @QtO <| And.intro @QGK <| And.intro @QtQ <| And.intro @Qyx <| And.intro @QzS <| And.intro @QBm <| And.intro @QFe <| And.intro @QBv <| And.intro @QF9 <| And.intro @QBA <| And.intro @Qtl <| And.intro @QmK <| And.intro @QIb <| And.intro @Qw8 <| And.intro @Qtw <| And.intro @QAN <| And.intro @Qyi <| And.intro @QKq <| And.intro @QCW <| And.intro @s_v <| And.intro @v_j <| And.intro @v_s <| And.intro @QEt <| And.intro @QE3 <| And.intro @Qu4 <| And.intro @QrM <| And.intro @n_c <| And.intro @QDf <| And.intro @QKj <| And.intro @QFX <| And.intro @QIf <| And.intro @n_g <| And.intro @QHj <| And.intro @QHb <| And.intro @QBw <| And.intro @QAt <| And.intro @QJT <| And.intro @QBj <| And.intro @QIQ <| And.intro @QAB <| And.intro @QwF <| And.intro @Quy <| And.intro @Qrw <| And.intro @Qrv <| And.intro @QrP <| And.intro @Qrf <| And.intro @QLX <| And.intro @QQB <| And.intro @QxV <| And.intro @QDb <| And.intro @QKs <| And.intro @QAa <| And.intro @Qym <| And.intro @QA5 <| And.intro @Qxt <| And.intro @Qtb <| And.intro @QxF <| And.intro @QrX <| And.intro @QwA <| And.intro @Qvl <| And.intro @QIr <| And.intro @QJE <| And.intro @QBc <| And.intro @QBh <| And.intro @Qy2 <|  And.intro @QwP <| And.intro @QmK <| And.intro @QF0 <| And.intro @QCL <| And.intro @Qvt <| And.intro @QKa <| And.intro @QG6 <| And.intro @Qu0 <| And.intro @Qun <| And.intro @QtR <| And.intro @QGq <| And.intro @QtK <| And.intro @QKB <| And.intro @QIW <|
 And.intro @QtM <| And.intro @Qtn <| And.intro @QAW <| And.intro @Qro <| And.intro @Qs1 <| And.intro @QuP <| And.intro @Qu5 <| And.intro @Qwl <| And.intro @QvS <| And.intro @QvQ <|
 And.intro @QD6 <| And.intro @QzT <| And.intro @QvU <| And.intro @c_g <| And.intro @QOp <| And.intro @QxP <| And.intro @QxN <| And.intro @Qx2 <|
 And.intro @Qhu <| And.intro @Qsu <| And.intro @Qqa <| And.intro @QoM <| And.intro @Qp5 <|
 And.intro @QyR <| And.intro @QtL <| And.intro @QAE <| And.intro @Qxp <| And.intro @QIP <| And.intro @Qw6 <| And.intro @Qt3 <| And.intro @QBe <| And.intro @QwZ <| And.intro @QCO <| And.intro @Qzs <| And.intro @QyM <| And.intro @QzW <| And.intro @Qzo <| And.intro @QGC <| And.intro @QGO <| And.intro @QFl <| And.intro @QEi <| And.intro @QEQ <| And.intro @QRe <|
 And.intro @QO4 <| And.intro @QLN <| And.intro @QCB <| And.intro @QBP <| And.intro @QFq <| And.intro @QEn <| And.intro @Qz4 <| And.intro @QvN <| And.intro @QEW <| And.intro @QQQ <|
 And.intro @QH8 <| And.intro @Qyh <| And.intro @Qr0 <| And.intro @QpU <| And.intro @Qqh <| And.intro @Qpc <| And.intro @Qpn <| And.intro @QuD <| And.intro @QqA <| And.intro @QsD <|
 And.intro @Qpf <| And.intro @Qon <| And.intro @JJ <| And.intro @QhV <| And.intro @Qk2 <| And.intro @QmO <|
 And.intro @QxD <| And.intro @QxH <| And.intro @Qza <| And.intro @Qx6 <| And.intro @n_r <| And.intro @n_s <| And.intro @QLd <| And.intro @QNx <| And.intro @QQn <|
 And.intro @QE7 <| And.intro @QA0 <| And.intro @Qwd <| And.intro @QAr <| And.intro @Qvg <| And.intro @QAF <| And.intro @QIL <| And.intro @Qy0 <| And.intro @Qx8 <| And.intro @Qyd <|
 And.intro @getD_some <| And.intro @Qh5 <| And.intro @Qtf <| And.intro @QtF <| And.intro @QuB @QxL
def evB := And.intro @Qnh <| And.intro @Qnj <| And.intro @QN1 <| And.intro @QQu <| And.intro @QLp <| And.intro @QQq <| And.intro @QPh <| And.intro @QQE <| And.intro @QMi <| And.intro @QMh <| And.intro @QLu <| And.intro @QOY <| And.intro @QQU <| And.intro @QOj <| And.intro @QOh <| And.intro @QOB <| And.intro @QOq <| And.intro @QLe <| And.intro @QOr <| And.intro @QMb <| And.intro @QKt <| And.intro @QGJ <| And.intro @QuW <| And.intro @QxK <| And.intro @QtX <| And.intro @Qyb <| And.intro @QB6 <| And.intro @QEx <| And.intro @QBv <| And.intro @QF9 <| And.intro @QBA <| And.intro @QOE <| And.intro @c_K <| And.intro @QBr <| And.intro @QBO <| And.intro @QOx <| And.intro @s_v <| And.intro @v_j <| And.intro @v_s <| And.intro @QEt <| And.intro @QE3 <| And.intro @Qu4 <| And.intro @p_0 <| And.intro @p_e <| And.intro @p_s <| And.intro @p_n <| And.intro @p_z <| And.intro @p_a <| And.intro @QN2 <| And.intro @QQT <| And.intro @QNG <| And.intro @QMy <| And.intro @QRa <| And.intro @QNn <| And.intro @QOS <| And.intro @QMI <| And.intro @QJl <| And.intro @Qk2 <| And.intro @QmO <| And.intro @Qh5 <| And.intro @getD_some <| And.intro @n_c <| And.intro @QDf <| And.intro @QKj <| And.intro @QFX <| And.intro @QIf <| And.intro @n_g <| And.intro @QHj <| And.intro @QHb <| And.intro @QBw <| And.intro @Qx6 <| And.intro @n_r <| And.intro @n_s <| And.intro @QvV <| And.intro @QwT <| And.intro @Qvo <| And.intro @Qpf <| And.intro @Qon <| And.intro @JJ <| And.intro @QhV <| And.intro @QtM <| And.intro @Qtn <| And.intro @Qro <| And.intro @QxP <| And.intro @QxN <| And.intro @Qx8 <| And.intro @Qyd <| And.intro @getD_some <| And.intro @Qh5 <| And.intro @Qu0 <| And.intro @Qun <| And.intro @QtK <| And.intro @QtR <| And.intro @ZK <| And.intro @QKa <| And.intro @QG6 <| And.intro @c_M <| And.intro @QQw <| And.intro @QNh <| And.intro @QLC <| And.intro @QQO <| And.intro @QPH <| And.intro @QJX <| And.intro @QFp <| And.intro @QAM <| And.intro @Qyz <| And.intro @Qvz <| And.intro @QvD <| And.intro @QBk <| And.intro @QwB <| And.intro @Qu8 <| And.intro @QIl <| And.intro @QCy <| And.intro @Qvk <| And.intro @Qzj <| And.intro @QGH <| And.intro @QyY <| And.intro @Qyt <| And.intro @Qtp <| And.intro @Qth <| And.intro @Qrw <| And.intro @Qrv <| And.intro @QDb <| And.intro @QKs <| And.intro @QL1 <| And.intro @QNu <| And.intro @QOP <| And.intro @QMd <| And.intro @QK0 <| And.intro @QPl <| And.intro @s_w <| And.intro @w_j <| And.intro @w_s <| And.intro @QNw <| And.intro @QNQ <| And.intro @QGI <| And.intro @QAk <| And.intro @QKV <| And.intro @QLP <| And.intro @QFZ <| And.intro @QPC <| And.intro @QLt <| And.intro @QP6 <| And.intro @QQ3 <| And.intro @QFz <| And.intro @QA8 <| And.intro @QRk <| And.intro @QPT <| And.intro @QFY <| And.intro @QKY <| And.intro @QPe <| And.intro @QQo <| And.intro @QLm <| And.intro @QPA <| And.intro @QPE <| And.intro @QMG <| And.intro @QK4 <| And.intro @QRh <| And.intro @QPU <| And.intro @QQt <| And.intro @QLz <| And.intro @QMq <| And.intro @QNf <| And.intro @QPa <| And.intro @QQl <| And.intro @QOR <| And.intro @QL6 <| And.intro @QOu <| And.intro @w_p <| And.intro @QRf <| And.intro @w_x <| And.intro @w_n <| And.intro @QxV <| And.intro @QFU <| And.intro @QEz <| And.intro @QtF <| And.intro @QAP <| And.intro @QNB <| And.intro @QrP <| And.intro @Qrf <| And.intro @s_t <| And.intro @s_q <| And.intro @s_f <| And.intro @QPs <| And.intro @QHT <| And.intro @Qyy <| And.intro @QM2 <| And.intro @QDq <| And.intro @Qzl <| And.intro @Qqu <| And.intro @Qys <| And.intro @QAf <| And.intro @QFR <| And.intro @QGd <| And.intro @QBW <| And.intro @QA3 <| And.intro @QIX <| And.intro @QJj <| And.intro @QGT <| And.intro @QrM <| And.intro @Qtf <| And.intro @QuB <| And.intro @Qk2 <| And.intro @Qhu <|
 And.intro @QFh <| And.intro @QEV <| And.intro @QOD <| And.intro @QK1 <| And.intro @QAO <| And.intro @Qyu <| And.intro @QyK <| And.intro @Qv0 <| And.intro @Qsg <| And.intro @QuT <| And.intro @Qs8 <| And.intro @QuF <| And.intro @Qpr <| And.intro @QB8 <| And.intro @QIz <| And.intro @QLq <| And.intro @QH0 <|
 And.intro @QHi <| And.intro @QD4 <| And.intro @QDz <| And.intro @QCJ <| And.intro @QHI <| And.intro @QC3 <| And.intro @QJc <| And.intro @QGu <| And.intro @QKd <| And.intro @QGn <| And.intro @QDU <| And.intro @QJF <| And.intro @QJK <|
 And.intro @QFi <| And.intro @QGg <| And.intro @QF8 <| And.intro @QFf <| And.intro @QDx <| And.intro @Qzp <| And.intro @QyW <| And.intro @QAZ <| And.intro @QAo <| And.intro @QB9 <| And.intro @QAJ <| And.intro @QDR <| And.intro @QFu <| And.intro @QHQ <| And.intro @QHy <| And.intro @Qyw <| And.intro @QzQ <| And.intro @QyT <| And.intro @Qzh <| And.intro @QAx <| And.intro @Qy5 <| And.intro @QAX <| And.intro @Qzt <| And.intro @QDF <| And.intro @QyZ <|
 And.intro @QvP <| And.intro @QwY <| And.intro @Qw4 <| And.intro @QH1 <| And.intro @Qv5 <| And.intro @QB2 <| And.intro @QP1 <| And.intro @Qzz <| And.intro @QnF <| And.intro @QIp <| And.intro @QC4 <|
 And.intro @QD7 <| And.intro @QGF <| And.intro @Qyp <| And.intro @QAm <| And.intro @QJ4 <| And.intro @QAD <| And.intro @QyX <| And.intro @QAV <| And.intro @Qwn <| And.intro @Qxr <| And.intro @Qv7 <| And.intro @Qwa <|
 And.intro @QAQ <| And.intro @QIC <| And.intro @Qy1 <| And.intro @QyS <| And.intro @QyO <| And.intro @QwR <| And.intro @QFK <| And.intro @QBd <| And.intro @QzU <| And.intro @QAl <| And.intro @Qui <| And.intro @Qvj <| And.intro @Qwz <| And.intro @Qtz <| And.intro @Quu <| And.intro @Qzu <| And.intro @QF5 <| And.intro @QAI <| And.intro @QyQ <| And.intro @QDA <| And.intro @Qz1 <|
 And.intro @QRg <| And.intro @m_c <| And.intro @Qzr <| And.intro @QzE <| And.intro @QA2 <| And.intro @QzI <| And.intro @QGj <| And.intro @QGm <| And.intro @QKD <| And.intro @Qvw <| And.intro @Qvr <| And.intro @Qw9 <|
 And.intro @Qvv <| And.intro @Qxd <| And.intro @Qxs <| And.intro @QvE <| And.intro @QLi <| And.intro @QzA <| And.intro @Qz7 <| And.intro @Qyv <| And.intro @QAK <|
 And.intro @QJS <| And.intro @QJb <| And.intro @QDC <| And.intro @QFw <| And.intro @Qwj <| And.intro @QwC <| And.intro @QyE <| And.intro @Qxf <| And.intro @QLE <| And.intro @QEC <| And.intro @QHr <| And.intro @QJ6 <| And.intro @QJ3 <| And.intro @Qxj <| And.intro @QIe <|
 And.intro @Qwh <| And.intro @Qty <| And.intro @QuO <| And.intro @Qy6 <| And.intro @QBb <| And.intro @QNc <| And.intro @QJI <| And.intro @QEH <| And.intro @QJe <| And.intro @QI2 <| And.intro @QCv <| And.intro @QJu <| And.intro @QFv <| And.intro @Qzv <| And.intro @QJJ <| And.intro @QG8 <| And.intro @QFN <| And.intro @QEN <| And.intro @QHB <| And.intro @QQX <| And.intro @QMB <| And.intro @QPF <| And.intro @QNI <| And.intro @QKZ <| And.intro @QM3 <| And.intro @QP3 <| And.intro @QMQ <| And.intro @QMj <| And.intro @QQf <| And.intro @QOi <| And.intro @QLs <| And.intro @QNe <| And.intro @QM6 <| And.intro @QNJ <| And.intro @QPM <| And.intro @QHh <| And.intro @QEK <| And.intro @QEb <| And.intro @QyH <| And.intro @QzR <| And.intro @Qyr <| And.intro @QAU <| And.intro @QzY <| And.intro @QwJ <| And.intro @Qtc <| And.intro @QOQ <|
 And.intro @QJN <| And.intro @QI3 <| And.intro @QyC <| And.intro @Qkb <| And.intro @Qqo <| And.intro @QEE <| And.intro @QGw <| And.intro @Qy8 <| And.intro @x_b <| And.intro @x_i <| And.intro @x_s <| And.intro @QKf <| And.intro @QCG <| And.intro @QGh <| And.intro @QOc <| And.intro @QCR <| And.intro @Qzx <| And.intro @QvA <| And.intro @QQF <|
 And.intro @QIT <| And.intro @QAT <| And.intro @QyV <| And.intro @QIA <| And.intro @QET <| And.intro @QK6 <| And.intro @QAs <| And.intro @QBg <| And.intro @QHL <| And.intro @QCX <| And.intro @QDH <| And.intro @QGV <| And.intro @QIt <| And.intro @QDZ <| And.intro @QAb <| And.intro @QA9 <|
 And.intro @QA4 <| And.intro @QvJ <| And.intro @QvG <| And.intro @QvT <| And.intro @Qwt <| And.intro @Qzy <| And.intro @QCc <| And.intro @QD1 <| And.intro @QCq <| And.intro @QCz <| And.intro @QwM <| And.intro @QuV <| And.intro @QyI <| And.intro @QzF <| And.intro @Qy9 <| And.intro @Qzq <| And.intro @QA1 <|
 And.intro @l_0 <| And.intro @l_s <| And.intro @QMF <| And.intro @QGx <| And.intro @QDO <| And.intro @QEs <| And.intro @QAR <| And.intro @QzV <| And.intro @QAg <| And.intro @QDt <| And.intro @QPn <| And.intro @QQZ <| And.intro @QQL <| And.intro @QMc <| And.intro @QK7 <| And.intro @QyB <| And.intro @QKG <| And.intro @QKI <| And.intro @QFj <| And.intro @l_b <| And.intro @l_i <| And.intro @QPJ <| And.intro @l_n <| And.intro @QJg <| And.intro @Qw0 <| And.intro @QvB <| And.intro @QyN <| And.intro @Qyq <| And.intro @QNC <| And.intro @QLj <| And.intro @QQI <| And.intro @QQD <| And.intro @QAp <| And.intro @QAi <|
 And.intro @QBC <| And.intro @QJV <| And.intro @QJy <| And.intro @i_b <| And.intro @i_i <| And.intro @QLF <| And.intro @i_n <| And.intro @QP0 <| And.intro @QP7 <| And.intro @QxL <| And.intro @QKp <|
 And.intro @QCf <| And.intro @QzL <| And.intro @QEA <| And.intro @QQz <| And.intro @s_b <| And.intro @QLv <| And.intro @QNE <| And.intro @QLA <| And.intro @QN3 <| And.intro @QPu <| And.intro @QOs <| And.intro @QLy <| And.intro @QMV <| And.intro @QPb <| And.intro @QNL <| And.intro @QzX <| And.intro @QJn <| And.intro @QL3 <| And.intro @QMu <|
 And.intro @QCm <| And.intro @QIK <| And.intro @QII <| And.intro @QEU <| And.intro @QFy <| And.intro @Qxo <| And.intro @QBi <| And.intro @QJh <| And.intro @QCr <| And.intro @QBB <|
 And.intro @QCY <| And.intro @QDc <| And.intro @QMx <| And.intro @Qx2 <| And.intro @a_1 <| And.intro @a_2 <| And.intro @a_3 <| And.intro @a_4 <| And.intro @QPq <| And.intro @QPk <| And.intro @QM9 @QK9
def evT := And.intro @QoE <| And.intro @QAz <| And.intro @QDB <| And.intro @QQj <| And.intro @QpM <| And.intro @QD5 <| And.intro @QAh <| And.intro @Qzi <| And.intro @QzC <| And.intro @QGG <| And.intro @Qtu <| And.intro @Qxe <| And.intro @Qtq <| And.intro @QtP <| And.intro @QCI <| And.intro @Qst <| And.intro @Qr1 <| And.intro @QsU <| And.intro @Qpj <| And.intro @Quk <| And.intro @QoK <| And.intro @Qxv @Qw7
def evN := And.intro @JJ <| And.intro @List.contains_nil <| And.intro @Bool.not_false <| And.intro @Bool.and_true <| And.intro @List.length_append <| And.intro @List.length_cons <| And.intro @List.length_nil <| And.intro @Nat.zero_add <| And.intro @Zf <| @ZK
end Go.Proofs.YtcdffihcfeajfaaGreat.Am
