import Derived.Test.YtcdffihcfeajfaaGreatEvA
namespace Go.Proofs.YtcdffihcfeajfaaGreat.Am
open Go
set_option linter.unusedVariables false
set_option linter.unusedSimpArgs false
section
variable {β : Type}
theorem QbX {α : Type} {p : Prop} [Decidable p] {b : Bool} (h : b = true ↔ p) (x y : α) : (if p then x else y) = cond b x y := by
 cases b with
 | true => rw [if_pos (h.1 rfl)]; rfl
 | false => rw [if_neg (fun hp => by have := h.2 hp; cases this)]; rfl
theorem QjH {m n : Nat} : Nat.blt m n = true ↔ m < n := by rw [Nat.blt_eq]
theorem Qg1 {m n : Nat} : Nat.ble m n = true ↔ m ≤ n := by rw [Nat.ble_eq]
def sel {α : Type} (b : Bool) (x y : α) (_ : Lk (x, y)) : α := cond b x y
theorem Qxs {α : Type} (x y : α) (l) : sel true x y l = x := _root_.id rfl
theorem QvW {α : Type} (x y : α) (l) : sel false x y l = y := _root_.id rfl
theorem QzR (v) (k : AV → Option β) (l) : Qjf v k l = k v := _root_.id rfl
theorem QwI (K) (k : KS → Option β) (l) : Vv K k l = k K := _root_.id rfl
theorem QED (f : Fr) (d : Nat) (v : AV) (t : Nat) : up f d v t = sel (d == t) v (f t) () := by
 unfold up sel
 by_cases h : t = d
 ·simp [h]
 ·have : (d == t) = false := by simp; exact fun h' => h h'.symm
  simp [h, this]
theorem QI2 (m n : Nat) : Nat.ble m n = decide (m ≤ n) := by rw [Bool.eq_iff_iff, Nat.ble_eq]; simp
theorem QCC (m n : Nat) : Nat.blt m n = decide (m < n) := by rw [Bool.eq_iff_iff, Nat.blt_eq]; simp
theorem QPV (h : Decidable True) : @decide True h = true := by simp
theorem QQn (h : Decidable False) : @decide False h = false := by simp
theorem Qzr (m n : Nat) (f : Fr) (t : Nat) : QsK m n f t = sel (Nat.ble m t && Nat.blt t n) .u (f t) () := _root_.id rfl
theorem QsI (t : Nat) : frm [] t = .u := _root_.id rfl
theorem QpY (d : Nat) (v : AV) (l : List (Nat × AV)) (t : Nat) : frm ((d, v) :: l) t = sel (d == t) v (frm l t) () := by
 show up (frm l) d v t = _; exact QED _ _ _ _
theorem QqP (t : Nat) : Vs [] t = .u := by simp [Vs]
theorem Qpd (v : AV) (l : List AV) : Vs (v :: l) 0 = v := _root_.id rfl
theorem QoG (v : AV) (l : List AV) (t : Nat) : Vs (v :: l) (t + 1) = Vs l t := _root_.id rfl
theorem Qti (f : Fr) (t : Tmp) : ev f (.tmp t) = f t := _root_.id rfl
theorem Qqk (f : Fr) (v : Value) : ev f (.const v) = cv v := _root_.id rfl
theorem Qst (f : Fr) (g : FuncId) : ev f (.func g) = .clo g [] := _root_.id rfl
theorem Qsd (b : Bool) : cv (.bool b) = .b b := _root_.id rfl
theorem Qtk (k : IntKind) (i : Int) : cv (.int k i) = .i k i := _root_.id rfl
theorem Qth (x : ByteArray) : cv (.string x) = .s x.data.toList := _root_.id rfl
theorem QtO : cv (.slice none 0 0) = .nil := _root_.id rfl
theorem QpG {α : Type} (x y : α) : cond true x y = x := _root_.id rfl
theorem Qpw {α : Type} (x y : α) : cond false x y = y := _root_.id rfl
theorem JE (q : Option β) (l) : Q8 true q l = q := _root_.id rfl
def VC {ρ δ γ : Type} (o : Option (Fl ρ δ)) (p : ρ → γ) (q : δ → γ) : Option γ := o.map (evO p q)
theorem QnS {ρ δ γ : Type} (o : Option (Fl ρ δ)) (p : ρ → γ) (q : δ → γ) (k : γ → Option β) (l) : Xg (VC o p q) k l = o.bind (evO (fun r => k (p r)) (fun r => k (q r))) := by
 cases o with
 | none => rfl
 | some o => cases o <;> rfl
theorem Qhr {α : Type} (x : α) (k : α → Option β) (l) : Xg (some x) k l = k x := _root_.id rfl
theorem QnW {α : Type} (k : α → Option β) (l) : Xg (none : Option α) k l = none := _root_.id rfl
theorem Qnk {α : Type} (b : Bool) (q : Option α) (k : α → Option β) (l) (l') : Xg (Q8 b q l') k l = Q8 b (Xg q k l) () := by cases b <;> rfl
theorem Qoo {α γ : Type} (o : Option γ) (e : γ → α) (k : α → Option β) (l) : Xg (o.map e) k l = o.bind (fun r => k (e r)) := by cases o <;> rfl
theorem QKI {α : Type} (o : Option α) (k : α → Option β) (l) : Xg o k l = o.bind k := _root_.id rfl
theorem Qlw {α : Type} (i) : lk ([] : List (Nat × α)) i = none := _root_.id rfl
theorem Qmz {α : Type} (i) (x : α) (l j) : lk ((i, x) :: l) j = sel (i == j) (some x) (lk l j) () := _root_.id rfl
end
section
variable {β : Type} {P : Program} {D : Orc} {a : Ann} {f : Fr} {K : KS} {Q : KT β} {k : AV → KS → Option β}
theorem QAV (l) : Vm P D a .skip Q f K l = Q .normal f K := _root_.id rfl
theorem QJt (l) : Vm P D a .ret Q f K l = Q .ret f K := _root_.id rfl
theorem Qyt (id l) : Vm P D a (.exit id) Q f K l = Q (.exit id) f K := _root_.id rfl
theorem QBL (x y l) : Vm P D a (.seq x y) Q f K l = Vm P D a x (Qpg (fun f K => Vm P D a y Q f K ()) Q) f K () := _root_.id rfl
def QB3 (v : AV) (x y : Option β) (_ : Lk (x, y)) : Option β := match v with | .b b => cond b x y | _ => none
theorem QAo (c x y l) : Vm P D a (.cond c x y) Q f K l = QB3 (ev f c) (Vm P D a x Q f K ()) (Vm P D a y Q f K ()) () := _root_.id rfl
theorem QJ2 (b) (x y : Option β) (l) : QB3 (.b b) x y l = cond b x y := _root_.id rfl
theorem Qwg (id c l) : Vm P D a (.block id c) Q f K l = Vm P D a c (QsR id Q) f K () := _root_.id rfl
theorem Qu4 (id ol l) : Vm P D a (.region id (List.toArray ol) false) Q f K l = ofz (lk a.fz id) f K (fun f K => QhZ P D a id (lk a.av id) (List.toArray ol) Q f K ()) () := _root_.id rfl
theorem QO0 (f : Fr) (K : KS) (k : Fr → KS → Option β) (l) : ofz none f K k l = k f K := _root_.id rfl
theorem QMy (f : Fr) (K : KS) (ss) (k : Fr → KS → Option β) (l) : ofz (some ss) f K k l = Qo8 ss f K k () := _root_.id rfl
theorem QN9 (f : Fr) (K : KS) (k : Fr → KS → Option β) (l) : Qo8 [] f K k l = k f K := _root_.id rfl
theorem QNd (f : Fr) (K : KS) (s ss) (k : Fr → KS → Option β) (l) : Qo8 (s :: ss) f K k l = Qxt s (f s) f K (fun f K => Qo8 ss f K k ()) () := _root_.id rfl
theorem QL9 (f : Fr) (K : KS) (s j) (k : Fr → KS → Option β) (l) : Qxt s (.sl j) f K k l = Qwh s j (kg K j) f K k () := _root_.id rfl
theorem QOz (f : Fr) (K : KS) (s j m rows) (k : Fr → KS → Option β) (l) : Qwh s j (some (.lst m rows)) f K k l = Q8 (Qam rows) (k (up f s (.imm m rows)) (K.set j none)) () := _root_.id rfl
theorem QKo (id ol l) : QhZ P D a id none (List.toArray ol) Q f K l = QoW P D a id (lk a.an id) (List.toArray ol) ol Q f K () := _root_.id rfl
theorem QDU (id vs ol l) : QhZ P D a id (some vs) (List.toArray ol) Q f K l = JU vs P D (List.toArray ol) ol f K (fun f K => Q .normal f K) () := _root_.id rfl
theorem QyF (vs ops) (k : Fr → KS → Option β) (l) : JU vs P D ops [] f K k l = k f K := _root_.id rfl
theorem Qxh (vs ops d o t p af r) (k : Fr → KS → Option β) (l) : JU vs P D ops (⟨some d, o, t, p, af, none⟩ :: r) f K k l = Qjz vs P D o f K (fun v K' => Qjf v (fun v => JU vs P D ops r (up f d v) K' k ()) ()) () := _root_.id rfl
theorem Qs3 (vs ops o t p af r) (k : Fr → KS → Option β) (l) : JU vs P D ops (⟨none, o, t, p, af, none⟩ :: r) f K k l = Qjz vs P D o f K (fun v K' => JU vs P D ops r f K' k ()) () := _root_.id rfl
theorem QO9 (vs ops r) (k : Fr → KS → Option β) (d op t pos after j want l) : JU vs P D ops (⟨some d, op, t, pos, after, some (j, want)⟩ :: r) f K k l =
  ogd ((ops[j]?).bind (·.dst)) want f (fun f => Qjz vs P D op f K (fun v K' => Qjf v (fun v => JU vs P D ops r (up f d v) K' k ()) ()) ()) (fun f => Qjf (.tup []) (fun v => JU vs P D ops r (up f d v) K k ()) ()) () := _root_.id rfl
theorem QCc (vs ops r) (k : Fr → KS → Option β) (op t pos after j want l) : JU vs P D ops (⟨none, op, t, pos, after, some (j, want)⟩ :: r) f K k l =
  ogd ((ops[j]?).bind (·.dst)) want f (fun f => Qjz vs P D op f K (fun v K' => JU vs P D ops r f K' k ()) ()) (fun f => JU vs P D ops r f K k ()) () := _root_.id rfl
def Qdy : Op → Bool
 | .call ⟨.value (.func _), _, _⟩ => true
 | _ => false
theorem QLn (vs o l) (k : AV → KS → Option β) (h : Qdy o = false) : Qjz vs P D o f K k l = oop P D o f K k () := by
 unfold Qdy at h
 unfold Qjz
 split
 ·cases h
 ·rfl
theorem QC6 (vs g args ts l) (k : AV → KS → Option β) : Qjz vs P D (.call ⟨.value (.func g), args, ts⟩) f K k l = cond (vs.contains g) (Qcg P D (.call ⟨.value (.func g), args, ts⟩) f K k ()) (oop P D (.call ⟨.value (.func g), args, ts⟩) f K k ()) := _root_.id rfl
theorem QwT (x args ts) : Qdy (.call ⟨.value (.tmp x), args, ts⟩) = false := _root_.id rfl
theorem QB5 (b args ts) : Qdy (.call ⟨.builtin b, args, ts⟩) = false := _root_.id rfl
theorem Qwk (x) : Qdy (.move x) = false := _root_.id rfl
theorem Qyg (x) : Qdy (.assign x) = false := _root_.id rfl
theorem QvZ (t x) : Qdy (.load t x) = false := _root_.id rfl
theorem Qt7 (t x y) : Qdy (.store t x y) = false := _root_.id rfl
theorem QE8 (t x i) : Qdy (.fieldAddr t x i) = false := _root_.id rfl
theorem QB1 (t x i) : Qdy (.indexAddr t x i) = false := _root_.id rfl
theorem QAF (x i) : Qdy (.extract x i) = false := _root_.id rfl
theorem Qzw (o t x y u) : Qdy (.binOp o t x y u) = false := _root_.id rfl
theorem QGa (o t x) : Qdy (.unOp o t x) = false := _root_.id rfl
theorem Qvs (c x y) : Qdy (.pick c x y) = false := _root_.id rfl
theorem Qt6 (t ps) : Qdy (.build t ps) = false := _root_.id rfl
theorem QBY (t n ps) : Qdy (.buildSlice t n ps) = false := _root_.id rfl
theorem Qtz (t) : Qdy (.alloc t) = false := _root_.id rfl
theorem Qyq (t x) : Qdy (.box t x) = false := _root_.id rfl
theorem Qzc (t x lo hi m) : Qdy (.slice t x lo hi m) = false := _root_.id rfl
theorem QA0 (t x i) : Qdy (.index t x i) = false := _root_.id rfl
theorem QGn (s t x) : Qdy (.convert s t x) = false := _root_.id rfl
theorem Qro (id ops ol l) : QoW P D a id none ops ol Q f K l = QoR P D a id (lk a.ac id) ops ol Q f K () := _root_.id rfl
theorem Qq3 (id us ops ol l) : QoW P D a id (some us) ops ol Q f K l = Qf8 P D ops us ol f K (fun f K => Q .normal f K) () := _root_.id rfl
theorem Qry (id ops ol l) : QoR P D a id none ops ol Q f K l = Qkw P D a id ops ol Q f K () := _root_.id rfl
theorem Qrx (id x ops ol l) : QoR P D a id (some x) ops ol Q f K l = Qem P D ops ol f K (fun f K => Q .normal f K) () := _root_.id rfl
theorem Qyu (ops) (k : Fr → KS → Option β) (l) : Qem P D ops [] f K k l = k f K := _root_.id rfl
theorem Qxn (ops d o t p af r) (k : Fr → KS → Option β) (l) : Qem P D ops (⟨some d, o, t, p, af, none⟩ :: r) f K k l = Qcg P D o f K (fun v K' => Qjf v (fun v => Qem P D ops r (up f d v) K' k ()) ()) () := _root_.id rfl
theorem Qs8 (ops o t p af r) (k : Fr → KS → Option β) (l) : Qem P D ops (⟨none, o, t, p, af, none⟩ :: r) f K k l = Qcg P D o f K (fun v K' => Qem P D ops r f K' k ()) () := _root_.id rfl
theorem QvP (x l) : Qcg P D (.move x) f K k l = oop P D (.move x) f K k () := _root_.id rfl
theorem QsS (x l) : Qcg P D (.assign x) f K k l = oop P D (.assign x) f K k () := _root_.id rfl
theorem QwN (t x l) : Qcg P D (.load t x) f K k l = oop P D (.load t x) f K k () := _root_.id rfl
theorem Qte (t x y l) : Qcg P D (.store t x y) f K k l = oop P D (.store t x y) f K k () := _root_.id rfl
theorem QKa (t x i l) : Qcg P D (.fieldAddr t x i) f K k l = oop P D (.fieldAddr t x i) f K k () := _root_.id rfl
theorem QHS (t x i l) : Qcg P D (.indexAddr t x i) f K k l = oop P D (.indexAddr t x i) f K k () := _root_.id rfl
theorem QA7 (x i l) : Qcg P D (.extract x i) f K k l = oop P D (.extract x i) f K k () := _root_.id rfl
theorem QzL (o t x y u l) : Qcg P D (.binOp o t x y u) f K k l = oop P D (.binOp o t x y u) f K k () := _root_.id rfl
theorem QuR (t ps l) : Qcg P D (.build t ps) f K k l = oop P D (.build t ps) f K k () := _root_.id rfl
theorem QI9 (o t x l) : Qcg P D (.unOp o t x) f K k l = oop P D (.unOp o t x) f K k () := _root_.id rfl
theorem Qvw (c x y l) : Qcg P D (.pick c x y) f K k l = oop P D (.pick c x y) f K k () := _root_.id rfl
theorem Quc (t l) : Qcg P D (.alloc t) f K k l = oop P D (.alloc t) f K k () := _root_.id rfl
theorem QyD (t x lo hi m l) : Qcg P D (.slice t x lo hi m) f K k l = oop P D (.slice t x lo hi m) f K k () := _root_.id rfl
theorem QyQ (t x i l) : Qcg P D (.index t x i) f K k l = oop P D (.index t x i) f K k () := _root_.id rfl
theorem QHF (b xs ts l) : Qcg P D (.call ⟨.builtin b, xs, ts⟩) f K k l = oop P D (.call ⟨.builtin b, xs, ts⟩) f K k () := _root_.id rfl
theorem QIs (s t x l) : Qcg P D (.convert s t x) f K k l = oop P D (.convert s t x) f K k () := _root_.id rfl
theorem QAv (t x l) : Qcg P D (.box t x) f K k l = oop P D (.box t x) f K k () := _root_.id rfl
def QsL (b c d e : Bool) (D : Orc) (g : FuncId) (K : KS) (vs : List AV) (k : AV → KS → Option β) (_ : Lk (vs, k)) : Option β := cond b (QmW K vs k ()) (cond c (Qk3 K vs k ()) (cond d (QiL D g K vs k ()) (cond e (QgE D g K vs k ()) (Qel D g K vs k ()))))
theorem QvA (x xs ts l) : Qcg P D (.call ⟨.value x, List.toArray xs, ts⟩) f K k l = QqC (ev f x) (fun g caps => QsL (D.s g) (D.q g) (D.w g) (D.v g) D g K (xs.map (ev f) ++ caps) k ()) () := _root_.id rfl
theorem s_t (g c d e) (K : KS) (vs) (k : AV → KS → Option β) (l) : QsL true c d e D g K vs k l = QmW K vs k () := _root_.id rfl
theorem s_q (g d e) (K : KS) (vs) (k : AV → KS → Option β) (l) : QsL false true d e D g K vs k l = Qk3 K vs k () := _root_.id rfl
theorem s_f (g) (K : KS) (vs) (k : AV → KS → Option β) (l) : QsL false false false false D g K vs k l = Qel D g K vs k () := _root_.id rfl
theorem s_w (g e) (K : KS) (vs) (k : AV → KS → Option β) (l) : QsL false false true e D g K vs k l = QjU D g K (Qdv vs) vs k () := _root_.id rfl
theorem w_j (g) (K : KS) (js vs) (k : AV → KS → Option β) (l) : QjU D g K js vs k l = Q8 (ndB js) (QjN D g K js (Qb4 js vs) k ()) () := _root_.id rfl
theorem w_s (g) (K : KS) (js cs) (k : AV → KS → Option β) (l) : QjN D g K js (some cs) k l = Q8 (Qjs (Ji K js)) (Xg (D.a g (Ji K js) cs) (fun r => k r.1 (Jd K js r.2)) ()) () := _root_.id rfl
theorem s_v (g) (K : KS) (vs) (k : AV → KS → Option β) (l) : QsL false false false true D g K vs k l = QjL D g K (Qdv vs) vs k () := _root_.id rfl
theorem v_j (g) (K : KS) (js vs) (k : AV → KS → Option β) (l) : QjL D g K js vs k l = Q8 (ndB js) (QjR D g K js (Qb4 js vs) k ()) () := _root_.id rfl
theorem v_s (g) (K : KS) (js cs) (k : AV → KS → Option β) (l) : QjR D g K js (some cs) k l = Q8 (Qjs (Ji K js)) (Xg (D.m g (Ji K js) cs) (fun x => k (Vi K.length x).1 (Jd K js (ZI js) ++ (Vi K.length x).2)) ()) () := _root_.id rfl
theorem QDv : ZI [] = [] := _root_.id rfl
theorem QEE (j js) : ZI (j :: js) = none :: ZI js := _root_.id rfl
theorem p_0 (vs) : QlU [] vs = vs := by cases vs <;> rfl
theorem p_e (ss) : QlU ss [] = [] := by cases ss <;> rfl
theorem p_s (s ss v vs) : QlU (s :: ss) (v :: vs) = QqN s v :: QlU ss vs := _root_.id rfl
theorem p_n (v) : QqN .n v = v := by cases v <;> rfl
theorem p_z (k v) : QqN (.z k) v = nic k v := by cases v <;> rfl
theorem p_a (ns cs) : QqN (.a ns) (.agg cs) = .agg (ni ns cs) := _root_.id rfl
theorem QMP (cs) : ni [] cs = cs := by cases cs <;> rfl
theorem QQc (n ns c cs) : ni (n :: ns) (c :: cs) = nic n c :: ni ns cs := _root_.id rfl
theorem QLZ (n) : nic (n + 1) .nil = .imm (n + 1) [] := _root_.id rfl
theorem QOL : nic 0 .nil = .nil := _root_.id rfl
theorem QMA (n c x) : nic n (.i c x) = .i c x := _root_.id rfl
theorem QQF (n x) : nic n (.b x) = .b x := _root_.id rfl
theorem QLw (n x) : nic n (.s x) = .s x := _root_.id rfl
theorem QMv (n m r) : nic n (.imm m r) = .imm m r := _root_.id rfl
theorem QNF : Qdv [] = [] := _root_.id rfl
theorem QL4 (c cs) : Qdv (c :: cs) = Qml c ++ Qdv cs := _root_.id rfl
theorem QE7 (j) : Qml (.sl j) = [j] := _root_.id rfl
theorem QzC (cs) : Qml (.agg cs) = Qdv cs := _root_.id rfl
theorem QK5 (c n) : Qml (.i c n) = [] := _root_.id rfl
theorem QRa (x) : Qml (.b x) = [] := _root_.id rfl
theorem QF9 (x) : Qml (.s x) = [] := _root_.id rfl
theorem QLG : Qml .nil = [] := _root_.id rfl
theorem QQT (n r) : Qml (.imm n r) = [] := _root_.id rfl
theorem QPs (g l) : Qml (.clo g l) = [] := _root_.id rfl
theorem QRd (js) : Qb4 js [] = some [] := _root_.id rfl
theorem QMb (js c cs) : Qb4 js (c :: cs) = (Qb3 js c).bind fun c' => (Qb4 js cs).map (c' :: ·) := _root_.id rfl
theorem QJn (js j) : Qb3 js (.sl j) = (Qbm js j).map .sl := _root_.id rfl
theorem QzI (js cs) : Qb3 js (.agg cs) = (Qb4 js cs).map .agg := _root_.id rfl
theorem QO7 (js c n) : Qb3 js (.i c n) = some (.i c n) := _root_.id rfl
theorem QL1 (js x) : Qb3 js (.b x) = some (.b x) := _root_.id rfl
theorem QI3 (js x) : Qb3 js (.s x) = some (.s x) := _root_.id rfl
theorem QPK (js) : Qb3 js .nil = some .nil := _root_.id rfl
theorem QPt (js n r) : Qb3 js (.imm n r) = some (.imm n r) := _root_.id rfl
theorem QNA (js g) : Qb3 js (.clo g []) = some (.clo g []) := _root_.id rfl
theorem QMF {α γ : Type} (x : α) (k : α → Option γ) : (some x).bind k = k x := _root_.id rfl
theorem QiG (x y : Nat) : Nat.beq x y = (x == y) := by rw [Bool.eq_iff_iff]; simp
theorem QOS (x l j) : Qbm (x :: l) j = sel (x == j) (some 0) ((Qbm l j).map (· + 1)) () := by rw [← QiG]; rfl
theorem QNh (K) : Ji K [] = [] := _root_.id rfl
theorem QMr (K j js) : Ji K (j :: js) = kg K j :: Ji K js := _root_.id rfl
theorem QKQ (K es) : Jd K [] es = K := by cases es <;> rfl
theorem QPo (K j js e es) : Jd K (j :: js) (e :: es) = Jd (K.set j e) js es := _root_.id rfl
theorem QOG : Qjs [] = true := _root_.id rfl
theorem QMp (n r K) : Qjs (some (.lst n r) :: K) = Qjs K := _root_.id rfl
theorem QPr (c n) : AV.scal (.i c n) = true := _root_.id rfl
theorem QLu (x) : AV.scal (.b x) = true := _root_.id rfl
theorem QLv (x) : AV.scal (.s x) = true := _root_.id rfl
theorem QOk (c n) : AV.flat (.i c n) = true := _root_.id rfl
theorem QPv (x) : AV.flat (.b x) = true := _root_.id rfl
theorem QPA (x) : AV.flat (.s x) = true := _root_.id rfl
theorem QKN : AV.flat (.tup []) = true := _root_.id rfl
theorem QLM : QuK .one = true := _root_.id rfl
theorem w_p (x g j i o) (k : AV → KS → Option β) (l) : onp D f K (.ptr j i o) x g k l = onj D f K x g j i o (kg K j) k () := _root_.id rfl
theorem QNf (x g j i o q r) (k : AV → KS → Option β) (l) : onj D f K x g j i o (some (.lst q r)) k l = onx D f K x g j i o q r ((QF r i).drop o) k () := _root_.id rfl
theorem w_x (x g j i o q r m rs cs) (k : AV → KS → Option β) (l) : onx D f K x g j i o q r (.own m rs :: cs) k l = Q8 x.scal (Xg (D.a g [some (.lst m rs)] [.sl 0, x]) (fun s => onr D f K j i o q r s k ()) ()) () := _root_.id rfl
theorem QQg (u us ops d o t p af r) (k : Fr → KS → Option β) (l) : Qf8 P D ops (u :: us) (⟨some d, o, t, p, af, none⟩ :: r) f K k l = oop P D o f K (fun v K' => Qjf v (fun v => Qf8 P D ops us r (up f d v) K' k ()) ()) () := _root_.id rfl
def QxM (d : Option Tmp) (v : AV) (f : Fr) (k : Fr → Option β) (_ : Lk (f, k)) : Option β := match d with
 | some d => Qjf v (fun v => k (up f d v)) ()
 | none => k f
theorem QxK (d v f) (k : Fr → Option β) (l) : QxM (some d) v f k l = Qjf v (fun v => k (up f d v)) () := _root_.id rfl
theorem QLQ (ops d t p y1 p1 a1 e x y2 p2 a2 dst g d' e' ts y3 p3 a3 r) (k : Fr → KS → Option β) (l) : Qf8 P D ops [] (⟨some d, .load t p, y1, p1, a1, none⟩ :: ⟨some e, .move x, y2, p2, a2, none⟩ :: ⟨dst, .call ⟨.value (.func g), List.toArray [.tmp d', .tmp e'], ts⟩, y3, p3, a3, none⟩ :: r) f K k l =
  Q8 (QuK (tk P t) && ((d == d') && ((e == e') && !(d == e)))) (onp D f K (ev f p) (ev (up f d (.sl K.length)) x) g (fun v K' => QxM dst v (up (up f d (.sl K.length)) e (ev (up f d (.sl K.length)) x)) (fun f => Qem P D ops r f K' k ()) ()) ()) () := by rw [← QiG, ← QiG, ← QiG]; cases dst <;> rfl
theorem QJJ (a b l) : oop P D (.makeInterface a b) f K k l = none := _root_.id rfl
theorem QKB (a l) : oop P D (.panic a) f K k l = none := _root_.id rfl
theorem QmC (t len ps l) : Qcg P D (.buildSlice t len ps) f K k l = oop P D (.buildSlice t len ps) f K k () := _root_.id rfl
def Qqd (o : Option (List Int)) (K : KS) (j : Nat) (k : AV → KS → Option β) (_ : Lk k) : Option β := match o with
 | some xs => Q8 (decide (xs.length < 4611686018427387904)) (Vv (K.set j none ++ [some (.lst 1 ((XY xs).map cI))]) (fun K' => k (.sl K.length) K') ()) ()
 | none => none
def QtB (e : Option Ent) (K : KS) (j : Nat) (k : AV → KS → Option β) (_ : Lk k) : Option β := match e with
 | some (.lst 1 rows) => Qqd (QbM rows) K j k ()
 | _ => none
theorem QK0 (K : KS) (j) (k : AV → KS → Option β) (l) : Qk3 K [.sl j] k l = QtB (kg K j) K j k () := _root_.id rfl
theorem QFo (r) (K : KS) (j) (k : AV → KS → Option β) (l) : QtB (some (.lst 1 r)) K j k l = Qqd (QbM r) K j k () := _root_.id rfl
theorem Qz0 (xs) (K : KS) (j) (k : AV → KS → Option β) (l) : Qqd (some xs) K j k l = Q8 (decide (xs.length < 4611686018427387904)) (Vv (K.set j none ++ [some (.lst 1 ((XY xs).map cI))]) (fun K' => k (.sl K.length) K') ()) () := _root_.id rfl
def QpP (o : Option (List Int)) (K : KS) (j : Nat) (k : AV → KS → Option β) (_ : Lk k) : Option β := match o with
 | some xs => Q8 (decide (xs.length < 4611686018427387904)) (Vv (K.set j (some (.lst 1 ((QaD xs).map cI)))) (fun K => k (.tup []) K) ()) ()
 | none => none
def Quy (e : Option Ent) (K : KS) (j : Nat) (k : AV → KS → Option β) (_ : Lk k) : Option β := match e with
 | some (.lst 1 rows) => QpP (QbM rows) K j k ()
 | _ => none
theorem QOv (K : KS) (j) (k : AV → KS → Option β) (l) : QmW K [.sl j] k l = Quy (kg K j) K j k () := _root_.id rfl
theorem QB7 (r) (K : KS) (j) (k : AV → KS → Option β) (l) : Quy (some (.lst 1 r)) K j k l = QpP (QbM r) K j k () := _root_.id rfl
theorem Qy9 (xs) (K : KS) (j) (k : AV → KS → Option β) (l) : QpP (some xs) K j k l = Q8 (decide (xs.length < 4611686018427387904)) (Vv (K.set j (some (.lst 1 ((QaD xs).map cI)))) (fun K => k (.tup []) K) ()) () := _root_.id rfl
theorem QpN : ∀ xs : List Int, QbM (xs.map fun x => [.i .i64 x]) = some xs
 | [] => rfl
 | x :: xs => by rw [List.map_cons, QbM, QpN xs]; rfl
noncomputable def Qtx (P : Program) (D : Orc) (a : Ann) (id : Nat) (ops : Array Oper) (o : Option (List Nat)) (Q : KT β) (f : Fr) (K : KS) (_ : Lk (ops, Q, f)) : Option β := Qkw P D a id ops (Qon ops o) Q f K ()
theorem Qwn (id ol l) : Vm P D a (.region id (List.toArray ol) true) Q f K l = ofz (lk a.fz id) f K (fun f K => QhT P D a id (lk a.av id) (List.toArray ol) Q f K ()) () := _root_.id rfl
theorem QE9 (id ol l) : QhT P D a id none (List.toArray ol) Q f K l = QpM P D a id (lk a.eb id) (List.toArray ol) Q f K () := _root_.id rfl
theorem QGl (id vs ol l) : QhT P D a id (some vs) (List.toArray ol) Q f K l = Qpr vs P D a id (lk a.ot id) (List.toArray ol) Q f K () := _root_.id rfl
theorem QJC (id vs ol l) : Qpr vs P D a id none (List.toArray ol) Q f K l = QrQ vs P D (List.toArray ol) (lk a.ord id) Q f K () := _root_.id rfl
theorem QKj (id vs t ops l) : Qpr vs P D a id (some t) ops Q f K l = QaF vs P D ops t f K (fun f K => Q .normal f K) () := _root_.id rfl
theorem QI7 (vs ol l) : QrQ vs P D (List.toArray ol) none Q f K l = JU vs P D (List.toArray ol) ol f K (fun f K => Q .normal f K) () := _root_.id rfl
theorem QJh (id ops l) : QpM P D a id none ops Q f K l = QeX P D a id ops (lk a.ot id) Q f K () := _root_.id rfl
noncomputable def Qyc (P : Program) (D : Orc) (a : Ann) (id : Nat) (ol : List Oper) (Q : KT β) (f : Fr) (K : KS) (_ : Lk (Q, f)) : Option β := QeX P D a id (List.toArray ol) (lk a.ot id) Q f K ()
theorem QIe (id ds ol l) : QpM P D a id (some ds) (List.toArray ol) Q f K l = Qyc P D a id (ol.map (VS ds)) Q f K () := by
 show QeX P D a id ((List.toArray ol).map (VS ds)) (lk a.ot id) Q f K () = QeX P D a id (List.toArray (ol.map (VS ds))) (lk a.ot id) Q f K ()
 rw [List.map_toArray]
theorem c_M (id o r l) : Qyc P D a id (o :: r) Q f K l = QeX P D a id (List.toArray (o :: r)) (lk a.ot id) Q f K () := _root_.id rfl
theorem QBn (ds d t y p e g) : VS ds ⟨d, .buildSlice t 0 (List.toArray []), y, p, e, g⟩ = ⟨d, .move (.const (.slice none 0 0)), y, p, e, g⟩ := _root_.id rfl
theorem QFw (ds d t m ps y p e g) : VS ds ⟨d, .buildSlice t (m + 1) ps, y, p, e, g⟩ = ⟨d, .buildSlice t (m + 1) ps, y, p, e, g⟩ := _root_.id rfl
theorem QA1 (ds d s x ts y p e g) : VS ds ⟨d, .call ⟨.builtin .append, List.toArray [.tmp s, x], ts⟩, y, p, e, g⟩ = cond (ds.contains s) ⟨d, .call ⟨.builtin .append, List.toArray [.const (.slice none 0 0), x], ts⟩, y, p, e, g⟩ ⟨d, .call ⟨.builtin .append, List.toArray [.tmp s, x], ts⟩, y, p, e, g⟩ := _root_.id rfl
theorem Qy2 (ds d xs ts y p e g) : VS ds ⟨d, .call ⟨.builtin .len, xs, ts⟩, y, p, e, g⟩ = ⟨d, .call ⟨.builtin .len, xs, ts⟩, y, p, e, g⟩ := _root_.id rfl
theorem QvC (ds d v xs ts y p e g) : VS ds ⟨d, .call ⟨.value v, xs, ts⟩, y, p, e, g⟩ = ⟨d, .call ⟨.value v, xs, ts⟩, y, p, e, g⟩ := _root_.id rfl
theorem Qxi (ds d x y p e g) : VS ds ⟨d, .move x, y, p, e, g⟩ = ⟨d, .move x, y, p, e, g⟩ := _root_.id rfl
theorem QAA (ds d x y p e g) : VS ds ⟨d, .assign x, y, p, e, g⟩ = ⟨d, .assign x, y, p, e, g⟩ := _root_.id rfl
theorem QvG (ds d t x y p e g) : VS ds ⟨d, .load t x, y, p, e, g⟩ = ⟨d, .load t x, y, p, e, g⟩ := _root_.id rfl
theorem QuE (ds d t x z y p e g) : VS ds ⟨d, .store t x z, y, p, e, g⟩ = ⟨d, .store t x z, y, p, e, g⟩ := _root_.id rfl
theorem QFp (ds d t x i y p e g) : VS ds ⟨d, .fieldAddr t x i, y, p, e, g⟩ = ⟨d, .fieldAddr t x i, y, p, e, g⟩ := _root_.id rfl
theorem QID (ds d t x i y p e g) : VS ds ⟨d, .indexAddr t x i, y, p, e, g⟩ = ⟨d, .indexAddr t x i, y, p, e, g⟩ := _root_.id rfl
theorem Qut (ds d t ps y p e g) : VS ds ⟨d, .build t ps, y, p, e, g⟩ = ⟨d, .build t ps, y, p, e, g⟩ := _root_.id rfl
theorem Qzj (ds d o t x z u y p e g) : VS ds ⟨d, .binOp o t x z u, y, p, e, g⟩ = ⟨d, .binOp o t x z u, y, p, e, g⟩ := _root_.id rfl
theorem QJG (ds d o t x y p e g) : VS ds ⟨d, .unOp o t x, y, p, e, g⟩ = ⟨d, .unOp o t x, y, p, e, g⟩ := _root_.id rfl
theorem QAm (ds d x i y p e g) : VS ds ⟨d, .extract x i, y, p, e, g⟩ = ⟨d, .extract x i, y, p, e, g⟩ := _root_.id rfl
theorem QzP (ds d t x y p e g) : VS ds ⟨d, .box t x, y, p, e, g⟩ = ⟨d, .box t x, y, p, e, g⟩ := _root_.id rfl
theorem QuI (ds d t y p e g) : VS ds ⟨d, .alloc t, y, p, e, g⟩ = ⟨d, .alloc t, y, p, e, g⟩ := _root_.id rfl
theorem QtR (ds d t x lo hi mx y p e g) : VS ds ⟨d, .slice t x lo hi mx, y, p, e, g⟩ = ⟨d, .slice t x lo hi mx, y, p, e, g⟩ := _root_.id rfl
theorem Qtt (id ol l) : QeX P D a id (List.toArray ol) none Q f K l = Qtx P D a id (List.toArray ol) (lk a.ord id) Q f K () := _root_.id rfl
theorem QuB (id ops t l) : QeX P D a id ops (some t) Q f K l = QcJ P D ops t f K (fun f K => Q .normal f K) () := _root_.id rfl
noncomputable def QqF (P : Program) (D : Orc) (ops : Array Oper) (o : Option Oper) (t : OT) (f : Fr) (K : KS) (k : Fr → KS → Option β) (_ : Lk (ops, f, k)) : Option β := match o with
 | some o => Qcf P D ops [o] f K (fun f K => QcJ P D ops t f K k ()) ()
 | none => none
theorem Qs9 (ops) (k : Fr → KS → Option β) (l) : QcJ P D ops .done f K k l = k f K := _root_.id rfl
theorem QJj (ol i t) (k : Fr → KS → Option β) (l) : QcJ P D (List.toArray ol) (.one i t) f K k l = QqF P D (List.toArray ol) (ol[i]?) t f K k () := by
 have : (List.toArray ol)[i]? = ol[i]? := by simp
 unfold QcJ QqF
 rw [this]
 cases ol[i]? <;> rfl
theorem Quh (ops o t) (k : Fr → KS → Option β) (l) : QqF P D ops (some o) t f K k l = Qcf P D ops [o] f K (fun f K => QcJ P D ops t f K k ()) () := _root_.id rfl
theorem QuF (vs ops) (k : Fr → KS → Option β) (l) : QaF vs P D ops .done f K k l = k f K := _root_.id rfl
noncomputable def Qnm (vs : List Nat) (P : Program) (D : Orc) (ops : Array Oper) (o : Option Oper) (t : OT) (f : Fr) (K : KS) (k : Fr → KS → Option β) (_ : Lk (ops, f, k)) : Option β := match o with
 | some o => JU vs P D ops [o] f K (fun f K => QaF vs P D ops t f K k ()) ()
 | none => none
theorem QxL (vs ol i t) (k : Fr → KS → Option β) (l) : QaF vs P D (List.toArray ol) (.one i t) f K k l = Qnm vs P D (List.toArray ol) (ol[i]?) t f K k () := by
 have : (List.toArray ol)[i]? = ol[i]? := by simp
 unfold QaF Qnm
 rw [this]
 cases ol[i]? <;> rfl
theorem Qve (vs ops o t) (k : Fr → KS → Option β) (l) : Qnm vs P D ops (some o) t f K k l = JU vs P D ops [o] f K (fun f K => QaF vs P D ops t f K k ()) () := _root_.id rfl
theorem QxV (vs ops a b) (k : Fr → KS → Option β) (l) : QaF vs P D ops (.alt a b) f K k l = oeq (QaF vs P D ops a f K k ()) (QaF vs P D ops b f K k ()) := _root_.id rfl
theorem QJr (ops a b) (k : Fr → KS → Option β) (l) : QcJ P D ops (.alt a b) f K k l = oeq (QcJ P D ops a f K k ()) (QcJ P D ops b f K k ()) := _root_.id rfl
theorem ZP (x : Option β) : oeq x x = x := by simp [oeq]
theorem J1 (p q : Bool) (x : Option β) (l l' : Unit) : Q8 p (Q8 q x l) l' = Q8 q (Q8 p x l) l' := by cases p <;> cases q <;> rfl
theorem QAj (id ol l) : Qtx P D a id (List.toArray ol) none Q f K l = Qkw P D a id (List.toArray ol) ol Q f K () := _root_.id rfl
def pk : List Oper → List Nat → List Oper
 | _, [] => []
 | ol, i :: is => match ol[i]? with | some o => o :: pk ol is | none => pk ol is
noncomputable def QxU (P : Program) (D : Orc) (a : Ann) (id : Nat) (ops : Array Oper) (l : List Oper) (Q : KT β) (f : Fr) (K : KS) (_ : Lk (ops, Q, f)) : Option β := Qkw P D a id ops l Q f K ()
theorem QmJ (ol is) : Qon (List.toArray ol) (some is) = pk ol is := by
 show is.filterMap (fun i => (List.toArray ol)[i]?) = _
 induction is with
 | nil => rfl
 | cons i is ih =>
  rw [pk, List.filterMap_cons]
  have : (List.toArray ol)[i]? = ol[i]? := by simp
  rw [this]
  cases ol[i]? with
  | none => simpa using ih
  | some o => rw [← ih]
theorem Qyj (id ol is l) : Qtx P D a id (List.toArray ol) (some is) Q f K l = QxU P D a id (List.toArray ol) (pk ol is) Q f K () := by
 show Qkw P D a id _ (Qon _ _) Q f K () = _
 rw [QmJ]; rfl
noncomputable def QxO (vs : List Nat) (P : Program) (D : Orc) (ops : Array Oper) (l : List Oper) (Q : KT β) (f : Fr) (K : KS) (_ : Lk (ops, Q, f)) : Option β := JU vs P D ops l f K (fun f K => Q .normal f K) ()
theorem QNn (vs ol is l) : QrQ vs P D (List.toArray ol) (some is) Q f K l = QxO vs P D (List.toArray ol) (pk ol is) Q f K () := by
 show JU vs P D _ (Qon _ _) f K _ () = _
 rw [QmJ]; rfl
theorem c_K (vs ops o r l) : QxO vs P D ops (o :: r) Q f K l = JU vs P D ops (o :: r) f K (fun f K => Q .normal f K) () := _root_.id rfl
theorem QJb (ol) : pk ol [] = [] := _root_.id rfl
def pkO (o : Option Oper) (l : List Oper) : List Oper := match o with | some o => o :: l | none => l
theorem QGP (ol i is) : pk ol (i :: is) = pkO (ol[i]?) (pk ol is) := by rw [pk]; cases ol[i]? <;> rfl
theorem QGb (o l) : pkO (some o) l = o :: l := _root_.id rfl
theorem QAO (id ops o r l) : QxU P D a id ops (o :: r) Q f K l = Qkw P D a id ops (o :: r) Q f K () := _root_.id rfl
theorem QDs {α : Type} (x : α) (l : List α) : (x :: l)[0]? = some x := _root_.id rfl
theorem QJc {α : Type} (x : α) (l : List α) (i : Nat) : (x :: l)[i + 1]? = l[i]? := _root_.id rfl
theorem QD8 {α : Type} (l : List α) (i : Nat) : (List.toArray l)[i]? = l[i]? := by simp
theorem QrH {α γ : Type} (x : α) (g : α → Option γ) : (some x).bind g = g x := _root_.id rfl
noncomputable def QtF (P : Program) (D : Orc) (j : Option (Nat × Nat × Nat)) (ops : Array Oper) (l : List Oper) (Q : KT β) (f : Fr) (K : KS) (_ : Lk (l, Q, f)) : Option β :=
 match j with
 | none => Qcf P D ops l f K (fun f K => Q .normal f K) ()
 | some (s, lo, hi) => QmK (Qcf P D ops l f K (fun f _ => asB (f s)) ()) (fun c => Q .normal (up (QsK lo hi f) s (.b c)) K) ()
theorem QHR (id ops ol l) : Qkw P D a id ops ol Q f K l = QtF P D (lk a.jn id) ops ol Q f K () := _root_.id rfl
theorem Qu9 (ops ol l) : QtF P D none ops ol Q f K l = Qcf P D ops ol f K (fun f K => Q .normal f K) () := _root_.id rfl
theorem QtC (s lo hi ops ol l) : QtF P D (some (s, lo, hi)) ops ol Q f K l = QmK (Qcf P D ops ol f K (fun f _ => asB (f s)) ()) (fun c => Q .normal (up (QsK lo hi f) s (.b c)) K) () := _root_.id rfl
theorem QvI (o) (k : Bool → Option β) (l) : QmK o k l = o.bind k := _root_.id rfl
theorem QD0 (b) (k : Bool → Option β) (l) : QmK (QiW b) k l = k b := _root_.id rfl
theorem QvF (b x y) : cond b (QiW x) (QiW y) = QiW (cond b x y) := by cases b <;> rfl
theorem QPy (b) : QiW b = some b := _root_.id rfl
theorem QHw (a b : Bool) : cond a b false = (a && b) := by cases a <;> rfl
theorem QOm (a b : Bool) : cond a true b = (a || b) := by cases a <;> rfl
theorem QyN (a b : Bool) : cond a false b = (!a && b) := by cases a <;> rfl
theorem QCf (b) : asB (.b b) = QiW b := _root_.id rfl
def QxY (D : Orc) (t : Nat) (z : List Nat) (la : Option LA) (Q : KT β) (f : Fr) (K : KS) (_ : Lk Q) : Option β :=
 match la with
 | some la => Qeh z la.sl la.rg f K (fun f K => Xg (D.l t f K) (fun o => Q o.1 o.2.1 o.2.2) ()) ()
 | none => none
theorem QAw (c l) : Vm P D a (.loop c) Q f K l = QxY D (tag c) a.ak (lk a.lp (tag c)) Q f K () := _root_.id rfl
theorem Qq9 (t z la l) : QxY D t z (some la) Q f K l = Qeh z la.sl la.rg f K (fun f K => Xg (D.l t f K) (fun o => Q o.1 o.2.1 o.2.2) ()) () := _root_.id rfl
theorem QhI (id o d) : tag (.region id o d) = id := _root_.id rfl
theorem Qr8 (x y) : tag (.seq x y) = tag x := _root_.id rfl
theorem Qqo (c x y) : tag (.cond c x y) = tag x := _root_.id rfl
theorem Qop (i x) : tag (.block i x) = tag x := _root_.id rfl
theorem QpX (x) : tag (.loop x) = tag x := _root_.id rfl
theorem QuX (k : Fr → KS → Option β) (Q f K) : Qpg k Q .normal f K = k f K := _root_.id rfl
theorem Qs2 (k : Fr → KS → Option β) (Q f K) : Qpg k Q .ret f K = Q .ret f K := _root_.id rfl
theorem Quf (k : Fr → KS → Option β) (Q id f K) : Qpg k Q (.exit id) f K = Q (.exit id) f K := _root_.id rfl
theorem Qxf (i f K) : QsR i Q .normal f K = Q .normal f K := _root_.id rfl
theorem QvD (i f K) : QsR i Q .ret f K = Q .ret f K := _root_.id rfl
theorem Qwl (i j f K) : QsR i Q (.exit j) f K = sel (j == i) (Q .normal f K) (Q (.exit j) f K) () := _root_.id rfl
theorem QGt (ops) (k : Fr → KS → Option β) (l) : Qcf P D ops [] f K k l = k f K := _root_.id rfl
theorem QBa (ops r) (k : Fr → KS → Option β) (d op t pos after l) : Qcf P D ops (⟨some d, op, t, pos, after, none⟩ :: r) f K k l = oop P D op f K (fun v K' => Qjf v (fun v => Qcf P D ops r (up f d v) K' k ()) ()) () := _root_.id rfl
theorem Qxw (ops r) (k : Fr → KS → Option β) (op t pos after l) : Qcf P D ops (⟨none, op, t, pos, after, none⟩ :: r) f K k l = oop P D op f K (fun v K' => Qcf P D ops r f K' k ()) () := _root_.id rfl
theorem c_g (ops r) (k : Fr → KS → Option β) (d op t pos after j want l) : Qcf P D ops (⟨some d, op, t, pos, after, some (j, want)⟩ :: r) f K k l =
  ogd ((ops[j]?).bind (·.dst)) want f (fun f => oop P D op f K (fun v K' => Qjf v (fun v => Qcf P D ops r (up f d v) K' k ()) ()) ()) (fun f => Qjf (.tup []) (fun v => Qcf P D ops r (up f d v) K k ()) ()) () := _root_.id rfl
theorem QPO (ops r) (k : Fr → KS → Option β) (op t pos after j want l) : Qcf P D ops (⟨none, op, t, pos, after, some (j, want)⟩ :: r) f K k l =
  ogd ((ops[j]?).bind (·.dst)) want f (fun f => oop P D op f K (fun v K' => Qcf P D ops r f K' k ()) ()) (fun f => Qcf P D ops r f K k ()) () := _root_.id rfl
def Qw1 (v : AV) (d : Nat) (want : Bool) (f : Fr) (yes no : Fr → Option β) (_ : Lk (f, yes, no)) : Option β :=
 match v with
 | .b x => cond x (cond want (yes (up f d (.b true))) (no (up f d (.b true)))) (cond want (no (up f d (.b false))) (yes (up f d (.b false))))
 | .tup [] => no f
 | _ => none
theorem QKY (d want) (yes no : Fr → Option β) (l) : ogd (some d) want f yes no l = Qw1 (f d) d want f yes no () := by
 cases want <;> rfl
theorem QxJ (b d) (yes no : Fr → Option β) (l) : Qw1 (.b b) d true f yes no l = cond b (yes (up f d (.b true))) (no (up f d (.b false))) := _root_.id rfl
theorem Qx5 (b d) (yes no : Fr → Option β) (l) : Qw1 (.b b) d false f yes no l = cond b (no (up f d (.b true))) (yes (up f d (.b false))) := _root_.id rfl
theorem QxZ (d w) (yes no : Fr → Option β) (l) : Qw1 (.tup []) d w f yes no l = no f := _root_.id rfl
theorem QyG (x l) : oop P D (.move x) f K k l = k (ev f x) K := _root_.id rfl
theorem QuH (x l) : oop P D (.assign x) f K k l = k (ev f x) K := _root_.id rfl
theorem QAC (c x y l) : oop P D (.pick c x y) f K k l = QiS (ev f c) (ev f x) (ev f y) (fun v => k v K) () := _root_.id rfl
theorem Qvv (t l) : oop P D (.alloc t) f K k l = QjZ K (tzc P t) k () := _root_.id rfl
theorem QBt (t v l) : oop P D (.box t v) f K k l = QpU K (ev f v) k () := _root_.id rfl
theorem QxF (t ps l) : oop P D (.build t (List.toArray ps)) f K k l = Qh7 K (tbd P t) (ps.map fun p => (p.1, ev f p.2)) (fun v => k v K) () := _root_.id rfl
theorem QuQ (t len ps l) : oop P D (.buildSlice t len (List.toArray ps)) f K k l = Qfs (zB (Qdd P t)) (Qdd P t) K (tse P t) len (ps.map fun p => (p.1, ev f p.2)) k () := _root_.id rfl
theorem Qyn (t x l) : oop P D (.load t x) f K k l = Qf7 (tk P t) (Xe K (ev f x)) (fun v => k v K) () := _root_.id rfl
theorem QwM (t p v l) : oop P D (.store t p v) f K k l = Qg4 (flT P t) (slz P 9 t) K (tk P t) (ev f p) (ev f v) (fun K => k .u K) () := _root_.id rfl
theorem QHp (op t x y s l) : oop P D (.binOp op t x (.tmp y) s) f K k l = Zr (Qjh P t) op (ev f x) (ev f (.tmp y)) (fun v => k v K) () := _root_.id rfl
theorem QAe (op t x c n s l) : oop P D (.binOp op t x (.const (.int c n)) s) f K k l = Zr (Qjh P t) op (ev f x) (ev f (.const (.int c n))) (fun v => k v K) () := _root_.id rfl
theorem QzZ (op t x c s l) : oop P D (.binOp op t x (.const (.bool c)) s) f K k l = Zr (Qjh P t) op (ev f x) (ev f (.const (.bool c))) (fun v => k v K) () := _root_.id rfl
theorem QyV (op t x c s l) : oop P D (.binOp op t x (.const (.string c)) s) f K k l = Zr (Qjh P t) op (ev f x) (ev f (.const (.string c))) (fun v => k v K) () := _root_.id rfl
theorem Qy0 (op t x s l) (h : Qdr P t = true) : oop P D (.binOp op t x (.const (.slice none 0 0)) s) f K k l = Qij op (ev f x) (fun v => k v K) () := by simp [oop, QaG, h]
theorem QCI (g caps l) : oop P D (.makeFunc (.func g) (List.toArray []) (List.toArray caps)) f K k l = k (.clo g (caps.map (ev f))) K := by simp [oop]
theorem QFV (s t x l) (h : bsl P s = true) : oop P D (.convert s t x) f K k l = Qps K (ti P t) (ev f x) (fun v => k v K) () := by simp [oop, h]
theorem QIx (s t x l) (h : bsl P s = false) (h2 : tok P s = true) : oop P D (.convert s t x) f K k l = Qof (ti P t) (ev f x) (fun v => k v K) () := by simp [oop, h, h2]
theorem QGS (t x lo hi l) : oop P D (.slice t x lo hi none) f K k l = QfJ (ti P t) (ev f x) (lo.map (ev f)) (hi.map (ev f)) (fun v => k v K) () := _root_.id rfl
theorem QBz (t x i l) : oop P D (.index t x i) f K k l = Qun (ti P t) (ev f x) (ev f i) (fun v => k v K) () := _root_.id rfl
theorem QQS (op t x l) : oop P D (.unOp op t x) f K k l = oun op (ev f x) (fun v => k v K) () := _root_.id rfl
theorem QQd (t x fl l) : oop P D (.fieldAddr t x fl) f K k l = Qsu K (ev f x) (tfo P t fl) (fun v => k v K) () := _root_.id rfl
theorem QOu (t x i l) : oop P D (.indexAddr t x i) f K k l = QoH K (ti P t) (ev f x) (ev f i) (fun v => k v K) () := _root_.id rfl
theorem QJ5 (x i l) : oop P D (.extract x i) f K k l = Qtq (ev f x) i (fun v => k v K) () := _root_.id rfl
theorem QEH (x t ts l) : oop P D (.call ⟨.builtin .len, List.toArray [x], List.toArray (t :: ts)⟩) f K k l = Qpx K (ti P t) (ev f x) (fun v => k v K) () := _root_.id rfl
theorem QIN (x y ts l) : oop P D (.call ⟨.builtin .min, List.toArray [x, y], ts⟩) f K k l = QtM (ev f x) (ev f y) (fun v => k v K) () := _root_.id rfl
theorem QHb (x y ts l) : oop P D (.call ⟨.builtin .max, List.toArray [x, y], ts⟩) f K k l = Qtj (ev f x) (ev f y) (fun v => k v K) () := _root_.id rfl
theorem QA6 (g args ts l) : oop P D (.call ⟨.value g, List.toArray args, ts⟩) f K k l = QqC (ev f g) (fun g caps => Qel D g K (args.map (ev f) ++ caps) k ()) () := _root_.id rfl
theorem QCh (g caps) (k : FuncId → List AV → Option β) (l) : QqC (.clo g caps) k l = k g caps := _root_.id rfl
theorem Qxc (g vs l) : Qel D g K vs k l = Xg (D.p g (QlU (D.z g) (Qb5 K vs))) (fun x => k (Vi K.length x).1 (K ++ (Vi K.length x).2)) () := _root_.id rfl
end
def QAZ {β : Type} (o : Option Bool) (k : Bool → Option β) (_ : Lk k) : Option β := match o with | some b => k b | none => none
section
variable {β : Type} {k : AV → Option β} {c : IntKind} {a b : Int} {te : Option (List CK)}
theorem QDO (l) : Zr te .add (.i c a) (.i c b) k l = k (.i c (c.wrap (a + b))) := by simp [Zr]
theorem QGQ (l) : Zr te .sub (.i c a) (.i c b) k l = k (.i c (c.wrap (a - b))) := by simp [Zr]
theorem QHx (l) : Zr te .mul (.i c a) (.i c b) k l = k (.i c (c.wrap (a * b))) := by simp [Zr]
theorem QCR (l) : Zr te .quo (.i c a) (.i c b) k l = Q8 (!decide (b = 0)) (k (.i c (c.wrap (a.tdiv b)))) () := by simp [Zr]
theorem QBF (l) : Zr te .rem (.i c a) (.i c b) k l = Q8 (!decide (b = 0)) (k (.i c (a.tmod b))) () := by simp [Zr]
theorem QF8 (l) : Zr te .eql (.i c a) (.i c b) k l = k (.b (decide (a = b))) := by simp [Zr]
theorem QHE (l) : Zr te .neq (.i c a) (.i c b) k l = k (.b (!decide (a = b))) := by simp [Zr]
theorem QEi (l) : Zr te .lss (.i c a) (.i c b) k l = k (.b (decide (a < b))) := by simp [Zr]
theorem QCA (l) : Zr te .leq (.i c a) (.i c b) k l = k (.b (decide (a ≤ b))) := by simp [Zr]
theorem QIA (l) : Zr te .gtr (.i c a) (.i c b) k l = k (.b (decide (b < a))) := by simp [Zr]
theorem QBC (l) : Zr te .geq (.i c a) (.i c b) k l = k (.b (decide (b ≤ a))) := by simp [Zr]
theorem QD3 (ks xs ys l) : Zr (some ks) .eql (.agg xs) (.agg ys) k l = QAZ (QK ks xs ys) (fun b => k (.b b)) () := _root_.id rfl
theorem QJI (ks xs ys l) : Zr (some ks) .neq (.agg xs) (.agg ys) k l = QAZ (QK ks xs ys) (fun b => k (.b (!b))) () := _root_.id rfl
theorem QG3 (x y l) : Zr (some [.t]) .eql (.b x) (.b y) k l = k (.b (decide (x = y))) := _root_.id rfl
theorem QDJ (x y l) : Zr (some [.t]) .neq (.b x) (.b y) k l = k (.b (!decide (x = y))) := _root_.id rfl
theorem QJ4 (b) (k : Bool → Option β) (l) : QAZ (some b) k l = k b := _root_.id rfl
theorem Qys (x y l) : Zr te .add (.s x) (.s y) k l = Q8 (QDz x y) (k (.s (QGN x y))) () := by simp [Zr, QDz, QGN]
theorem QyI (x y l) : Zr te .eql (.s x) (.s y) k l = k (.b (decide (x = y))) := by simp [Zr]
theorem QAt (x y l) : Zr te .neq (.s x) (.s y) k l = k (.b (!decide (x = y))) := by simp [Zr]
def QxT (o : Option AV) (k : AV → Option β) (_ : Lk k) : Option β := match o with | some c => k c | none => none
theorem QG8 (cs i l) : Qtq (.tup cs) i k l = QxT (cs[i]?) k () := _root_.id rfl
theorem Qzs (c l) : QxT (some c) k l = k c := _root_.id rfl
theorem QFH : QK [] [] [] = some true := _root_.id rfl
theorem QH0 (ks c x y xs ys) : QK (.i :: ks) (.i c x :: xs) (.i c y :: ys) = (QK ks xs ys).map (decide (x = y) && ·) := by simp [QK]
theorem QCr (ks x y xs ys) : QK (.b :: ks) (.b x :: xs) (.b y :: ys) = (QK ks xs ys).map (decide (x = y) && ·) := _root_.id rfl
theorem QHq (ks x y xs ys) : QK (.s :: ks) (.s x :: xs) (.s y :: ys) = (QK ks xs ys).map (decide (x = y) && ·) := _root_.id rfl
theorem QEs (x l) : oun .not (.b x) k l = k (.b (!x)) := _root_.id rfl
theorem QIF (l) : oun .neg (.i c a) k l = k (.i c (c.wrap (-a))) := _root_.id rfl
theorem QQB (x y : AV) (c : Bool) (l) : QiS (.b c) x y k l = cond c (k x) (k y) := _root_.id rfl
theorem QxC (x y : AV) (l) : QiS (.b true) x y k l = k x := _root_.id rfl
theorem Qw2 (x y : AV) (l) : QiS (.b false) x y k l = k y := _root_.id rfl
theorem QxA (x y : Bool) (c : Bool) (l) : QiS (.b c) (.b x) (.b y) k l = k (.b (cond c x y)) := by cases c <;> rfl
theorem QIv (l) : QtM (.i c a) (.i c b) k l = k (.i c (if b < a then b else a)) := _root_.id rfl
theorem QEm (l) : Qtj (.i c a) (.i c b) k l = k (.i c (if a < b then b else a)) := _root_.id rfl
theorem QB2 (e : Option Ent) (K : KS) : kg (e :: K) 0 = e := _root_.id rfl
theorem QFG (e : Option Ent) (K : KS) (j : Nat) : kg (e :: K) (j + 1) = kg K j := _root_.id rfl
theorem Qzm {α : Type} (e e' : α) (K : List α) : (e :: K).set 0 e' = e' :: K := _root_.id rfl
theorem Qzd {α : Type} (e e' : α) (K : List α) (j : Nat) : (e :: K).set (j + 1) e' = e :: K.set j e' := _root_.id rfl
theorem QDW {α : Type} (e : α) (K L : List α) : (e :: K) ++ L = e :: (K ++ L) := _root_.id rfl
theorem QAM {α : Type} (L : List α) : [] ++ L = L := _root_.id rfl
theorem Qyw {α : Type} : ([] : List α).length = 0 := _root_.id rfl
theorem QAz {α : Type} (e : α) (K : List α) : (e :: K).length = K.length + 1 := _root_.id rfl
theorem QwD {α : Type} (K : List α) : K.drop 0 = K := _root_.id rfl
theorem QvM {α : Type} (e : α) (K : List α) (n : Nat) : (e :: K).drop (n + 1) = K.drop n := _root_.id rfl
theorem QvY {α : Type} (K : List α) : K.take 0 = [] := by simp
theorem QvV {α : Type} (e : α) (K : List α) (n : Nat) : (e :: K).take (n + 1) = e :: K.take n := _root_.id rfl
def lnR (r : List (List AV)) : Int := r.length
theorem Qt0 (K e m n r l) : Qpx K (.sl e m) (.imm n r) k l = k (.i .i64 (lnR r)) := _root_.id rfl
theorem QGM (n r) (k : AV → Option β) (l) : Qij .eql (.imm n r) k l = Qjq r.isEmpty (k (.b true)) (k (.b false)) := _root_.id rfl
theorem Qyx (n r) (k : AV → Option β) (l) : Qij .neq (.imm n r) k l = Qjq r.isEmpty (k (.b false)) (k (.b true)) := _root_.id rfl
theorem QyW (x : Option β) (b) : Qjq b x x = x := by cases b <;> simp [Qjq, oeq]
theorem QzF (n : Nat) (R : List (List AV)) (b : Nat) (m) : Qjq R.isEmpty (some (AV.own n [])) (Q8 (decide (R.length * b ≤ 140737488355328)) (some (AV.own n R)) m) = Q8 (decide (R.length * b ≤ 140737488355328)) (some (AV.own n R)) () := by
 cases R with
 | nil => simp [Qjq, oeq, Q8]
 | cons r R => rfl
theorem Qt4 (K e m l) : Qpx K (.sl e m) .nil k l = k (.i .i64 0) := _root_.id rfl
def Qx2 (e : Option Ent) (k : AV → Option β) (_ : Lk k) : Option β := match e with | some e => k (.i .i64 (lnR e.rows)) | none => none
theorem QAl (c d a l) : Qof (.int c) (.i d a) k l = k (.i c (c.wrap a)) := _root_.id rfl
def Qqh (o : Option (List UInt8)) (k : AV → Option β) (_ : Lk k) : Option β := match o with | some s => k (.s s) | none => none
def Qt1 (e : Option Ent) (k : AV → Option β) (_ : Lk k) : Option β := match e with | some (.lst 1 rows) => Qqh (Qa3 rows) k () | _ => none
theorem QIo (K j l) : Qps K .str (.sl j) k l = Qt1 (kg K j) k () := _root_.id rfl
theorem QyZ (r l) : Qt1 (some (.lst 1 r)) k l = Qqh (Qa3 r) k () := _root_.id rfl
theorem QyK (s l) : Qqh (some s) k l = k (.s s) := _root_.id rfl
theorem QAX : Qa3 [] = some [] := _root_.id rfl
theorem Qwa (n r) : Qa3 ([.i .u8 n] :: r) = (Qa3 r).map (UInt8.ofNat n.toNat :: ·) := by
 show (match Qm0 [.i .u8 n], Qa3 r with | some x, some xs => some (x :: xs) | _, _ => none) = _
 simp only [Qm0]
 cases Qa3 r <;> rfl
theorem Qvo (K e m j l) : Qpx K (.sl e m) (.sl j) k l = Qx2 (kg K j) k () := _root_.id rfl
theorem Qu5 (n r l) : Qx2 (some (.lst n r)) k l = k (.i .i64 (lnR r)) := _root_.id rfl
theorem Qua (K x l) : Qpx K .str (.s x) k l = k (.i .i64 (ln x)) := _root_.id rfl
theorem QzK (K n r i p o t l) : Qsu K (.iptr n r i p) (some (o, t)) k l = k (.iptr n r i (p + o)) := _root_.id rfl
def Qx9 (e : Option Ent) (v : AV) (k : AV → Option β) (_ : Lk k) : Option β := match e with | some _ => k v | none => none
theorem QGd (K j i p o t l) : Qsu K (.ptr j i p) (some (o, t)) k l = Qx9 (kg K j) (.ptr j i (p + o)) k () := _root_.id rfl
theorem QAY (e v l) : Qx9 (some e) v k l = k v := _root_.id rfl
theorem QAs (K e m r kd i l) : QoH K (.sl e m) (.imm m r) (.i kd i) k l = Q8 (inb r i) (k (.iptr m r i.toNat 0)) () := by simp [QoH]
def Qs0 (e : Option Ent) (m : Nat) (j : Nat) (i : Int) (k : AV → Option β) (_ : Lk k) : Option β := match e with | some e => if m = e.n then Q8 (inb e.rows i) (k (.ptr j i.toNat 0)) () else none | none => none
theorem QEq (K e m j kd i l) : QoH K (.sl e m) (.sl j) (.i kd i) k l = Qs0 (kg K j) m j i k () := _root_.id rfl
theorem QBi (m r j i l) : Qs0 (some (.lst m r)) m j i k l = Q8 (inb r i) (k (.ptr j i.toNat 0)) () := by simp [Qs0, Ent.n, Ent.rows]
def Qx8 (e : Option Ent) (n : Nat) (i : Int) (p : AV) (k : AV → Option β) (_ : Lk k) : Option β := match e with | some _ => Q8 (QsP n i) (k p) () | none => none
theorem QAH (K e n m j r o kd i l) : QoH K (.arr n e m) (.ptr j r o) (.i kd i) k l = Qx8 (kg K j) n i (.ptr j r (o + i.toNat * m)) k () := _root_.id rfl
theorem Qy7 (e n i p l) : Qx8 (some e) n i p k l = Q8 (QsP n i) (k p) () := _root_.id rfl
theorem Qza (e m r h c l) : QfJ (.sl e m) (.imm m r) none (some (.i c h)) k l = Q8 (slB 0 h (lnR r)) (k (.imm m (cut r 0 h))) () := by simp [QfJ, bd, lnR]
theorem Qz9 (e m r h c l) : QfJ (.sl e m) (.imm m r) (some (.i c h)) none k l = Q8 (slB h (lnR r) (lnR r)) (k (.imm m (cut r h (lnR r)))) () := by simp [QfJ, bd, lnR]
theorem Qzo (e m r h h' c c' l) : QfJ (.sl e m) (.imm m r) (some (.i c h)) (some (.i c' h')) k l = Q8 (slB h h' (lnR r)) (k (.imm m (cut r h h'))) () := by simp [QfJ, bd, lnR]
theorem QAU (r h c l) : QfJ .str (.s r) none (some (.i c h)) k l = Q8 (slB 0 h (ln r)) (k (.s (cut r 0 h))) () := by simp [QfJ, bd, ln]
theorem QyR (r h c l) : QfJ .str (.s r) (some (.i c h)) none k l = Q8 (slB h (ln r) (ln r)) (k (.s (cut r h (ln r)))) () := by simp [QfJ, bd, ln]
theorem Qz5 (r h h' c c' l) : QfJ .str (.s r) (some (.i c h)) (some (.i c' h')) k l = Q8 (slB h h' (ln r)) (k (.s (cut r h h'))) () := by simp [QfJ, bd, ln]
theorem QFk (r i c l) : Qun .str (.s r) (.i c i) k l = Q8 (inb r i) (k (.i .u8 ((gt r i).toNat : Int))) () := _root_.id rfl
class Strs (cs : List AV) (xs : outParam (List (List UInt8))) : Prop where
 eq : cs = xs.map AV.s
instance : Strs [] [] := ⟨rfl⟩
instance (x cs xs) [h : Strs cs xs] : Strs (.s x :: cs) (x :: xs) := ⟨by rw [h.eq]; rfl⟩
theorem Qzx {cs : List AV} {xs : List (List UInt8)} [h : Strs cs xs] (i : Int) (hi : QsP cs.length i = true) (l) : Qf7 .one (cs.drop (0 + i.toNat * 1)) k l = k (.s (gt xs i)) := by
 have hcs := h.eq
 subst hcs
 simp [QsP] at hi
 have h2 : i.toNat < xs.length := by omega
 rw [Nat.zero_add, Nat.mul_one, List.drop_eq_getElem_cons (by simpa using h2)]
 simp [Qf7, gt, List.getD_eq_getElem?_getD, h2]
theorem QLB (K n r i o) : Xe K (.iptr n r i o) = ((QF r i).drop o).map ld := _root_.id rfl
def Qp9 (e : Option Ent) (i o : Nat) : List AV := match e with | some (.box cs) => if i = 0 then cs.drop o else [] | some (.lst _ rows) => ((QF rows i).drop o).map ld | none => []
theorem m_c (K j i o) : Xe K (.ptr j i o) = Qp9 (kg K j) i o := _root_.id rfl
theorem QA9 (cs o) : Qp9 (some (.box cs)) 0 o = cs.drop o := _root_.id rfl
theorem QAh (n r i o) : Qp9 (some (.lst n r)) i o = ((QF r i).drop o).map ld := _root_.id rfl
theorem QzQ {α γ : Type} (g : α → γ) : [].map g = [] := _root_.id rfl
theorem Qz1 {α γ : Type} (g : α → γ) (x l) : (x :: l).map g = g x :: l.map g := _root_.id rfl
theorem QBX (x) : ld (.b x) = .b x := _root_.id rfl
theorem QGu (c x) : ld (.i c x) = .i c x := _root_.id rfl
theorem QIV (x) : ld (.s x) = .s x := _root_.id rfl
theorem Qxq (n x) : ld (.imm n x) = .imm n x := _root_.id rfl
theorem QwG : ld .nil = .nil := _root_.id rfl
theorem Qvq (n x) : ld (.own n x) = .u := _root_.id rfl
theorem Qwy (c cs l) : Qf7 .one (c :: cs) k l = k c := _root_.id rfl
def Qt5 (b : Bool) (v : AV) (k : AV → Option β) (_ : Lk k) : Option β := cond b (k v) none
theorem Qws (m cs l) : Qf7 (.agg m) cs k l = Qt5 (Nat.blt 0 m && Nat.ble m cs.length) (.agg (cs.take m)) k () :=
 QbX (by simp only [Bool.and_eq_true, QjH, Qg1]) _ _
theorem Qv5 (v l) : Qt5 true v k l = k v := _root_.id rfl
theorem QvJ (K cs) (k : AV → KS → Option β) (l) : QjZ K (some cs) k l = Vv (K ++ [some (.box cs)]) (fun K' => k (.ptr K.length 0 0) K') () := _root_.id rfl
def okB (b : Bool) (x : Option β) (_ : Lk x) : Option β := cond b x none
theorem QM0 (x : Option β) (l) : okB true x l = x := _root_.id rfl
theorem QzU (K cs) (k : AV → KS → Option β) (l) : QpU K (.agg cs) k l = okB (cs.all (JI K)) (Vv (K ++ [some (.box cs)]) (fun K' => k (.ptr K.length 0 0) K') ()) () := by
 simp only [QpU, okB]; cases cs.all (JI K) <;> rfl
theorem Qzk (K c x) (k : AV → KS → Option β) (l) : QpU K (.i c x) k l = Vv (K ++ [some (.box [.i c x])]) (fun K' => k (.ptr K.length 0 0) K') () := _root_.id rfl
theorem QAG {α : Type} (p : α → Bool) : [].all p = true := _root_.id rfl
theorem QyH {α : Type} (p : α → Bool) (x l) : (x :: l).all p = (p x && l.all p) := _root_.id rfl
theorem QHL (K x) : JI K (.b x) = true := _root_.id rfl
theorem QCK (K c x) : JI K (.i c x) = true := _root_.id rfl
theorem QHN (K x) : JI K (.s x) = true := _root_.id rfl
theorem QDZ (K) : JI K .nil = true := _root_.id rfl
theorem Qvx (K n r) : JI K (.imm n r) = true := _root_.id rfl
theorem Qvt (K n r) : JI K (.clo n r) = true := _root_.id rfl
theorem QzW (K j) : JI K (.sl j) = (kg K j).isSome := _root_.id rfl
theorem Qw3 (K j i o) : JI K (.ptr j i o) = (kg K j).isSome := _root_.id rfl
theorem QOq {α : Type} (x : α) : (some x).isSome = true := _root_.id rfl
theorem QDL (x) : AV.closed (.b x) = true := _root_.id rfl
theorem QEr (c x) : AV.closed (.i c x) = true := _root_.id rfl
theorem QFY (x) : AV.closed (.s x) = true := _root_.id rfl
theorem QKb : AV.closed .nil = true := _root_.id rfl
theorem Qw0 (n r) : AV.closed (.imm n r) = true := _root_.id rfl
theorem QAK (x : Bool) : (false && x) = false := _root_.id rfl
theorem QIp (x : Bool) : (true && x) = x := _root_.id rfl
def Qfr (fl : Bool) (ns : List Nat) (K : KS) (e : Option Ent) (t : TK) (j i o : Nat) (v : AV) (k : KS → Option β) (_ : Lk k) : Option β :=
 match e with
  | some (.box cs) => if i = 0 then QfU cs o t v (JI K) (fun cs => Vv (K.set j (some (.box cs))) k ()) () else none
  | some (.lst n rows) => if (J4 v).all clq = true then (if i < rows.length then QfU (QF rows i) o t v AV.closed (fun r => Vv (K.set j (some (.lst n (rows.set i r)))) k ()) () else none) else if fl = false then Qhb ns K t j i o n rows v k () else none
  | none => none
theorem Qvr (fl ns K t j i o v) (k : KS → Option β) (l) : Qg4 fl ns K t (.ptr j i o) v k l = Qfr fl ns K (kg K j) t j i o v k () := by
 show (match kg K j with | some (.lst n rows) => _ | _ => _) = _
 cases h : kg K j with
 | none => simp [Qfr, QiM, h]
 | some e => cases e <;> simp [Qfr, QiM, h]
theorem QtV (fl ns K cs t j o v) (k : KS → Option β) (l) : Qfr fl ns K (some (.box cs)) t j 0 o v k l = QfU cs o t v (JI K) (fun cs => Vv (K.set j (some (.box cs))) k ()) () := _root_.id rfl
def QjO (b fl : Bool) (ns : List Nat) (K : KS) (n : Nat) (r : List (List AV)) (t : TK) (j i o : Nat) (v : AV) (k : KS → Option β) (_ : Lk k) : Option β :=
 cond b (if i < r.length then QfU (QF r i) o t v AV.closed (fun r' => Vv (K.set j (some (.lst n (r.set i r')))) k ()) () else none) (if fl = false then Qhb ns K t j i o n r v k () else none)
theorem QtD (fl ns K n r t j i o v) (k : KS → Option β) (l) : Qfr fl ns K (some (.lst n r)) t j i o v k l = QjO ((J4 v).all clq) fl ns K n r t j i o v k () := by
 simp only [Qfr, QjO]
 cases (J4 v).all clq <;> rfl
theorem QHn (ds) : J4 (.agg ds) = ds := _root_.id rfl
theorem QJy (c x) : J4 (.i c x) = [.i c x] := _root_.id rfl
theorem QER (x) : J4 (.b x) = [.b x] := _root_.id rfl
theorem QDM (x) : J4 (.s x) = [.s x] := _root_.id rfl
theorem QHk : J4 .nil = [.nil] := _root_.id rfl
theorem QFq (n r) : J4 (.imm n r) = [.imm n r] := _root_.id rfl
theorem QC1 (j) : J4 (.sl j) = [.sl j] := _root_.id rfl
theorem QBf (j) : clq (.sl j) = false := _root_.id rfl
theorem QFt (x) : clq (.b x) = true := _root_.id rfl
theorem QJ7 (c x) : clq (.i c x) = true := _root_.id rfl
theorem QCE (x) : clq (.s x) = true := _root_.id rfl
theorem QEI : clq .nil = false := _root_.id rfl
theorem QDw (n r) : clq (.imm n r) = true := _root_.id rfl
theorem QQ9 (cs) : nz [] cs = cs := by cases cs <;> rfl
theorem QQ6 (ns) : nz ns [] = [] := by cases ns <;> rfl
theorem QQH (n ns c cs) : nz (n :: ns) (c :: cs) = nzc n c :: nz ns cs := _root_.id rfl
theorem QPH (n x) : nzc n (.b x) = .b x := _root_.id rfl
theorem QLY (n c x) : nzc n (.i c x) = .i c x := _root_.id rfl
theorem QN1 (n x) : nzc n (.s x) = .s x := _root_.id rfl
theorem QNg (n) : nzc n .nil = .own n [] := _root_.id rfl
theorem QRb (n m r) : nzc n (.own m r) = .own m r := _root_.id rfl
theorem QQJ (n m r) : nzc n (.imm m r) = .imm m r := _root_.id rfl
theorem QLd (k v) : Qnj (.z k) v = nzc k v := _root_.id rfl
theorem QK7 (v) : Qnj .n v = v := _root_.id rfl
theorem QML (ns cs) : Qnj (.a ns) (.agg cs) = .agg (nz ns cs) := _root_.id rfl
theorem QMR (v) : QlZ [] v = v := _root_.id rfl
theorem QNK (s v) : QlZ [s] v = Qnj s v := _root_.id rfl
theorem QPW (s s' ss vs) : QlZ (s :: s' :: ss) (.tup vs) = .tup (QpF (s :: s' :: ss) vs) := _root_.id rfl
theorem QN5 (s ss v vs) : QpF (s :: ss) (v :: vs) = Qnj s v :: QpF ss vs := _root_.id rfl
theorem QBy (vs) : QpF [] vs = vs := _root_.id rfl
theorem QGW (m ds l) : Qm6 (.agg m) (.agg ds) l = (m == l) := _root_.id rfl
theorem QFC (j l) : Qm6 .one (.sl j) l = (l == 1) := _root_.id rfl
def QrI (ns : List Nat) (K : KS) (a : Option (KS × List AV)) (t : TK) (j o n i : Nat) (r : List (List AV)) (v : AV) (k : KS → Option β) (_ : Lk k) : Option β :=
 match a with
  | some (K1, ds) => if (kg K1 j).isSome = true ∧ Qm6 t v ds.length = true ∧ o + ds.length ≤ (QF r i).length then Vv (K1.set j (some (.lst n (r.set i (putCells (QF r i) o (nz ns ds)))))) k () else none
  | none => none
theorem QNe (ns K K1 ds t j o n i r v) (k : KS → Option β) (l) : QrI ns K (some (K1, ds)) t j o n i r v k l = okB ((kg K1 j).isSome && (Qm6 t v ds.length && Nat.ble (o + ds.length) (QF r i).length)) (Vv (K1.set j (some (.lst n (r.set i (putCells (QF r i) o (nz ns ds)))))) k ()) () :=
 QbX (by simp only [Bool.and_eq_true, Qg1]) _ _
def Qmf (r : List (List AV)) (i : Nat) : Bool := Nat.blt i r.length
theorem w_n (D : Orc) (f : Fr) (K : KS) (j i o q r v m rs) (k : AV → KS → Option β) (l) : onr D f K j i o q r (v, [some (.lst m rs)]) k l = Q8 (Qmf r i) (Vv (K.set j (some (.lst q (r.set i (putCells (QF r i) o [.own m rs])))) ++ [none]) (fun K' => k v K') ()) () := _root_.id rfl
theorem QAn (x r) : Qmf (x :: r) 0 = true := by simp [Qmf, Nat.blt_eq]
theorem Qzn (x r i) : Qmf (x :: r) (i + 1) = Qmf r i := by
 unfold Qmf; rw [Bool.eq_iff_iff, Nat.blt_eq, Nat.blt_eq]; simp
theorem Qye (fl ns K n r t j i o v) (k : KS → Option β) (l) : QjO true fl ns K n r t j i o v k l = okB (Qmf r i) (QfU (QF r i) o t v AV.closed (fun r' => Vv (K.set j (some (.lst n (r.set i r')))) k ()) ()) () :=
 QbX QjH _ _
theorem QzG (ns K n r t j i o v) (k : KS → Option β) (l) : QjO false false ns K n r t j i o v k l = okB (Qmf r i) (QrI ns K (Vb K (J4 v)) t j o n i r v k ()) () :=
 QbX QjH _ _
theorem Qy6 (cs o m ds ok) (k : List AV → Option β) (l) : QfU cs o (.agg m) (.agg ds) ok k l = okB ((m == ds.length) && (Nat.ble (o + m) cs.length && ds.all ok)) (k (putCells cs o ds)) () :=
 QbX (by simp only [Bool.and_eq_true, beq_iff_eq, Qg1]) _ _
theorem Qr1 (cs : List AV) (o : Nat) (v : AV) (ok : AV → Bool) (k : List AV → Option β) : (if o < cs.length ∧ ok v = true then k (cs.set o v) else none) = okB (Nat.blt o cs.length && ok v) (k (cs.set o v)) () :=
 QbX (by simp only [Bool.and_eq_true, QjH]) _ _
theorem QAL (cs o x ok) (k : List AV → Option β) (l) : QfU cs o .one (.b x) ok k l = okB (Nat.blt o cs.length && ok (.b x)) (k (cs.set o (.b x))) () := Qr1 ..
theorem QzY (cs o c x ok) (k : List AV → Option β) (l) : QfU cs o .one (.i c x) ok k l = okB (Nat.blt o cs.length && ok (.i c x)) (k (cs.set o (.i c x))) () := Qr1 ..
theorem Qyz (cs o x ok) (k : List AV → Option β) (l) : QfU cs o .one (.s x) ok k l = okB (Nat.blt o cs.length && ok (.s x)) (k (cs.set o (.s x))) () := Qr1 ..
theorem QA2 (cs o ok) (k : List AV → Option β) (l) : QfU cs o .one .nil ok k l = okB (Nat.blt o cs.length && ok .nil) (k (cs.set o .nil)) () := Qr1 ..
theorem Qw5 (cs o j ok) (k : List AV → Option β) (l) : QfU cs o .one (.sl j) ok k l = okB (Nat.blt o cs.length && ok (.sl j)) (k (cs.set o (.sl j))) () := Qr1 ..
theorem QtA (cs o n r ok) (k : List AV → Option β) (l) : QfU cs o .one (.imm n r) ok k l = okB (Nat.blt o cs.length && ok (.imm n r)) (k (cs.set o (.imm n r))) () := Qr1 ..
theorem QLx (cs o ds) : putCells cs o ds = cs.take o ++ ds ++ cs.drop (o + ds.length) := _root_.id rfl
theorem Qzh (P z rs f K) : QdO P z rs .normal f K = Xg (Qb6 f K P rs) (fun vs => Q8 ((Qey vs).flat && (Qjs (tkl z K) && Nat.ble z.length K.length)) (some (Qey vs, tkl z K)) ()) () := _root_.id rfl
theorem Qyi (P z rs f K) : QdO P z rs .ret f K = Xg (Qb6 f K P rs) (fun vs => Q8 ((Qey vs).flat && (Qjs (tkl z K) && Nat.ble z.length K.length)) (some (Qey vs, tkl z K)) ()) () := _root_.id rfl
theorem QCu (K) : tkl [] K = [] := by cases K <;> rfl
theorem QCx (x z e K) : tkl (x :: z) (e :: K) = e :: tkl z K := _root_.id rfl
theorem QwX (P sh rs f K) : QgC P sh rs .normal f K = Xg (Qb6 f K P rs) (fun vs => (QaO K (Qey vs)).map fun p => QlZ sh p.2) () := _root_.id rfl
theorem QwC (P sh rs f K) : QgC P sh rs .ret f K = Xg (Qb6 f K P rs) (fun vs => (QaO K (Qey vs)).map fun p => QlZ sh p.2) () := _root_.id rfl
theorem QIB (f K P) : Qb6 f K P [] = some [] := _root_.id rfl
theorem QI6 (f K P t rs) : Qb6 f K P (.tmp t :: rs) = (Qb6 f K P rs).map (f t :: ·) := _root_.id rfl
theorem QyC (f K P x t rs) : Qb6 f K P (.cell x t :: rs) = Xg (Qf7 (tk P t) (Xe K (f x)) some ()) (fun v => (Qb6 f K P rs).map (v :: ·)) () := _root_.id rfl
theorem Qlx {α γ : Type} (g : α → γ) (x : α) : (some x).map g = some (g x) := _root_.id rfl
theorem Qqx {α γ : Type} (g : α → γ) : (none : Option α).map g = none := _root_.id rfl
theorem QEp (v) : Qey [v] = v := _root_.id rfl
theorem QHr (v w vs) : Qey (v :: w :: vs) = .tup (v :: w :: vs) := _root_.id rfl
theorem QAg : Qey [] = .tup [] := _root_.id rfl
theorem x_b (K x) : QaO K (.b x) = some (K, .b x) := _root_.id rfl
theorem x_i (K c x) : QaO K (.i c x) = some (K, .i c x) := _root_.id rfl
theorem x_s (K x) : QaO K (.s x) = some (K, .s x) := _root_.id rfl
theorem QFf (K) : QaO K .nil = some (K, .nil) := _root_.id rfl
theorem QIU (K n r) : QaO K (.imm n r) = none := by simp [QaO]
theorem QIg (K cs) : QaO K (.agg cs) = (Qdq K cs).map fun p => (p.1, .agg p.2) := by simp [QaO]
theorem QFN (K cs) : QaO K (.tup cs) = (Qdq K cs).map fun p => (p.1, .tup p.2) := by simp [QaO]
def Qx4 (K : KS) (e : Option Ent) (j : Nat) : Option (KS × AV) := match e with | some (.lst n rows) => if QO rows = true then some (K.set j none, .own n rows) else none | _ => none
theorem QOb (K j) : QaO K (.sl j) = Qx4 K (kg K j) j := by rw [QaO]; rfl
theorem QFd (K n r j) : Qx4 K (some (.lst n r)) j = cond (QO r) (some (K.set j none, .own n r)) none := QbX Iff.rfl _ _
theorem QAx (K) : Qdq K [] = some (K, []) := by simp [Qdq]
def Qqp (e : Option (KS × AV)) (cs : List AV) : Option (KS × List AV) := match e with | some (K1, c') => (Qdq K1 cs).map fun p => (p.1, c' :: p.2) | none => none
theorem Qxe (K c cs) : Qdq K (c :: cs) = Qqp (QaO K c) cs := by rw [Qdq]; rfl
theorem QPh (K c cs) : Qqp (some (K, c)) cs = (Qdq K cs).map fun p => (p.1, c :: p.2) := _root_.id rfl
theorem QNL (cs) : Qqp none cs = none := _root_.id rfl
theorem QzS (z sl rg f K) (k : Fr → KS → Option β) (l) : Qeh z sl rg f K k l = Vf rg f K [] (fun f K π => Q8 (ndB π) (onz z π (Vv (QuN K π) (fun K' => k (Qv1 f π sl) K') ()) ()) ()) () := _root_.id rfl
theorem QJ0 (π) (q : Option β) (l) : onz [] π q l = q := _root_.id rfl
theorem QGv (x z π) (q : Option β) (l) : onz (x :: z) π q l = Q8 (pfx (x :: z) π) q () := _root_.id rfl
theorem QPi (π) : pfx [] π = true := _root_.id rfl
theorem QOT (x z y π) : pfx (x :: z) (y :: π) = ((x == y) && pfx z π) := by rw [← QiG]; rfl
theorem QQr (x : Nat) : ([] : List Nat).contains x = false := _root_.id rfl
theorem QN4 (x y : Nat) (l : List Nat) : (y :: l).contains x = ((x == y) || l.contains x) := List.contains_cons
theorem QOd (b : Bool) : (false || b) = b := by cases b <;> rfl
theorem QOD (b : Bool) : (true || b) = true := by cases b <;> rfl
theorem QxQ (f K π) (k : Fr → KS → List Nat → Option β) (l) : Vf [] f K π k l = k f K π := _root_.id rfl
theorem n_r (i r f K π) (k : Fr → KS → List Nat → Option β) (l) : Vf (.r i :: r) f K π k l = Vf r f K (π ++ [i]) k () := _root_.id rfl
def Qkp (v : AV) (t n : Nat) (r : List Pt) (f : Fr) (K : KS) (π : List Nat) (k : Fr → KS → List Nat → Option β) (_ : Lk (f, k)) : Option β := match v with
  | .sl j => Vf r f K (π ++ [j]) k ()
  | .ptr j _ _ => Vf r f K (π ++ [j]) k ()
  | .nil => Vf r (up f t (.sl K.length)) (K ++ [some (.lst n [])]) (π ++ [K.length]) k ()
  | _ => none
theorem n_s (t n r f K π) (k : Fr → KS → List Nat → Option β) (l) : Vf (.s t n :: r) f K π k l = Qkp (f t) t n r f K π k () := by simp only [Vf, Qkp]; rfl
theorem QH2 (j t n r f K π) (k : Fr → KS → List Nat → Option β) (l) : Qkp (.sl j) t n r f K π k l = Vf r f K (π ++ [j]) k () := _root_.id rfl
theorem QAB (j i o t n r f K π) (k : Fr → KS → List Nat → Option β) (l) : Qkp (.ptr j i o) t n r f K π k l = Vf r f K (π ++ [j]) k () := _root_.id rfl
theorem QAP (t n r f K π) (k : Fr → KS → List Nat → Option β) (l) : Qkp .nil t n r f K π k l = Vf r (up f t (.sl K.length)) (K ++ [some (.lst n [])]) (π ++ [K.length]) k () := _root_.id rfl
def Qle (c : Option AV) (r : List Pt) (f : Fr) (K : KS) (π : List Nat) (k : Fr → KS → List Nat → Option β) (_ : Lk (f, k)) : Option β := match c with
  | some (.sl i) => Vf r f K (π ++ [i]) k ()
  | some (.ptr i _ _) => Vf r f K (π ++ [i]) k ()
  | _ => none
def QnE (e : Option Ent) (o : Nat) (r : List Pt) (f : Fr) (K : KS) (π : List Nat) (k : Fr → KS → List Nat → Option β) (_ : Lk (f, k)) : Option β := match e with
  | some (.box cs) => Qle (cs[o]?) r f K π k ()
  | _ => none
def QpT (q : Option Nat) (o : Nat) (r : List Pt) (f : Fr) (K : KS) (π : List Nat) (k : Fr → KS → List Nat → Option β) (_ : Lk (f, k)) : Option β := match q with
  | some j => QnE (kg K j) o r f K π k ()
  | none => none
theorem n_c (q o n r f K π) (k : Fr → KS → List Nat → Option β) (l) : Vf (.c q o n :: r) f K π k l = QpT (π[q]?) o r f K π k () := by
 simp only [Vf, QpT, QnE, Qle]
 cases π[q]? with
 | none => rfl
 | some j =>
  simp only
  cases kg K j with
  | none => rfl
  | some e =>
   cases e with
   | box cs =>
    simp only
    cases cs[o]? with
    | none => rfl
    | some c => cases c <;> rfl
   | lst _ _ => rfl
theorem QEB (j o r f K π) (k : Fr → KS → List Nat → Option β) (l) : QpT (some j) o r f K π k l = QnE (kg K j) o r f K π k () := _root_.id rfl
theorem QGD (cs o r f K π) (k : Fr → KS → List Nat → Option β) (l) : QnE (some (.box cs)) o r f K π k l = Qle (cs[o]?) r f K π k () := _root_.id rfl
theorem QCw (i r f K π) (k : Fr → KS → List Nat → Option β) (l) : Qle (some (.sl i)) r f K π k l = Vf r f K (π ++ [i]) k () := _root_.id rfl
theorem QIO (i a b r f K π) (k : Fr → KS → List Nat → Option β) (l) : Qle (some (.ptr i a b)) r f K π k l = Vf r f K (π ++ [i]) k () := _root_.id rfl
def QkZ (c : Option AV) (cs : List AV) (t o n : Nat) (r : List Pt) (f : Fr) (K : KS) (π : List Nat) (k : Fr → KS → List Nat → Option β) (_ : Lk (f, k)) : Option β := match c with
  | some (.sl j) => Vf r f K (π ++ [j]) k ()
  | some .nil => Vf r (up f t (.agg (cs.set o (.sl K.length)))) (K ++ [some (.lst n [])]) (π ++ [K.length]) k ()
  | _ => none
def QqX (v : AV) (t o n : Nat) (r : List Pt) (f : Fr) (K : KS) (π : List Nat) (k : Fr → KS → List Nat → Option β) (_ : Lk (f, k)) : Option β := match v with
  | .agg cs => QkZ (cs[o]?) cs t o n r f K π k ()
  | _ => none
theorem n_g (t o n r f K π) (k : Fr → KS → List Nat → Option β) (l) : Vf (.g t o n :: r) f K π k l = QqX (f t) t o n r f K π k () := by
 simp only [Vf, QqX, QkZ]
 cases f t with
 | agg cs =>
  simp only
  cases cs[o]? with
  | none => rfl
  | some c => cases c <;> rfl
 | _ => rfl
theorem QKy (cs t o n r f K π) (k : Fr → KS → List Nat → Option β) (l) : QqX (.agg cs) t o n r f K π k l = QkZ (cs[o]?) cs t o n r f K π k () := _root_.id rfl
theorem QE5 (j cs t o n r f K π) (k : Fr → KS → List Nat → Option β) (l) : QkZ (some (.sl j)) cs t o n r f K π k l = Vf r f K (π ++ [j]) k () := _root_.id rfl
theorem QIY (cs t o n r f K π) (k : Fr → KS → List Nat → Option β) (l) : QkZ (some .nil) cs t o n r f K π k l = Vf r (up f t (.agg (cs.set o (.sl K.length)))) (K ++ [some (.lst n [])]) (π ++ [K.length]) k () := _root_.id rfl
theorem QIH : ndB [] = true := _root_.id rfl
theorem QKD (x l) : ndB (x :: l) = (!l.contains x && ndB l) := _root_.id rfl
theorem QRf (K) : QuN K [] = [] := _root_.id rfl
def krn (K : KS) (π : List Nat) (l : List Nat) : KS := l.map fun j => (kg K j).map (Qgw π)
theorem QNt (K π) : QuN K π = krn K π π := _root_.id rfl
theorem QBc (K π) : krn K π [] = [] := _root_.id rfl
theorem QBg (K π j l) : krn K π (j :: l) = (kg K j).map (Qgw π) :: krn K π l := _root_.id rfl
theorem QEl (π cs) : Qgw π (.box cs) = .box (Qde π cs) := _root_.id rfl
theorem QGB (π n r) : Qgw π (.lst n r) = .lst n r := _root_.id rfl
theorem QCS (π) : Qde π [] = [] := by simp [Qde]
theorem QIT (π c cs) : Qde π (c :: cs) = ren π c :: Qde π cs := by simp [Qde]
def slO : Option Nat → AV | some i => .sl i | none => .u
def Qzv (i o : Nat) : Option Nat → AV | some j => .ptr j i o | none => .u
theorem QCG (i) : slO (some i) = .sl i := _root_.id rfl
theorem QC5 : slO none = .u := _root_.id rfl
theorem QBh (i o j) : Qzv i o (some j) = .ptr j i o := _root_.id rfl
theorem QAb (i o) : Qzv i o none = .u := _root_.id rfl
theorem QzH (π j) : ren π (.sl j) = slO (Qju π j) := by simp only [ren]; rfl
theorem Qvy (π j i o) : ren π (.ptr j i o) = Qzv i o (Qju π j) := by simp only [ren]; rfl
theorem Qv7 (π cs) : ren π (.agg cs) = .agg (Qde π cs) := by simp [ren]
theorem QvO (π cs) : ren π (.tup cs) = .tup (Qde π cs) := by simp [ren]
theorem Qwt (π g cs) : ren π (.clo g cs) = .clo g (Qde π cs) := by simp [ren]
theorem QA8 (π x) : ren π (.b x) = .b x := by simp [ren]
theorem QC9 (π c x) : ren π (.i c x) = .i c x := by simp [ren]
theorem QJl (π x) : ren π (.s x) = .s x := by simp [ren]
theorem QFb (π) : ren π .nil = .nil := by simp [ren]
theorem QIb (π) : ren π .u = .u := by simp [ren]
theorem Qw4 (π n r) : ren π (.imm n r) = .imm n r := by simp [ren]
theorem Qtv (π n r i o) : ren π (.iptr n r i o) = .iptr n r i o := by simp [ren]
theorem QyY (j) : Qju [] j = none := _root_.id rfl
theorem QAa (x l j) : Qju (x :: l) j = sel (x == j) (some 0) ((Qju l j).map (· + 1)) () := by
 rw [Qju]; exact QbX (by simp) _ _
theorem QyT (f π l) : Qv1 f π l = frm (frl f π l) := _root_.id rfl
theorem Qzg (f π) : frl f π [] = [] := _root_.id rfl
theorem QzB (f π t l) : frl f π (t :: l) = (t, ren π (f t)) :: frl f π l := _root_.id rfl
theorem QNj (z la rt f K) : Qe0 z la rt .normal f K = Qeh z la.sl la.rg f K (fun f K => some (.inl (f, K))) () := _root_.id rfl
theorem QPj (z la rt f K) : Qe0 z la rt .ret f K = Qeh z rt.sl rt.rg f K (fun f K => some (.inr (.ret, f, K))) () := _root_.id rfl
theorem QQf (z la rt i f K) : Qe0 z la rt (.exit i) f K = Qeh z la.xs la.xr f K (fun f K => some (.inr (.exit i, f, K))) () := _root_.id rfl
theorem QDS (t x y) : QH t (.seq x y) = (QH t x).or (QH t y) := _root_.id rfl
theorem QAE (t c x y) : QH t (.cond c x y) = (QH t x).or (QH t y) := _root_.id rfl
theorem Qwf (t i x) : QH t (.block i x) = QH t x := _root_.id rfl
theorem QAI (t x) : QH t (.loop x) = sel (tag x == t) (some x) (QH t x) () := _root_.id rfl
theorem QuM (t i o d) : QH t (.region i o d) = none := _root_.id rfl
theorem QyO (t) : QH t .skip = none := _root_.id rfl
theorem QGc (t) : QH t .ret = none := _root_.id rfl
theorem Qy1 (t i) : QH t (.exit i) = none := _root_.id rfl
theorem QxI (x : Option Code) : (none : Option Code).or x = x := by cases x <;> rfl
theorem Qyb (x : Code) (y : Option Code) : (some x).or y = some x := _root_.id rfl
theorem l_0 (K) : Qb5 K [] = [] := by simp [Qb5]
theorem l_s (K c cs) : Qb5 K (c :: cs) = ZC K c :: Qb5 K cs := by simp [Qb5]
def Qtr (e : Option Ent) : AV := match e with | some (.lst n rows) => .imm n (QB rows) | _ => .u
theorem QQv (K j) : ZC K (.sl j) = Qtr (kg K j) := by simp only [ZC]; rfl
theorem QJV (n r) : Qtr (some (.lst n r)) = .imm n (QB r) := _root_.id rfl
theorem QJH (K j) : Qmy K j = Qtr (kg K j) := _root_.id rfl
def Qqa (K : KS) (e : Option Ent) (i o : Nat) : AV := match e with
 | some (.lst n rows) => .iptr n (QB rows) i o
 | some (.box cs) => .iptr cs.length [cs.map (Qen K)] i o
 | none => .u
theorem QBK (K j i o) : ZC K (.ptr j i o) = Qqa K (kg K j) i o := by simp only [ZC]; rfl
theorem Qz8 (K cs i o) : Qqa K (some (.box cs)) i o = .iptr cs.length [cs.map (Qen K)] i o := _root_.id rfl
theorem QzV (K n r i o) : Qqa K (some (.lst n r)) i o = .iptr n (QB r) i o := _root_.id rfl
theorem QzX (K n r i o) : ZC K (.iptr n r i o) = .iptr n r i o := by simp [ZC]
theorem QBV (K j) : Qen K (.sl j) = Qmy K j := _root_.id rfl
theorem QMH (K x) : Qen K (.b x) = .b x := _root_.id rfl
theorem QQ8 (K c x) : Qen K (.i c x) = .i c x := _root_.id rfl
theorem QLi (K x) : Qen K (.s x) = .s x := _root_.id rfl
theorem QM2 (K) : Qen K .nil = .nil := _root_.id rfl
theorem QQx (K n r) : Qen K (.imm n r) = .imm n r := _root_.id rfl
theorem QAk (r : List AV) (rs) : QF (r :: rs) 0 = r := _root_.id rfl
theorem QCe (K cs) : ZC K (.agg cs) = .agg (Qb5 K cs) := by simp [ZC]
theorem QHI (K cs) : ZC K (.tup cs) = .tup (Qb5 K cs) := by simp [ZC]
theorem QGg (K g cs) : ZC K (.clo g cs) = .clo g (Qb5 K cs) := by simp [ZC]
theorem l_b (K x) : ZC K (.b x) = .b x := by simp [ZC]
theorem l_i (K c x) : ZC K (.i c x) = .i c x := by simp [ZC]
theorem QMS (K x) : ZC K (.s x) = .s x := by simp [ZC]
theorem l_n (K) : ZC K .nil = .nil := by simp [ZC]
theorem QF1 (K n r) : ZC K (.imm n r) = .imm n r := by simp [ZC]
theorem Qwo : QB [] = [] := by simp [QB]
theorem Qw7 (r rs) : QB (r :: rs) = Vh r :: QB rs := by simp [QB]
theorem QyP : Vh [] = [] := by simp [Vh]
theorem Qyo (c cs) : Vh (c :: cs) = VF c :: Vh cs := by simp [Vh]
theorem QNi (x) : VF (.b x) = .b x := by simp [VF]
theorem QMm (c x) : VF (.i c x) = .i c x := by simp [VF]
theorem QN8 (x) : VF (.s x) = .s x := by simp [VF]
theorem QQm : VF .nil = .nil := by simp [VF]
theorem Qz3 (n r) : VF (.imm n r) = .imm n r := by simp [VF]
theorem QyB (n r) : VF (.own n r) = .imm n (QB r) := by simp [VF]
theorem QEh (m n r) : Vi m (.own n r) = (.sl m, [some (.lst n r)]) := by simp [Vi]
theorem QJW (m cs) : Vi m (.agg cs) = (.agg (QaE m cs).1, (QaE m cs).2) := by simp [Vi]
theorem QGE (m cs) : Vi m (.tup cs) = (.tup (QaE m cs).1, (QaE m cs).2) := by simp [Vi]
theorem i_b (m x) : Vi m (.b x) = (.b x, []) := by simp [Vi]
theorem i_i (m c x) : Vi m (.i c x) = (.i c x, []) := by simp [Vi]
theorem QOy (m x) : Vi m (.s x) = (.s x, []) := by simp [Vi]
theorem i_n (m) : Vi m .nil = (.nil, []) := by simp [Vi]
theorem QLq (m) : QaE m [] = ([], []) := by simp [QaE]
theorem QPx (m c cs) : QaE m (c :: cs) = ((Vi m c).1 :: (QaE (m + (Vi m c).2.length) cs).1, (Vi m c).2 ++ (QaE (m + (Vi m c).2.length) cs).2) := by simp [QaE]
theorem QxN {α γ : Type} (x : α) (y : γ) : (x, y).1 = x := _root_.id rfl
theorem QGT {α γ : Type} (x : α) (y : γ) : (x, y).2 = y := _root_.id rfl
def Qny (e : Option (List AV)) (k : AV → Option β) (_ : Lk k) : Option β := match e with | some cs => k (.agg cs) | none => none
theorem QCd (K z p ps l) : Qh7 K (.st z p) ps k l = Qny (ZB K (p[·]?) z ps) k () := _root_.id rfl
theorem Qyl (K z m ps l) : Qh7 K (.arr z m) ps k l = Qny (ZB K (fun i => some (i * m, m)) z ps) k () := _root_.id rfl
theorem QGe (cs l) : Qny (some cs) k l = k (.agg cs) := _root_.id rfl
def QxH (fl : Bool) (ns : List Nat) (e : Option (List AV)) (K : KS) (len m : Nat) (k : AV → KS → Option β) (_ : Lk k) : Option β := match e with
  | some cs => cond (yB fl cs) (match Vb K cs with
   | some (K1, cs) => Vv (K1 ++ [some (.lst m ((Qai m len cs).map (nz ns)))]) (fun K' => k (.sl K.length) K') ()
   | none => none) none
  | none => none
theorem QNY (fl ns K e m z) (k : AV → KS → Option β) (l) : Qfs fl ns K (some (e, m, z)) 0 [] k l = Vv (K ++ [some (.lst m [])]) (fun K' => k (.sl K.length) K') () := _root_.id rfl
theorem s_b (fl ns K e m z len ps) (k : AV → KS → Option β) (l) : Qfs fl ns K (some (e, m, z)) (len + 1) ps k l = okB (Nat.ble ((len + 1) * m) 16777216) (QxH fl ns (ZB K (fun i => some (i * m, m)) (QcB (len + 1) z) ps) K (len + 1) m k ()) () :=
 QbX Qg1 _ _
def Qyd (ns : List Nat) (e : Option (KS × List AV)) (n len m : Nat) (k : AV → KS → Option β) (_ : Lk k) : Option β := match e with
   | some (K1, cs) => Vv (K1 ++ [some (.lst m ((Qai m len cs).map (nz ns)))]) (fun K' => k (.sl n) K') ()
   | none => none
theorem QOI (fl ns K cs len m) (k : AV → KS → Option β) (l) : QxH fl ns (some cs) K len m k l = cond (yB fl cs) (Qyd ns (Vb K cs) K.length len m k ()) none := _root_.id rfl
theorem QLH : zB [] = true := _root_.id rfl
theorem QQU (l : List Nat) : zB (0 :: l) = zB l := _root_.id rfl
theorem QPF (n : Nat) (l : List Nat) : zB ((n + 1) :: l) = false := _root_.id rfl
theorem QOs (cs) : yB false cs = true := _root_.id rfl
theorem QPg (cs) : yB true cs = noS cs := _root_.id rfl
theorem QQs : noS [] = true := _root_.id rfl
theorem QPe (c n l) : noS (.i c n :: l) = noS l := _root_.id rfl
theorem QQK (x l) : noS (.b x :: l) = noS l := _root_.id rfl
theorem QNm (x l) : noS (.s x :: l) = noS l := _root_.id rfl
theorem QOR (l) : noS (.nil :: l) = noS l := _root_.id rfl
theorem QMe (n r l) : noS (.imm n r :: l) = noS l := _root_.id rfl
theorem QQk (j l) : noS (.sl j :: l) = false := _root_.id rfl
theorem QL8 (ns K1 cs n len m) (k : AV → KS → Option β) (l) : Qyd ns (some (K1, cs)) n len m k l = Vv (K1 ++ [some (.lst m ((Qai m len cs).map (nz ns)))]) (fun K' => k (.sl n) K') () := _root_.id rfl
theorem QOQ (K p cs) : ZB K p cs [] = some cs := _root_.id rfl
def Qs4 (K : KS) (place : Nat → Option (Nat × Nat)) (cs : List AV) (p : Option (Nat × Nat)) (d : Option (List AV)) (rest : List (Nat × AV)) : Option (List AV) := match p, d with
  | some (o, m), some ds => if ds.length = m ∧ o + m ≤ cs.length then ZB K place (putCells cs o ds) rest else none
  | _, _ => none
theorem QK6 (K p cs i v r) : ZB K p cs ((i, v) :: r) = Qs4 K p cs (p i) (Qbu K v) r := by simp only [ZB]; rfl
theorem QQM (K p cs o m ds r) : Qs4 K p cs (some (o, m)) (some ds) r = cond ((ds.length == m) && Nat.ble (o + m) cs.length) (ZB K p (putCells cs o ds) r) none :=
 QbX (by simp only [Bool.and_eq_true, beq_iff_eq, Qg1]) _ _
theorem QLg (K cs) : Qbu K (.agg cs) = some cs := _root_.id rfl
theorem QLA (K x) : Qbu K (.b x) = some [.b x] := _root_.id rfl
theorem QP7 (K c x) : Qbu K (.i c x) = some [.i c x] := _root_.id rfl
theorem QOp (K x) : Qbu K (.s x) = some [.s x] := _root_.id rfl
theorem QMB (K) : Qbu K .nil = some [.nil] := _root_.id rfl
theorem QA5 (K n r) : Qbu K (.imm n r) = some [.imm n r] := _root_.id rfl
theorem QFa (K j) : Qbu K (.sl j) = cond (kg K j).isSome (some [.sl j]) none := by
 show (if JI K (.sl j) = true then some [AV.sl j] else none) = _; exact QbX Iff.rfl _ _
theorem QPT (z) : QcB 0 z = [] := by simp [QcB]
theorem QQe (n z) : QcB (n + 1) z = z ++ QcB n z := by simp [QcB, List.replicate_succ]
theorem QEw (K) : Vb K [] = some (K, []) := _root_.id rfl
theorem QH9 (K x cs) : Vb K (.b x :: cs) = (Vb K cs).map fun p => (p.1, .b x :: p.2) := by simp [Vb, AV.closed]
theorem QIE (K c x cs) : Vb K (.i c x :: cs) = (Vb K cs).map fun p => (p.1, .i c x :: p.2) := by simp [Vb, AV.closed]
theorem QJm (K x cs) : Vb K (.s x :: cs) = (Vb K cs).map fun p => (p.1, .s x :: p.2) := by simp [Vb, AV.closed]
theorem QBM (K cs) : Vb K (.nil :: cs) = (Vb K cs).map fun p => (p.1, .nil :: p.2) := by simp [Vb, AV.closed]
theorem Qwp (K n r cs) : Vb K (.imm n r :: cs) = (Vb K cs).map fun p => (p.1, .imm n r :: p.2) := by simp [Vb, AV.closed]
def QKm (e : Option Ent) (K : KS) (j : Nat) (cs : List AV) : Option (KS × List AV) := match e with
  | some (.lst n rows) => (Vb (K.set j none) cs).map fun p => (p.1, .own n rows :: p.2)
  | _ => none
theorem Qym (K j cs) : Vb K (.sl j :: cs) = QKm (kg K j) K j cs := by simp only [Vb]; rfl
theorem QJX (K n r j cs) : QKm (some (.lst n r)) K j cs = (Vb (K.set j none) cs).map fun p => (p.1, .own n r :: p.2) := _root_.id rfl
theorem QJ8 (m cs) : Qai m 0 cs = [] := _root_.id rfl
theorem QGX (m l cs) : Qai m (l + 1) cs = cs.take m :: Qai m l (cs.drop m) := _root_.id rfl
def Qrc (e : Option (List (List AV) × KS)) (n m b : Nat) (s : AV) (k : AV → KS → Option β) (_ : Lk k) : Option β := match e with
  | some (rows', K1) => match s with
   | .sl j => match kg K1 j with
    | some (.lst n' rows) => if n' = m then Q8 (decide ((rows.length + rows'.length) * (b + 1) ≤ 140737488355328)) (Vv (K1.set j none ++ [some (.lst m (rows ++ rows'))]) (fun K' => k (.sl n) K') ()) () else none
    | _ => none
   | .nil => Q8 (decide (rows'.length * (b + 1) ≤ 140737488355328)) (Vv (K1 ++ [some (.lst m rows')]) (fun K' => k (.sl n) K') ()) ()
   | _ => none
  | none => none
def QuS (e : Option Ent) (r : List (List AV)) (K1 : KS) (n m b j : Nat) (k : AV → KS → Option β) (_ : Lk k) : Option β := match e with
    | some (.lst n' rows) => if n' = m then Q8 (decide ((rows.length + r.length) * (b + 1) ≤ 140737488355328)) (Vv (K1.set j none ++ [some (.lst m (rows ++ r))]) (fun K' => k (.sl n) K') ()) () else none
    | _ => none
def Qyh (K : KS) (t : Option (TypeId × Nat × List AV)) (bytes : Option Nat) (s x : AV) (k : AV → KS → Option β) (_ : Lk k) : Option β := QjI K t bytes s x k ()
def QvL (P : Program) (t : Option (TypeId × Nat × List AV)) : Option Nat := t.bind fun q => tb P q.1
theorem QKh {P : Program} {D : Orc} {f : Fr} {K : KS} (s x t tx ts) (k : AV → KS → Option β) (l) : oop P D (.call ⟨.builtin .append, List.toArray [s, x], List.toArray (t :: tx :: ts)⟩) f K k l = okB (Qaj P tx && !(QaG s && QdH (ev f x))) (Qyh K (tse P t) (QvL P (tse P t)) (ev f s) (ev f x) k ()) () := by
 simp only [oop, okB, Qyh, QvL]; cases Qaj P tx <;> cases (QaG s && QdH (ev f x)) <;> rfl
theorem QNz (d) : QaG (.tmp d) = false := _root_.id rfl
theorem QOO : QaG (.const (.slice none 0 0)) = true := _root_.id rfl
theorem QLc (n r) : QdH (.imm n r) = false := _root_.id rfl
theorem QL3 : QdH .nil = false := _root_.id rfl
theorem QMN (j) : QdH (.sl j) = true := _root_.id rfl
def QuJ (ns : List Nat) (K : KS) (t : Option (TypeId × Nat × List AV)) (bytes : Option Nat) (l c : AV) (k : AV → KS → Option β) (_ : Lk k) : Option β := QrR ns K t bytes l c k ()
theorem QQO {P : Program} {D : Orc} {f : Fr} {K : KS} (t x c) (k : AV → KS → Option β) (l) : oop P D (.makeSlice t x c) f K k l = QuJ (Qdd P t) K (tse P t) (QvL P (tse P t)) (ev f x) (ev f c) k () := _root_.id rfl
theorem QJN (ns K e m z b i c) (k : AV → KS → Option β) (l) : QuJ ns K (some (e, m, z)) (some (b + 1)) (.i .i64 i) (.i .i64 c) k l = Q8 (decide (i = c)) (Q8 (mkB i (b + 1)) (Vv (K ++ [some (.lst m (List.replicate i.toNat (nz ns z)))]) (fun K' => k (.sl K.length) K') ()) ()) () := _root_.id rfl
theorem QMi (i : Int) : (i = i) = True := by simp
theorem QBw (P e m z) : QvL P (some (e, m, z)) = tb P e := _root_.id rfl
theorem a_1 (K e m z b s x) (k : AV → KS → Option β) (l) : Qyh K (some (e, m, z)) (some (b + 1)) s x k l = Qrc (QbB K m x) K.length m b s k () := _root_.id rfl
theorem a_2 (r K1 n m b j) (k : AV → KS → Option β) (l) : Qrc (some (r, K1)) n m b (.sl j) k l = QuS (kg K1 j) r K1 n m b j k () := _root_.id rfl
theorem a_3 (r K1 n m b) (k : AV → KS → Option β) (l) : Qrc (some (r, K1)) n m b .nil k l = Q8 (rm r.length (b + 1)) (Vv (K1 ++ [some (.lst m r)]) (fun K' => k (.sl n) K') ()) () := by
 simp [Qrc, rm]
theorem a_4 (r' r K1 n m b j) (k : AV → KS → Option β) (l) : QuS (some (.lst m r')) r K1 n m b j k l = Q8 (rm (r'.length + r.length) (b + 1)) (Vv (K1.set j none ++ [some (.lst m (r' ++ r))]) (fun K' => k (.sl n) K') ()) () := by
 simp [QuS, rm]
theorem QLm (K m) : QbB K m .nil = some ([], K) := _root_.id rfl
theorem QMZ (K m r) : QbB K m (.imm m r) = some (r, K) := by simp [QbB]
def QzM (e : Option Ent) (K : KS) (m k : Nat) : Option (List (List AV) × KS) := match e with
  | some (.lst n rows) => if n = m then some (rows, K.set k none) else none
  | _ => none
theorem QMs (K m j) : QbB K m (.sl j) = QzM (kg K j) K m j := _root_.id rfl
theorem QLz (K m j r) : QzM (some (.lst m r)) K m j = some (r, K.set j none) := by simp [QzM]
end
section
variable (T : Tld)
theorem QHY (n h) : (orc T (n + 1) h).w = T.wt := _root_.id rfl
theorem QCz (n h g) : (orc T n h).z g = (lk T.pz g).getD [] := by cases n <;> rfl
theorem QJO (n h) : (orc T (n + 1) h).v = T.vt := _root_.id rfl
theorem QDB (n h) : (orc T n h).m = CM T n := by cases n <;> rfl
theorem QEt (n h) : (orc T n h).a = CA T n := by cases n <;> rfl
theorem QGo (n h) : (orc T (n + 1) h).q = T.qt := _root_.id rfl
theorem QFx (n h) : (orc T (n + 1) h).s = T.st := _root_.id rfl
theorem QJs (n h) : (orc T n h).p = CP T n := by cases n <;> rfl
theorem QCL (n h) : (orc T n h).l = LP T n h := _root_.id rfl
noncomputable def cpF (T : Tld) (n g : Nat) (fn : Option Func) (a : Option Ann) (args : List AV) : Option AV := match a with
 | some a => match fn with
  | some f => cond (Nat.ble args.length f.ntmps) (Vm T.P (orc T n g) a (f.body.getD .skip) (QgC T.P a.sh f.results.toList) (Vs args) [] ()) none
  | none => cond (Nat.ble args.length 0) (Vm T.P (orc T n g) a .skip (QgC T.P a.sh []) (Vs args) [] ()) none
 | none => T.xt g args
noncomputable def caF (T : Tld) (n g : Nat) (fn : Option Func) (a : Option Ann) (K : KS) (args : List AV) : Option (AV × KS) := match a with
 | some a => match fn with
  | some f => cond (!a.ak.isEmpty && (Nat.beq K.length a.ak.length && Nat.ble args.length f.ntmps)) (Vm T.P (orc T n g) a (f.body.getD .skip) (QdO T.P a.ak f.results.toList) (Vs args) K ()) none
  | none => cond (!a.ak.isEmpty && (Nat.beq K.length a.ak.length && Nat.ble args.length 0)) (Vm T.P (orc T n g) a .skip (QdO T.P a.ak []) (Vs args) K ()) none
 | none => none
theorem QdU (n g K args) : CA T (n + 1) g K args = caF T n g (T.P.funcs[g]?) (T.at g) K args := by
 show (match T.at g with | some a => cond _ _ _ | none => none) = _
 unfold caF body Qjw ntm
 cases T.at g with
 | none => rfl
 | some a => cases T.P.funcs[g]? <;> rfl
theorem Quk (n g K args a) (x1 x2 x3 x4 x5 x6 m) (rs : List ResultVar) (c x7 x8 x9 x10 x11 x12 x13) : caF T n g (some ⟨x1, x2, x3, x4, x5, x6, m, List.toArray rs, some c, x7, x8, x9, x10, x11, x12, x13⟩) (some a) K args = cond (!a.ak.isEmpty && ((K.length == a.ak.length) && Nat.ble args.length m)) (Vm T.P (orc T n g) a c (QdO T.P a.ak rs) (Vs args) K ()) none := by rw [← QiG]; rfl
theorem QAc {α : Type} (x : α) (l : List α) : (x :: l).isEmpty = false := _root_.id rfl
theorem QOx : (!false) = true := _root_.id rfl
noncomputable def cmF (T : Tld) (n g : Nat) (fn : Option Func) (a : Option Ann) (K : KS) (args : List AV) : Option AV := match a with
 | some a => cond (Nat.ble args.length (match fn with | some f => f.ntmps | none => 0)) (Vm T.P (orc T n g) a (match fn with | some f => f.body.getD .skip | none => .skip) (QgC T.P a.sh (match fn with | some f => f.results.toList | none => [])) (Vs args) K ()) none
 | none => T.mt g K args
theorem Qrt (n g K args) : CM T (n + 1) g K args = cmF T n g (T.P.funcs[g]?) (T.at g) K args := by
 show (match T.at g with | some a => _ | none => _) = _
 unfold cmF body Qjw ntm
 cases T.at g with
 | none => rfl
 | some a => cases T.P.funcs[g]? <;> rfl
theorem QRn (n g K args) (h : T.at g = none) : CM T (n + 1) g K args = T.mt g K args := by rw [Qrt, h]; rfl
theorem Quo (n g K args a) (x1 x2 x3 x4 x5 x6 m) (rs : List ResultVar) (c x7 x8 x9 x10 x11 x12 x13) : cmF T n g (some ⟨x1, x2, x3, x4, x5, x6, m, List.toArray rs, some c, x7, x8, x9, x10, x11, x12, x13⟩) (some a) K args = cond (Nat.ble args.length m) (Vm T.P (orc T n g) a c (QgC T.P a.sh rs) (Vs args) K ()) none := _root_.id rfl
theorem Qd (n g args) : CP T (n + 1) g args = cpF T n g (T.P.funcs[g]?) (T.at g) args := by
 show (match T.at g with | some a => cond _ _ _ | none => T.xt g args) = _
 unfold cpF body Qjw ntm
 cases T.at g with
 | none => rfl
 | some a => cases T.P.funcs[g]? <;> rfl
theorem QQW (n g args) (h : T.at g = none) : CP T (n + 1) g args = T.xt g args := by rw [Qd, h]; rfl
theorem QtJ (n g args a) (x1 x2 x3 x4 x5 x6 m) (rs : List ResultVar) (c x7 x8 x9 x10 x11 x12 x13) : cpF T n g (some ⟨x1, x2, x3, x4, x5, x6, m, List.toArray rs, some c, x7, x8, x9, x10, x11, x12, x13⟩) (some a) args = cond (Nat.ble args.length m) (Vm T.P (orc T n g) a c (QgC T.P a.sh rs) (Vs args) [] ()) none := _root_.id rfl
noncomputable def lpG (T : Tld) (n h : Nat) (a : Ann) (c : Option Code) (la : Option LA) (f : Fr) (K : KS) : Option (XE × Fr × KS) := match c, la with
    | some c, some la => run (fun s => Vm T.P (orc T n h) a c (Qe0 a.ak la a.rt) s.1 s.2 ()) (f, K)
    | _, _ => none
noncomputable def lpF (T : Tld) (n h t : Nat) (fn : Option Func) (a : Option Ann) (f : Fr) (K : KS) : Option (XE × Fr × KS) := match a with
 | some a => lpG T n h a (QH t (match fn with | some f => f.body.getD .skip | none => .skip)) (lk a.lp t) f K
 | none => none
theorem Qr (n h t f K) : LP T (n + 1) h t f K = lpF T n h t (T.P.funcs[h]?) (T.at h) f K := by
 show (match T.at h with | some a => _ | none => none) = _
 unfold lpF
 cases T.at h <;> rfl
theorem Qum (n h t a f K) (x1 x2 x3 x4 x5 x6 m rs c x7 x8 x9 x10 x11 x12 x13) : lpF T n h t (some ⟨x1, x2, x3, x4, x5, x6, m, rs, some c, x7, x8, x9, x10, x11, x12, x13⟩) (some a) f K = lpG T n h a (QH t c) (lk a.lp t) f K := _root_.id rfl
theorem Qj (n h a c la f K) : lpG T n h a (some c) (some la) f K = run (fun s => Vm T.P (orc T n h) a c (Qe0 a.ak la a.rt) s.1 s.2 ()) (f, K) := _root_.id rfl
theorem QRj (g) : T.at g = lk T.ann g := _root_.id rfl
theorem getD_some {α : Type} (x d : α) : (some x).getD d = x := _root_.id rfl
theorem Qid {α : Type} (d : α) : (none : Option α).getD d = d := _root_.id rfl
end
end Go.Proofs.YtcdffihcfeajfaaGreat.Am
namespace Go.Proofs.YtcdffihcfeajfaaGreat.Am
open Go
set_option linter.unusedVariables false
set_option linter.unusedSimpArgs false
section
variable {α β γ : Type} {c : α → List AV}
theorem Qpo (xs : List α) (i) : inb (xs.map c) i = inb xs i := by simp [inb]
theorem QOg (xs : List α) : lnR (xs.map c) = ln xs := by simp [lnR, ln]
theorem Qo4 [Inhabited α] (xs : List α) (i : Int) (h : inb xs i = true) : QF (xs.map c) i.toNat = c (gt xs i) := by
 obtain ⟨h0, h1⟩ := Qea.1 h
 have h2 : i.toNat < xs.length := by omega
 simp [QF, gt, List.getD_eq_getElem?_getD, h2]
theorem QJz (xs : List α) (i : Int) (h : inb xs i = true) : Qmf (xs.map c) i.toNat = true := by
 unfold Qmf
 obtain ⟨h0, h1⟩ := Qea.1 h
 rw [Nat.blt_eq]; simp; omega
theorem QRh (xs : List α) (i : Int) (x : α) : (xs.map c).set i.toNat (c x) = (xs.set i.toNat x).map c := by rw [List.map_set]
theorem QDP (xs : List α) (l h : Int) : cut (xs.map c) l h = (cut xs l h).map c := by simp [cut, List.map_take, List.map_drop]
theorem QQP (xs : List α) (i : Int) (ys : List α) (b : Nat) : Qr3 (xs.map c) i (ys.map c) b = Qr3 xs i ys b := by simp [Qr3]
theorem QMd (xs : List α) (i : Int) (ys : List α) : QaT (xs.map c) i (ys.map c) = (QaT xs i ys).map c := by simp [QaT, List.map_take, List.map_drop]
theorem QRi (xs ys : List α) : xs.map c ++ ys.map c = (xs ++ ys).map c := by simp
theorem QEG (xs : List α) : (xs.map c).length = xs.length := by simp
theorem Qui (xs : List α) (n : Nat) (x : α) (i : Int) : inb (xs.set n x) i = inb xs i := by simp [inb]
theorem Qwz [Inhabited α] (xs : List α) (x : α) (i : Int) (h : inb xs i = true) : gt (xs.set i.toNat x) i = x := by
 obtain ⟨h0, h1⟩ := Qea.1 h
 have h2 : i.toNat < xs.length := by omega
 simp [gt, List.getD_eq_getElem?_getD, h2]
theorem QuZ (xs : List α) (n : Nat) (x y : α) : (xs.set n x).set n y = xs.set n y := by simp
theorem QsO (o : Option α) (g : β → γ) (f : α → Option β) : (o.bind f).map g = o.bind fun x => (f x).map g := by cases o <;> rfl
theorem Qsa (b : Bool) (o : Option β) (g : β → γ) (l) : (Q8 b o l).map g = Q8 b (o.map g) () := by cases b <;> rfl
theorem Qsl (b : Bool) (x y : Option β) (g : β → γ) : (cond b x y).map g = cond b (x.map g) (y.map g) := by cases b <;> rfl
theorem QtH {ρ δ : Type} (p : ρ → Option β) (q : δ → Option β) (x) (g : β → γ) : (evO p q x).map g = evO (fun r => (p r).map g) (fun r => (q r).map g) x := by cases x <;> rfl
theorem Qok (x : α) (f : α → Option β) : (some x).bind f = f x := _root_.id rfl
theorem QoU (o : Option α) (f : α → Option β) (g : β → Option γ) : (o.bind f).bind g = o.bind fun x => (f x).bind g := by cases o <;> rfl
theorem Qxv {α' β' : Type} (f : α → α') (g : β → β') (x) : Sum.map f g (.inl x) = .inl (f x) := _root_.id rfl
theorem Qwm {α' β' : Type} (f : α → α') (g : β → β') (x) : Sum.map f g (.inr x) = .inr (g x) := _root_.id rfl
end
class EncR {α : Type} (c : α → List AV) (r : List AV) (x : outParam α) : Prop where
 eq : r = c x
class EncL {α : Type} (c : α → List AV) (R : List (List AV)) (xs : outParam (List α)) : Prop where
 eq : R = xs.map c
instance {α : Type} (c : α → List AV) (x : α) : EncR c (c x) x := ⟨rfl⟩
instance {α : Type} (c : α → List AV) (xs : List α) : EncL c (xs.map c) xs := ⟨rfl⟩
instance {α : Type} (c : α → List AV) : EncL c [] [] := ⟨rfl⟩
instance {α : Type} (c : α → List AV) (r R x xs) [h : EncR c r x] [H : EncL c R xs] : EncL c (r :: R) (x :: xs) := ⟨by rw [h.eq, H.eq]; rfl⟩
instance {α : Type} (c : α → List AV) (R S xs ys) [h : EncL c R xs] [H : EncL c S ys] : EncL c (R ++ S) (xs ++ ys) := ⟨by rw [h.eq, H.eq]; simp⟩
instance {α : Type} (c : α → List AV) (R xs) (i : Nat) (r x) [h : EncL c R xs] [H : EncR c r x] : EncL c (R.set i r) (xs.set i x) := ⟨by rw [h.eq, H.eq, List.map_set]⟩
instance {α : Type} (c : α → List AV) (n : Nat) (r x) [H : EncR c r x] : EncL c (List.replicate n r) (List.replicate n x) := ⟨by rw [H.eq, List.map_replicate]⟩
theorem Qzp {α : Type} {c : α → List AV} (xs : List α) (R) {ys} [h : EncL c R ys] : xs.map c ++ R = (xs ++ ys).map c := by rw [h.eq]; simp
theorem QzA {α : Type} {c : α → List AV} (xs : List α) (n : Nat) (R) {x} [h : EncR c R x] : (xs.map c).set n R = (xs.set n x).map c := by rw [h.eq, List.map_set]
theorem JZ {α : Type} {c : α → List AV} (h : ∀ x, V6 (c x) = true) (xs : List α) : QO (xs.map c) = true := by
 induction xs with
 | nil => simp [QO]
 | cons x xs ih => simp [QO, h, ih]
theorem Qkz {α : Type} {c : α → List AV} (h : ∀ x, (c x).all AV.scal = true) (xs : List α) : Qam (xs.map c) = true := by
 induction xs with
 | nil => rfl
 | cons x xs ih => unfold Qam at ih ⊢; rw [List.map_cons, List.all_cons, h, ih]; rfl
theorem QaI {α : Type} {c c' : α → List AV} (h : ∀ x, Vh (c x) = c' x) (xs : List α) : QB (xs.map c) = xs.map c' := by
 induction xs with
 | nil => simp [QB]
 | cons x xs ih => simp [QB, h, ih]
theorem QAQ {α : Type} {c : α → List AV} (xs : List α) (n b : Nat) (m) : Qjq (xs.map c).isEmpty (some (AV.own n [])) (Q8 (rm (0 + xs.length) b) (some (AV.own n (xs.map c))) m) = Q8 (rm (0 + xs.length) b) (some (AV.own n (xs.map c))) () := by
 cases xs with
 | nil => simp [Qjq, oeq, Q8, rm]
 | cons r R => rfl
set_option linter.defProp false
set_option maxRecDepth 100000
def evA := And.intro @QJC <| And.intro @QKj <| And.intro @QuF <| And.intro @QxL <| And.intro @Qve <| And.intro @QxV <| And.intro @QKo <| And.intro @QDU <| And.intro @QyF <| And.intro @Qxh <| And.intro @Qs3 <| And.intro @QO9 <| And.intro @QCc <| And.intro @QLn <| And.intro @QC6 <| And.intro @QwT <| And.intro @QB5 <| And.intro @Qwk <| And.intro @Qyg <| And.intro @QvZ <| And.intro @Qt7 <| And.intro @QE8 <| And.intro @QB1 <| And.intro @QAF <| And.intro @Qzw <| And.intro @QGa <| And.intro @Qvs <| And.intro @Qt6 <| And.intro @QBY <| And.intro @Qtz <| And.intro @Qyq <| And.intro @Qzc <| And.intro @QA0 <| And.intro @QGn <| And.intro @QE9 <| And.intro @QGl <| And.intro @QI7 <| And.intro @QuR <| And.intro @QmC <| And.intro @QI9 <| And.intro @Qvw <| And.intro @Quc <| And.intro @QyD <| And.intro @QyQ <| And.intro @QHF <| And.intro @QIs <| And.intro @s_v <| And.intro @v_j <| And.intro @v_s <| And.intro @QDv <| And.intro @QEE <| And.intro @Quo <| And.intro @QrH <| And.intro @n_c <| And.intro @QEB <| And.intro @QGD <| And.intro @QCw <| And.intro @QIO <| And.intro @n_g <| And.intro @QKy <| And.intro @QE5 <| And.intro @QIY <| And.intro @QAV <| And.intro @QJt <| And.intro @Qyt <| And.intro @QBL <| And.intro @QAo <| And.intro @Qwg <| And.intro @Qu4 <| And.intro @Qro <| And.intro @Qq3 <| And.intro @Qry <| And.intro @Qrx <| And.intro @QQg <| And.intro @QLQ <| And.intro @QxK <| And.intro @QJ0 <| And.intro @QGv <| And.intro @Qzh <| And.intro @Qyi <| And.intro @Qyu <| And.intro @Qxn <| And.intro @Qs8 <| And.intro @QvP <| And.intro @QsS <| And.intro @QwN <| And.intro @Qte <| And.intro @QKa <| And.intro @QHS <| And.intro @QA7 <| And.intro @QzL <| And.intro @QAv <|  And.intro @QvA <| And.intro @QmC <| And.intro @QJJ <| And.intro @QKB <| And.intro @Qwn <| And.intro @QJh <| And.intro @QIe <| And.intro @Qtt <| And.intro @QuB <| And.intro @Qs9 <| And.intro @QJj <| And.intro @Quh <| And.intro @QJr <| And.intro @QHR <|
 And.intro @Qu9 <| And.intro @QtC <| And.intro @QAw <| And.intro @Qq9 <| And.intro @QuX <| And.intro @Qs2 <| And.intro @Quf <| And.intro @Qxf <| And.intro @QvD <| And.intro @Qwl <|
 And.intro @QGt <| And.intro @QBa <| And.intro @Qxw <| And.intro @c_g <| And.intro @QPO <| And.intro @QxJ <| And.intro @Qx5 <| And.intro @QxZ <|
 And.intro @QhI <| And.intro @Qr8 <| And.intro @Qqo <| And.intro @Qop <| And.intro @QpX <|
 And.intro @QyG <| And.intro @QuH <| And.intro @QAC <| And.intro @Qvv <| And.intro @QBt <| And.intro @QxF <| And.intro @QuQ <| And.intro @Qyn <| And.intro @QwM <| And.intro @QHp <| And.intro @QAe <| And.intro @QzZ <| And.intro @QyV <| And.intro @Qy0 <| And.intro @QCI <| And.intro @QFV <| And.intro @QIx <| And.intro @QGS <| And.intro @QBz <| And.intro @QQS <|
 And.intro @QQd <| And.intro @QOu <| And.intro @QJ5 <| And.intro @QEH <| And.intro @QIN <| And.intro @QHb <| And.intro @QA6 <| And.intro @Qxc <| And.intro @QKh <| And.intro @QQO <|
 And.intro @QED <| And.intro @Qzr <| And.intro @QsI <| And.intro @QpY <| And.intro @QqP <| And.intro @Qpd <| And.intro @QoG <| And.intro @Qti <| And.intro @Qqk <| And.intro @Qst <|
 And.intro @QpG <| And.intro @Qpw <| And.intro @JE <| And.intro @Qhr <| And.intro @Qlw <| And.intro @Qmz <|
 And.intro @QwX <| And.intro @QwC <| And.intro @QzS <| And.intro @QxQ <| And.intro @n_r <| And.intro @n_s <| And.intro @QNj <| And.intro @QPj <| And.intro @QQf <|
 And.intro @QDS <| And.intro @QAE <| And.intro @Qwf <| And.intro @QAI <| And.intro @QuM <| And.intro @QyO <| And.intro @QGc <| And.intro @Qy1 <| And.intro @QxI <| And.intro @Qyb <|
 And.intro @getD_some <| And.intro @Qid <| And.intro @QtJ <| And.intro @Quk <| And.intro @Qum @QxN
def evB := And.intro @Qnk <| And.intro @QnW <| And.intro @QO0 <| And.intro @QMy <| And.intro @QN9 <| And.intro @QNd <| And.intro @QL9 <| And.intro @QOz <| And.intro @QLH <| And.intro @QQU <| And.intro @QPF <| And.intro @QOs <| And.intro @QPg <| And.intro @QQs <| And.intro @QPe <| And.intro @QQK <| And.intro @QNm <| And.intro @QOR <| And.intro @QMe <| And.intro @QQk <| And.intro @QJC <| And.intro @QKj <| And.intro @QuF <| And.intro @QxL <| And.intro @Qve <| And.intro @QxV <| And.intro @QKo <| And.intro @QDU <| And.intro @QE9 <| And.intro @QGl <| And.intro @QI7 <| And.intro @QNn <| And.intro @c_K <| And.intro @QC6 <| And.intro @QIU <| And.intro @QNL <| And.intro @s_v <| And.intro @v_j <| And.intro @v_s <| And.intro @QDv <| And.intro @QEE <| And.intro @Quo <| And.intro @p_0 <| And.intro @p_e <| And.intro @p_s <| And.intro @p_n <| And.intro @p_z <| And.intro @p_a <| And.intro @QMP <| And.intro @QQc <| And.intro @QLZ <| And.intro @QOL <| And.intro @QMA <| And.intro @QQF <| And.intro @QLw <| And.intro @QMv <| And.intro @QCz <| And.intro @Qlw <| And.intro @Qmz <| And.intro @Qid <| And.intro @getD_some <| And.intro @n_c <| And.intro @QEB <| And.intro @QGD <| And.intro @QCw <| And.intro @QIO <| And.intro @n_g <| And.intro @QKy <| And.intro @QE5 <| And.intro @QIY <| And.intro @QxQ <| And.intro @n_r <| And.intro @n_s <| And.intro @QvI <| And.intro @Qxs <| And.intro @QvW <| And.intro @QpG <| And.intro @Qpw <| And.intro @JE <| And.intro @Qhr <| And.intro @Qu9 <| And.intro @QtC <| And.intro @Qq9 <| And.intro @QxJ <| And.intro @Qx5 <| And.intro @QxI <| And.intro @Qyb <| And.intro @getD_some <| And.intro @Qid <| And.intro @Qtt <| And.intro @QuB <| And.intro @Quh <| And.intro @Qs9 <| And.intro @ZP <| And.intro @QJh <| And.intro @QIe <| And.intro @c_M <| And.intro @QNz <| And.intro @QOO <| And.intro @QLc <| And.intro @QL3 <| And.intro @QMN <| And.intro @QBn <| And.intro @QFw <| And.intro @QA1 <| And.intro @Qy2 <| And.intro @QvC <| And.intro @Qxi <| And.intro @QAA <| And.intro @QvG <| And.intro @QuE <| And.intro @QFp <| And.intro @QID <| And.intro @Qut <| And.intro @Qzj <| And.intro @QJG <| And.intro @QAm <| And.intro @QzP <| And.intro @QuI <| And.intro @QtR <| And.intro @Qro <| And.intro @Qq3 <| And.intro @QJ0 <| And.intro @QGv <| And.intro @QPi <| And.intro @QOT <| And.intro @QQr <| And.intro @QN4 <| And.intro @QOd <| And.intro @QOD <| And.intro @s_w <| And.intro @w_j <| And.intro @w_s <| And.intro @QNF <| And.intro @QL4 <| And.intro @QE7 <| And.intro @QzC <| And.intro @QK5 <| And.intro @QRa <| And.intro @QF9 <| And.intro @QLG <| And.intro @QQT <| And.intro @QRd <| And.intro @QMb <| And.intro @QJn <| And.intro @QzI <| And.intro @QO7 <| And.intro @QL1 <| And.intro @QI3 <| And.intro @QPK <| And.intro @QPt <| And.intro @QNA <| And.intro @QPs <| And.intro @QOS <| And.intro @QNh <| And.intro @QMr <| And.intro @QKQ <| And.intro @QPo <| And.intro @QOG <| And.intro @QMp <| And.intro @QPr <| And.intro @QLu <| And.intro @QLv <| And.intro @QOk <| And.intro @QPv <| And.intro @QPA <| And.intro @QKN <| And.intro @QLM <| And.intro @w_p <| And.intro @QNf <| And.intro @w_x <| And.intro @w_n <| And.intro @QxK <| And.intro @QCu <| And.intro @QCx <| And.intro @Quk <| And.intro @QAc <| And.intro @QOx <| And.intro @Qry <| And.intro @Qrx <| And.intro @s_t <| And.intro @s_q <| And.intro @s_f <| And.intro @QK0 <| And.intro @QFo <| And.intro @Qz0 <| And.intro @QOv <| And.intro @QB7 <| And.intro @Qy9 <| And.intro @QpN <| And.intro @QAj <| And.intro @Qyj <| And.intro @QJb <| And.intro @QGP <| And.intro @QGb <| And.intro @QAO <| And.intro @QDs <| And.intro @QJc <| And.intro @QD8 <| And.intro @QrH <| And.intro @QtJ <| And.intro @Qum <| And.intro @Qlw <| And.intro @QhI <|
 And.intro @QI2 <| And.intro @QCC <| And.intro @QPV <| And.intro @QQn <| And.intro @QAn <| And.intro @Qzn <| And.intro @QzR <| And.intro @QwI <| And.intro @Qsd <| And.intro @Qtk <| And.intro @Qth <| And.intro @QtO <| And.intro @Qoo <| And.intro @QJ2 <| And.intro @QCf <| And.intro @QKY <| And.intro @QCh <|
 And.intro @QDO <| And.intro @QGQ <| And.intro @QHx <| And.intro @QCR <| And.intro @QBF <| And.intro @QF8 <| And.intro @QHE <| And.intro @QEi <| And.intro @QCA <| And.intro @QIA <| And.intro @QBC <| And.intro @QEs <| And.intro @QIF <|
 And.intro @QD3 <| And.intro @QJI <| And.intro @QJ4 <| And.intro @QG3 <| And.intro @QDJ <| And.intro @QAK <| And.intro @Qys <| And.intro @QyI <| And.intro @QAt <| And.intro @QG8 <| And.intro @Qzs <| And.intro @QFH <| And.intro @QH0 <| And.intro @QCr <| And.intro @QHq <| And.intro @QAH <| And.intro @Qy7 <| And.intro @Qza <| And.intro @Qz9 <| And.intro @Qzo <| And.intro @QAU <| And.intro @QyR <| And.intro @Qz5 <| And.intro @QFk <| And.intro @Qzx <|
 And.intro @QxA <| And.intro @QxC <| And.intro @Qw2 <| And.intro @QD0 <| And.intro @QvF <| And.intro @QHw <| And.intro @QOm <| And.intro @QyN <| And.intro @QnS <| And.intro @QIv <| And.intro @QEm <|
 And.intro @QB2 <| And.intro @QFG <| And.intro @Qzm <| And.intro @Qzd <| And.intro @QDW <| And.intro @QAM <| And.intro @Qyw <| And.intro @QAz <| And.intro @QwD <| And.intro @QvM <| And.intro @QvY <| And.intro @QvV <|
 And.intro @QAl <| And.intro @QIo <| And.intro @QyZ <| And.intro @QyK <| And.intro @QAX <| And.intro @Qwa <| And.intro @QGM <| And.intro @Qyx <| And.intro @QyW <| And.intro @QzF <| And.intro @Qt0 <| And.intro @Qt4 <| And.intro @Qvo <| And.intro @Qu5 <| And.intro @Qua <| And.intro @QzK <| And.intro @QGd <| And.intro @QAY <| And.intro @QAs <| And.intro @QEq <| And.intro @QBi <|
 And.intro @QLB <| And.intro @m_c <| And.intro @QA9 <| And.intro @QAh <| And.intro @QzQ <| And.intro @Qz1 <| And.intro @QBX <| And.intro @QGu <| And.intro @QIV <| And.intro @Qxq <| And.intro @QwG <| And.intro @Qvq <|
 And.intro @Qwy <| And.intro @Qws <| And.intro @Qv5 <| And.intro @QvJ <| And.intro @QM0 <| And.intro @QzU <| And.intro @Qzk <| And.intro @QAG <| And.intro @QyH <|
 And.intro @QHL <| And.intro @QCK <| And.intro @QHN <| And.intro @QDZ <| And.intro @Qvx <| And.intro @Qvt <| And.intro @QzW <| And.intro @Qw3 <| And.intro @QOq <| And.intro @QDL <| And.intro @QEr <| And.intro @QFY <| And.intro @QKb <| And.intro @Qw0 <| And.intro @QIp <|
 And.intro @Qvr <| And.intro @QtV <| And.intro @QtD <| And.intro @Qye <| And.intro @QzG <| And.intro @QNe <| And.intro @QHn <| And.intro @QJy <| And.intro @QER <| And.intro @QDM <| And.intro @QHk <| And.intro @QFq <| And.intro @QC1 <| And.intro @QBf <| And.intro @QFt <| And.intro @QJ7 <| And.intro @QCE <| And.intro @QEI <| And.intro @QDw <| And.intro @QQ9 <| And.intro @QQ6 <| And.intro @QQH <| And.intro @QPH <| And.intro @QLY <| And.intro @QN1 <| And.intro @QNg <| And.intro @QRb <| And.intro @QQJ <| And.intro @QLd <| And.intro @QK7 <| And.intro @QML <| And.intro @QMR <| And.intro @QNK <| And.intro @QPW <| And.intro @QN5 <| And.intro @QBy <| And.intro @QGW <| And.intro @QFC <| And.intro @Qy6 <| And.intro @QAL <| And.intro @QzY <| And.intro @Qyz <| And.intro @QA2 <| And.intro @Qw5 <| And.intro @QtA <| And.intro @QLx <|
 And.intro @QIB <| And.intro @QI6 <| And.intro @QyC <| And.intro @Qlx <| And.intro @Qqx <| And.intro @QEp <| And.intro @QHr <| And.intro @QAg <| And.intro @x_b <| And.intro @x_i <| And.intro @x_s <| And.intro @QFf <| And.intro @QIg <| And.intro @QFN <| And.intro @QOb <| And.intro @QFd <| And.intro @QAx <| And.intro @Qxe <| And.intro @QPh <|
 And.intro @QH2 <| And.intro @QAB <| And.intro @QAP <| And.intro @QIH <| And.intro @QKD <| And.intro @QNt <| And.intro @QBc <| And.intro @QBg <| And.intro @QEl <| And.intro @QGB <| And.intro @QCS <| And.intro @QIT <| And.intro @QCG <| And.intro @QC5 <| And.intro @QBh <| And.intro @QAb <|
 And.intro @QzH <| And.intro @Qvy <| And.intro @Qv7 <| And.intro @QvO <| And.intro @Qwt <| And.intro @QA8 <| And.intro @QC9 <| And.intro @QJl <| And.intro @QFb <| And.intro @QIb <| And.intro @Qw4 <| And.intro @Qtv <| And.intro @QyY <| And.intro @QAa <| And.intro @QyT <| And.intro @Qzg <| And.intro @QzB <|
 And.intro @l_0 <| And.intro @l_s <| And.intro @QQv <| And.intro @QJV <| And.intro @QJH <| And.intro @QBK <| And.intro @Qz8 <| And.intro @QzV <| And.intro @QzX <| And.intro @QBV <| And.intro @QMH <| And.intro @QQ8 <| And.intro @QLi <| And.intro @QM2 <| And.intro @QQx <| And.intro @QAk <| And.intro @QCe <| And.intro @QHI <| And.intro @QGg <| And.intro @l_b <| And.intro @l_i <| And.intro @QMS <| And.intro @l_n <| And.intro @QF1 <| And.intro @Qwo <| And.intro @Qw7 <| And.intro @QyP <| And.intro @Qyo <| And.intro @QNi <| And.intro @QMm <| And.intro @QN8 <| And.intro @QQm <| And.intro @Qz3 <| And.intro @QyB <|
 And.intro @QEh <| And.intro @QJW <| And.intro @QGE <| And.intro @i_b <| And.intro @i_i <| And.intro @QOy <| And.intro @i_n <| And.intro @QLq <| And.intro @QPx <| And.intro @QxN <| And.intro @QGT <|
 And.intro @QCd <| And.intro @Qyl <| And.intro @QGe <| And.intro @QNY <| And.intro @s_b <| And.intro @QOI <| And.intro @QL8 <| And.intro @QOQ <| And.intro @QK6 <| And.intro @QQM <| And.intro @QLg <| And.intro @QLA <| And.intro @QP7 <| And.intro @QOp <| And.intro @QMB <| And.intro @QA5 <| And.intro @QFa <| And.intro @QPT <| And.intro @QQe <|
 And.intro @QEw <| And.intro @QH9 <| And.intro @QIE <| And.intro @QJm <| And.intro @QBM <| And.intro @Qwp <| And.intro @Qym <| And.intro @QJX <| And.intro @QJ8 <| And.intro @QGX <|
 And.intro @QBw <| And.intro @QJN <| And.intro @QMi <| And.intro @QxZ <| And.intro @a_1 <| And.intro @a_2 <| And.intro @a_3 <| And.intro @a_4 <| And.intro @QLm <| And.intro @QMZ <| And.intro @QMs @QLz
def evT := And.intro @Qpo <| And.intro @QAQ <| And.intro @QDP <| And.intro @QOg <| And.intro @Qo4 <| And.intro @QJz <| And.intro @QzA <| And.intro @Qzp <| And.intro @QyM <| And.intro @QEG <| And.intro @Qui <| And.intro @Qwz <| And.intro @QuZ <| And.intro @Qug <| And.intro @QHe <| And.intro @QsO <| And.intro @Qsa <| And.intro @Qsl <| And.intro @Qok <| And.intro @QtH <| And.intro @QoU <| And.intro @Qxv @Qwm
def evN := And.intro @JE <| And.intro @List.contains_nil <| And.intro @Bool.not_false <| And.intro @Bool.and_true <| And.intro @List.length_append <| And.intro @List.length_cons <| And.intro @List.length_nil <| And.intro @Nat.zero_add <| And.intro @J1 <| @ZP
end Go.Proofs.YtcdffihcfeajfaaGreat.Am
