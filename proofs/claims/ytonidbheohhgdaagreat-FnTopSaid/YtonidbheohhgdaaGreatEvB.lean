import Derived.Test.YtonidbheohhgdaaGreatEvA
namespace Go.Proofs.YtonidbheohhgdaaGreat.Am
open Go
set_option linter.unusedVariables false
set_option linter.unusedSimpArgs false
section
variable {β : Type}
theorem QcT {α : Type} {p : Prop} [Decidable p] {b : Bool} (h : b = true ↔ p) (x y : α) : (if p then x else y) = cond b x y:=by
 cases b with
 | true=>rw [if_pos (h.1 rfl)]; rfl
 | false=>rw [if_neg (fun hp=>by have:=h.2 hp; cases this)]; rfl
theorem Qlj {m n : Nat} : Nat.blt m n = true ↔ m < n:=by rw [Nat.blt_eq]
theorem QiB {m n : Nat} : Nat.ble m n = true ↔ m ≤ n:=by rw [Nat.ble_eq]
def sel {α : Type} (b : Bool) (x y : α) (_ : Lk (x,y)) : α:=cond b x y
theorem QBx {α : Type} (x y : α) (l) : sel true x y l = x:=_root_.id rfl
theorem QAF {α : Type} (x y : α) (l) : sel false x y l = y:=_root_.id rfl
theorem QDH (v) (k : AV → Option β) (l) : QjM v k l = k v:=_root_.id rfl
theorem QBt (K) (k : KS → Option β) (l) : Xl K k l = k K:=_root_.id rfl
theorem QNd (f : Fr) (d : Nat) (v : AV) (t : Nat) : up f d v t = sel (d == t) v (f t) ():=by
 unfold up sel
 by_cases h : t = d
 ·simp [h]
 ·have : (d == t) = false:=by simp; exact fun h'=>h h'.symm
  simp [h,this]
theorem QKG (m n : Nat) : Nat.ble m n = decide (m ≤ n):=by rw [Bool.eq_iff_iff,Nat.ble_eq]; simp
theorem QLk (m n : Nat) : Nat.blt m n = decide (m < n):=by rw [Bool.eq_iff_iff,Nat.blt_eq]; simp
theorem QOO (h : Decidable True) : @decide True h = true:=by simp
theorem QTG (h : Decidable False) : @decide False h = false:=by simp
theorem QFi (m n : Nat) (f : Fr) (t : Nat) : Qvg m n f t = sel (Nat.ble m t && Nat.blt t n) .u (f t) ():=_root_.id rfl
theorem QuY (t : Nat) : frm [] t = .u:=_root_.id rfl
theorem Qrf (d : Nat) (v : AV) (l : List (Nat × AV)) (t : Nat) : frm ((d,v) :: l) t = sel (d == t) v (frm l t) ():=by
 show up (frm l) d v t = _; exact QNd _ _ _ _
theorem Qru (t : Nat) : Xa [] t = .u:=by simp [Xa]
theorem Qo8 (v : AV) (l : List AV) : Xa (v :: l) 0 = v:=_root_.id rfl
theorem Qp1 (v : AV) (l : List AV) (t : Nat) : Xa (v :: l) (t + 1) = Xa l t:=_root_.id rfl
theorem Qyd (f : Fr) (t : Tmp) : ev f (.tmp t) = f t:=_root_.id rfl
theorem Qra (f : Fr) (v : Value) : ev f (.const v) = cv v:=_root_.id rfl
theorem QuB (f : Fr) (g : FuncId) : ev f (.func g) = .clo g []:=_root_.id rfl
theorem Qu1 (b : Bool) : cv (.bool b) = .b b:=_root_.id rfl
theorem QxS (k : IntKind) (i : Int) : cv (.int k i) = .i k i:=_root_.id rfl
theorem QyW (x : ByteArray) : cv (.string x) = .s x.data.toList:=_root_.id rfl
theorem Qwd : cv (.slice none 0 0) = .nil:=_root_.id rfl
theorem Qpm {α : Type} (x y : α) : cond true x y = x:=_root_.id rfl
theorem Qpc {α : Type} (x y : α) : cond false x y = y:=_root_.id rfl
theorem Qbo (q : Option β) (l) : Vg true q l = q:=_root_.id rfl
def JF {ρ δ γ : Type} (o : Option (Fl ρ δ)) (p : ρ → γ) (q : δ → γ) : Option γ:=o.map (evO p q)
theorem QoY {ρ δ γ : Type} (o : Option (Fl ρ δ)) (p : ρ → γ) (q : δ → γ) (k : γ → Option β) (l) : Jz (JF o p q) k l = o.bind (evO (fun r=>k (p r)) (fun r=>k (q r))):=by
 cases o with
 | none=>rfl
 | some o=>cases o <;> rfl
theorem Qie {α : Type} (x : α) (k : α → Option β) (l) : Jz (some x) k l = k x:=_root_.id rfl
theorem Qn9 {α : Type} (k : α → Option β) (l) : Jz (none : Option α) k l = none:=_root_.id rfl
theorem QoC {α : Type} (b : Bool) (q : Option α) (k : α → Option β) (l) (l') : Jz (Vg b q l') k l = Vg b (Jz q k l) ():=by cases b <;> rfl
theorem Qpz {α γ : Type} (o : Option γ) (e : γ → α) (k : α → Option β) (l) : Jz (o.map e) k l = o.bind (fun r=>k (e r)):=by cases o <;> rfl
theorem QmD {α : Type} (i) : lk ([] : List (Nat × α)) i = none:=_root_.id rfl
theorem Qnj {α : Type} (i) (x : α) (l j) : lk ((i,x) :: l) j = sel (i == j) (some x) (lk l j) ():=_root_.id rfl
end
section
variable {β : Type} {P : Program} {D : Orc} {a : Ann} {f : Fr} {K : KS} {Q : KT β} {k : AV → KS → Option β}
theorem QGP (l) : V8 P D a .skip Q f K l = Q .normal f K:=_root_.id rfl
theorem QMa (l) : V8 P D a .ret Q f K l = Q .ret f K:=_root_.id rfl
theorem QFD (id l) : V8 P D a (.exit id) Q f K l = Q (.exit id) f K:=_root_.id rfl
theorem QLt (x y l) : V8 P D a (.seq x y) Q f K l = V8 P D a x (Qqr (fun f K=>V8 P D a y Q f K ()) Q) f K ():=_root_.id rfl
def QNf (v : AV) (x y : Option β) (_ : Lk (x,y)) : Option β:=match v with | .b b=>cond b x y | _=>none
theorem QE9 (c x y l) : V8 P D a (.cond c x y) Q f K l = QNf (ev f c) (V8 P D a x Q f K ()) (V8 P D a y Q f K ()) ():=_root_.id rfl
theorem QMV (b) (x y : Option β) (l) : QNf (.b b) x y l = cond b x y:=_root_.id rfl
theorem QAI (id c l) : V8 P D a (.block id c) Q f K l = V8 P D a c (Quz id Q) f K ():=_root_.id rfl
theorem Qx4 (id ol l) : V8 P D a (.region id (List.toArray ol) false) Q f K l = ofz (lk a.fz id) (lk a.fc id) f K (fun f K=>QiE P D a id (lk a.av id) (List.toArray ol) Q f K ()) ():=_root_.id rfl
theorem QBl {α : Type} (x : α) (xs ys : List α) : List.append (x :: xs) ys = x :: List.append xs ys:=_root_.id rfl
theorem QG2 {α : Type} (ys : List α) : List.append [] ys = ys:=_root_.id rfl
theorem QQl (f : Fr) (K : KS) (k : Fr → KS → Option β) (l) : ofz none none f K k l = k f K:=_root_.id rfl
theorem QQ0 (f : Fr) (K : KS) (ss) (k : Fr → KS → Option β) (l) : ofz (some ss) none f K k l = QoU ss f K k ():=_root_.id rfl
theorem QRJ (f : Fr) (K : KS) (cs) (k : Fr → KS → Option β) (l) : ofz none (some cs) f K k l = QoM cs f K k ():=_root_.id rfl
theorem QP6 (f : Fr) (K : KS) (k : Fr → KS → Option β) (l) : QoM [] f K k l = k f K:=_root_.id rfl
theorem QRK (f : Fr) (K : KS) (s o ss) (k : Fr → KS → Option β) (l) : QoM ((s,o) :: ss) f K k l = Qz7 o (f s) K (fun K=>QoM ss f K k ()) ():=_root_.id rfl
theorem QPb (o jb i q) (K : KS) (k : KS → Option β) (l) : Qz7 o (.ptr jb i q) K k l = QAQ o jb (kg K jb) K k ():=_root_.id rfl
theorem QSt (o jb cs) (K : KS) (k : KS → Option β) (l) : QAQ o jb (some (.box cs)) K k l = QBW o jb cs (cs.drop o) K k ():=_root_.id rfl
theorem QPm (o jb j cs ds) (K : KS) (k : KS → Option β) (l) : QBW o jb cs (.sl j :: ds) K k l = QzU o jb j cs (kg K j) K k ():=_root_.id rfl
theorem QPZ (o jb j cs m rows) (K : KS) (k : KS → Option β) (l) : QzU o jb j cs (some (.lst m rows)) K k l = k ((K.set j none).set jb (some (.box (cs.set o (.imm m (Qn rows)))))):=_root_.id rfl
theorem QPE (f : Fr) (K : KS) (k : Fr → KS → Option β) (l) : QoU [] f K k l = k f K:=_root_.id rfl
theorem QTL (f : Fr) (K : KS) (s ss) (k : Fr → KS → Option β) (l) : QoU (s :: ss) f K k l = QzL s (f s) f K (fun f K=>QoU ss f K k ()) ():=_root_.id rfl
theorem QQ3 (f : Fr) (K : KS) (s j) (k : Fr → KS → Option β) (l) : QzL s (.sl j) f K k l = QAL s j (kg K j) f K k ():=_root_.id rfl
theorem QQd (f : Fr) (K : KS) (s j m rows) (k : Fr → KS → Option β) (l) : QAL s j (some (.lst m rows)) f K k l = k (up f s (.imm m (Qn rows))) (K.set j none):=_root_.id rfl
theorem QHP (id ol l) : QiE P D a id none (List.toArray ol) Q f K l = QpO P D a id (lk a.an id) (List.toArray ol) ol Q f K ():=_root_.id rfl
theorem QMT (id vs ol l) : QiE P D a id (some vs) (List.toArray ol) Q f K l = ZS vs P D (List.toArray ol) ol f K (fun f K=>Q .normal f K) ():=_root_.id rfl
theorem QGh (vs ops) (k : Fr → KS → Option β) (l) : ZS vs P D ops [] f K k l = k f K:=_root_.id rfl
theorem QBM (vs ops d o t p af r) (k : Fr → KS → Option β) (l) : ZS vs P D ops (⟨some d,o,t,p,af,none⟩ :: r) f K k l = QkA vs P D o f K (fun v K'=>QjM v (fun v=>ZS vs P D ops r (up f d v) K' k ()) ()) ():=_root_.id rfl
theorem QyZ (vs ops o t p af r) (k : Fr → KS → Option β) (l) : ZS vs P D ops (⟨none,o,t,p,af,none⟩ :: r) f K k l = QkA vs P D o f K (fun v K'=>ZS vs P D ops r f K' k ()) ():=_root_.id rfl
theorem QQ6 (vs ops r) (k : Fr → KS → Option β) (d op t pos after j want l) : ZS vs P D ops (⟨some d,op,t,pos,after,some (j,want)⟩ :: r) f K k l =
  ogd ((ops[j]?).bind (·.dst)) want f (fun f=>QkA vs P D op f K (fun v K'=>QjM v (fun v=>ZS vs P D ops r (up f d v) K' k ()) ()) ()) (fun f=>QjM (.tup []) (fun v=>ZS vs P D ops r (up f d v) K k ()) ()) ():=_root_.id rfl
theorem QLb (vs ops r) (k : Fr → KS → Option β) (op t pos after j want l) : ZS vs P D ops (⟨none,op,t,pos,after,some (j,want)⟩ :: r) f K k l =
  ogd ((ops[j]?).bind (·.dst)) want f (fun f=>QkA vs P D op f K (fun v K'=>ZS vs P D ops r f K' k ()) ()) (fun f=>ZS vs P D ops r f K k ()) ():=_root_.id rfl
def Qeb : Op → Bool
 | .call ⟨.value (.func _),_,_⟩=>true
 | _=>false
theorem QRo (vs o l) (k : AV → KS → Option β) (h : Qeb o = false) : QkA vs P D o f K k l = oop P D o f K k ():=by
 unfold Qeb at h
 unfold QkA
 split
 ·cases h
 ·rfl
theorem QMP (vs g args ts l) (k : AV → KS → Option β) : QkA vs P D (.call ⟨.value (.func g),args,ts⟩) f K k l = cond (vs.contains g) (QcF P D (.call ⟨.value (.func g),args,ts⟩) f K k ()) (oop P D (.call ⟨.value (.func g),args,ts⟩) f K k ()):=_root_.id rfl
theorem QAU (x args ts) : Qeb (.call ⟨.value (.tmp x),args,ts⟩) = false:=_root_.id rfl
theorem QNc (b args ts) : Qeb (.call ⟨.builtin b,args,ts⟩) = false:=_root_.id rfl
theorem QBh (x) : Qeb (.move x) = false:=_root_.id rfl
theorem QGi (x) : Qeb (.assign x) = false:=_root_.id rfl
theorem QBF (t x) : Qeb (.load t x) = false:=_root_.id rfl
theorem Qyt (t x y) : Qeb (.store t x y) = false:=_root_.id rfl
theorem QNs (t x i) : Qeb (.fieldAddr t x i) = false:=_root_.id rfl
theorem QM6 (t x i) : Qeb (.indexAddr t x i) = false:=_root_.id rfl
theorem QGU (x i) : Qeb (.extract x i) = false:=_root_.id rfl
theorem QDx (t x i) : Qeb (.field t x i) = false:=_root_.id rfl
theorem QDy (o t x y u) : Qeb (.binOp o t x y u) = false:=_root_.id rfl
theorem QI2 (o t x) : Qeb (.unOp o t x) = false:=_root_.id rfl
theorem QGd (x) : Qeb (.nilCheck x) = false:=_root_.id rfl
theorem QBG (c x y) : Qeb (.pick c x y) = false:=_root_.id rfl
theorem Qwm (t ps) : Qeb (.build t ps) = false:=_root_.id rfl
theorem QK7 (t n ps) : Qeb (.buildSlice t n ps) = false:=_root_.id rfl
theorem Qy8 (t) : Qeb (.alloc t) = false:=_root_.id rfl
theorem QD8 (t x) : Qeb (.box t x) = false:=_root_.id rfl
theorem QFP (t x lo hi m) : Qeb (.slice t x lo hi m) = false:=_root_.id rfl
theorem QFI (t x i) : Qeb (.index t x i) = false:=_root_.id rfl
theorem QHd (s t x) : Qeb (.convert s t x) = false:=_root_.id rfl
theorem Qs2 (id ops ol l) : QpO P D a id none ops ol Q f K l = QqW P D a id (lk a.ac id) ops ol Q f K ():=_root_.id rfl
theorem Qtp (id us ops ol l) : QpO P D a id (some us) ops ol Q f K l = Qhy P D ops us ol f K (fun f K=>Q .normal f K) ():=_root_.id rfl
theorem Qt2 (id ops ol l) : QqW P D a id none ops ol Q f K l = QmN P D a id ops ol Q f K ():=_root_.id rfl
theorem Quh (id x ops ol l) : QqW P D a id (some x) ops ol Q f K l = QfP P D ops ol f K (fun f K=>Q .normal f K) ():=_root_.id rfl
theorem QDV (ops) (k : Fr → KS → Option β) (l) : QfP P D ops [] f K k l = k f K:=_root_.id rfl
theorem Qz2 (ops d o t p af r) (k : Fr → KS → Option β) (l) : QfP P D ops (⟨some d,o,t,p,af,none⟩ :: r) f K k l = QcF P D o f K (fun v K'=>QjM v (fun v=>QfP P D ops r (up f d v) K' k ()) ()) ():=_root_.id rfl
theorem Qyn (ops o t p af r) (k : Fr → KS → Option β) (l) : QfP P D ops (⟨none,o,t,p,af,none⟩ :: r) f K k l = QcF P D o f K (fun v K'=>QfP P D ops r f K' k ()) ():=_root_.id rfl
theorem Qzx (x l) : QcF P D (.move x) f K k l = oop P D (.move x) f K k ():=_root_.id rfl
theorem Qvo (x l) : QcF P D (.assign x) f K k l = oop P D (.assign x) f K k ():=_root_.id rfl
theorem Qzu (t x l) : QcF P D (.load t x) f K k l = oop P D (.load t x) f K k ():=_root_.id rfl
theorem Qx0 (t x y l) : QcF P D (.store t x y) f K k l = oop P D (.store t x y) f K k ():=_root_.id rfl
theorem QMB (t x i l) : QcF P D (.fieldAddr t x i) f K k l = oop P D (.fieldAddr t x i) f K k ():=_root_.id rfl
theorem QIu (t x i l) : QcF P D (.indexAddr t x i) f K k l = oop P D (.indexAddr t x i) f K k ():=_root_.id rfl
theorem QFa (t x i l) : QcF P D (.field t x i) f K k l = oop P D (.field t x i) f K k ():=_root_.id rfl
theorem QE3 (x i l) : QcF P D (.extract x i) f K k l = oop P D (.extract x i) f K k ():=_root_.id rfl
theorem QFV (o t x y u l) : QcF P D (.binOp o t x y u) f K k l = oop P D (.binOp o t x y u) f K k ():=_root_.id rfl
theorem Qxr (t ps l) : QcF P D (.build t ps) f K k l = oop P D (.build t ps) f K k ():=_root_.id rfl
theorem QH9 (o t x l) : QcF P D (.unOp o t x) f K k l = oop P D (.unOp o t x) f K k ():=_root_.id rfl
theorem QDv (x l) : QcF P D (.nilCheck x) f K k l = oop P D (.nilCheck x) f K k ():=_root_.id rfl
theorem QAf (c x y l) : QcF P D (.pick c x y) f K k l = oop P D (.pick c x y) f K k ():=_root_.id rfl
theorem QxX (t l) : QcF P D (.alloc t) f K k l = oop P D (.alloc t) f K k ():=_root_.id rfl
theorem QDW (t x lo hi m l) : QcF P D (.slice t x lo hi m) f K k l = oop P D (.slice t x lo hi m) f K k ():=_root_.id rfl
theorem QFz (t x i l) : QcF P D (.index t x i) f K k l = oop P D (.index t x i) f K k ():=_root_.id rfl
theorem QJ4 (b xs ts l) : QcF P D (.call ⟨.builtin b,xs,ts⟩) f K k l = oop P D (.call ⟨.builtin b,xs,ts⟩) f K k ():=_root_.id rfl
theorem QMW (s t x l) : QcF P D (.convert s t x) f K k l = oop P D (.convert s t x) f K k ():=_root_.id rfl
theorem QFl (t x l) : QcF P D (.box t x) f K k l = oop P D (.box t x) f K k ():=_root_.id rfl
def QuR (b c d e : Bool) (D : Orc) (g : FuncId) (K : KS) (vs : List AV) (k : AV → KS → Option β) (_ : Lk (vs,k)) : Option β:=cond b (Qnx K vs k ()) (cond c (QmT K vs k ()) (cond d (Qke D g K vs k ()) (cond e (Qh1 D g K vs k ()) (QfO D g K vs k ()))))
theorem QAl (x xs ts l) : QcF P D (.call ⟨.value x,List.toArray xs,ts⟩) f K k l = Qrj (ev f x) (fun g caps=>QuR (D.s g) (D.q g) (D.w g) (D.v g) D g K (xs.map (ev f) ++ caps) k ()) ():=_root_.id rfl
theorem s_t (g c d e) (K : KS) (vs) (k : AV → KS → Option β) (l) : QuR true c d e D g K vs k l = Qnx K vs k ():=_root_.id rfl
theorem s_q (g d e) (K : KS) (vs) (k : AV → KS → Option β) (l) : QuR false true d e D g K vs k l = QmT K vs k ():=_root_.id rfl
theorem s_f (g) (K : KS) (vs) (k : AV → KS → Option β) (l) : QuR false false false false D g K vs k l = QfO D g K vs k ():=_root_.id rfl
theorem s_w (g e) (K : KS) (vs) (k : AV → KS → Option β) (l) : QuR false false true e D g K vs k l = Qlf D g K (QeE vs) vs k ():=_root_.id rfl
theorem w_j (g) (K : KS) (js vs) (k : AV → KS → Option β) (l) : Qlf D g K js vs k l = Vg (ndB js) (Qlh D g K js (Qcy js vs) k ()) ():=_root_.id rfl
theorem w_s (g) (K : KS) (js cs) (k : AV → KS → Option β) (l) : Qlh D g K js (some cs) k l = Vg (Qh2 (Jr K js)) (Jz (D.a g (Jr K js) cs) (fun r=>k (QbQ js K.length r.1) (QdH K js r.2)) ()) ():=_root_.id rfl
theorem s_v (g) (K : KS) (vs) (k : AV → KS → Option β) (l) : QuR false false false true D g K vs k l = Qk3 D g K (QeE vs) vs k ():=_root_.id rfl
theorem v_j (g) (K : KS) (js vs) (k : AV → KS → Option β) (l) : Qk3 D g K js vs k l = Vg (ndB js) (Qk7 D g K js (Qcy js vs) k ()) ():=_root_.id rfl
theorem v_s (g) (K : KS) (js cs) (k : AV → KS → Option β) (l) : Qk7 D g K js (some cs) k l = Vg (QrG (Jr K js)) (Jz (D.m g (Jr K js) cs) (fun x=>k (VY K.length x).1 (Zl K js (QaK js) ++ (VY K.length x).2)) ()) ():=_root_.id rfl
theorem QJB : QaK [] = []:=_root_.id rfl
theorem QMf (j js) : QaK (j :: js) = none :: QaK js:=_root_.id rfl
theorem p_0 (vs) : Qm0 [] vs = vs:=by cases vs <;> rfl
theorem p_e (ss) : Qm0 ss [] = []:=by cases ss <;> rfl
theorem p_s (s ss v vs) : Qm0 (s :: ss) (v :: vs) = QrC s v :: Qm0 ss vs:=_root_.id rfl
theorem p_n (v) : QrC .n v = v:=by cases v <;> rfl
theorem p_z (k v) : QrC (.z k) v = nic k v:=by cases v <;> rfl
theorem p_a (ns cs) : QrC (.a ns) (.agg cs) = .agg (ni ns cs):=_root_.id rfl
theorem QON (cs) : ni [] cs = cs:=by cases cs <;> rfl
theorem QTA (n ns c cs) : ni (n :: ns) (c :: cs) = nic n c :: ni ns cs:=_root_.id rfl
theorem QTe (n) : nic (n + 1) .nil = .imm (n + 1) []:=_root_.id rfl
theorem QQB : nic 0 .nil = .nil:=_root_.id rfl
theorem QQo (n c x) : nic n (.i c x) = .i c x:=_root_.id rfl
theorem QRT (n x) : nic n (.b x) = .b x:=_root_.id rfl
theorem QSU (n x) : nic n (.s x) = .s x:=_root_.id rfl
theorem QSg (n m r) : nic n (.imm m r) = .imm m r:=_root_.id rfl
theorem QP0 : QeE [] = []:=_root_.id rfl
theorem QTc (c cs) : QeE (c :: cs) = QlZ c ++ QeE cs:=_root_.id rfl
theorem QMo (j) : QlZ (.sl j) = [j]:=_root_.id rfl
theorem QKg (j a b) : QlZ (.ptr j a b) = [j]:=_root_.id rfl
theorem QJa (js j a b) : QcU js (.ptr j a b) = (QbG js j).map fun i=>.ptr i a b:=_root_.id rfl
theorem QSq (K js es) : QdH K js es = Zl K js es ++ QhA js es:=_root_.id rfl
theorem QTD (es) : QhA [] es = es:=_root_.id rfl
theorem QRX (j js e es) : QhA (j :: js) (e :: es) = QhA js es:=_root_.id rfl
theorem QPC (k i) : rix [] k i = k + i:=_root_.id rfl
theorem QR7 (j js k) : rix (j :: js) k 0 = j:=_root_.id rfl
theorem QPW (j js k) : rix (j :: js) k 1 = rix js k 0:=_root_.id rfl
theorem QQa (j js k) : rix (j :: js) k 2 = rix js k 1:=_root_.id rfl
theorem QS3 (j js k) : rix (j :: js) k 3 = rix js k 2:=_root_.id rfl
theorem QTj (j js k) : rix (j :: js) k 4 = rix js k 3:=_root_.id rfl
theorem QOR (j js k) : rix (j :: js) k 5 = rix js k 4:=_root_.id rfl
theorem QRq (j js k) : rix (j :: js) k 6 = rix js k 5:=_root_.id rfl
theorem QTN (j js k) : rix (j :: js) k 7 = rix js k 6:=_root_.id rfl
theorem QQ9 (j js k) : rix (j :: js) k 8 = rix js k 7:=_root_.id rfl
theorem QPL (j js k) : rix (j :: js) k 9 = rix js k 8:=_root_.id rfl
theorem QQU (j js k) : rix (j :: js) k 10 = rix js k 9:=_root_.id rfl
theorem QTx (j js k) : rix (j :: js) k 11 = rix js k 10:=_root_.id rfl
theorem QQ5 (j js k) : rix (j :: js) k 12 = rix js k 11:=_root_.id rfl
theorem QRh (j js k) : rix (j :: js) k 13 = rix js k 12:=_root_.id rfl
theorem QQF (j js k) : rix (j :: js) k 14 = rix js k 13:=_root_.id rfl
theorem QPj (j js k) : rix (j :: js) k 15 = rix js k 14:=_root_.id rfl
theorem QQr (j js k) : rix (j :: js) k 16 = rix js k 15:=_root_.id rfl
theorem QOK (js k c n) : QbQ js k (.i c n) = .i c n:=by simp [QbQ]
theorem QQb (js k x) : QbQ js k (.b x) = .b x:=by simp [QbQ]
theorem QRe (js k x) : QbQ js k (.s x) = .s x:=by simp [QbQ]
theorem QPB (js k) : QbQ js k .nil = .nil:=by simp [QbQ]
theorem QQL (js k n r) : QbQ js k (.imm n r) = .imm n r:=by simp [QbQ]
theorem QIv (js k i) : QbQ js k (.sl i) = .sl (rix js k i):=by simp [QbQ]
theorem QJk (js k i a b) : QbQ js k (.ptr i a b) = .ptr (rix js k i) a b:=by simp [QbQ]
theorem QNQ (js k cs) : QbQ js k (.agg cs) = .agg (QeZ js k cs):=by simp [QbQ]
theorem QIF (js k cs) : QbQ js k (.tup cs) = .tup (QeZ js k cs):=by simp [QbQ]
theorem QRb (js k) : QeZ js k [] = []:=by simp [QeZ]
theorem QS6 (js k c cs) : QeZ js k (c :: cs) = QbQ js k c :: QeZ js k cs:=by simp [QeZ]
theorem QPx (m c n) : rok m (.i c n) = true:=_root_.id rfl
theorem QRv (m x) : rok m (.b x) = true:=_root_.id rfl
theorem QSJ (m x) : rok m (.s x) = true:=_root_.id rfl
theorem QQu (m) : rok m .nil = true:=_root_.id rfl
theorem QSr (m n r) : rok m (.imm n r) = true:=_root_.id rfl
theorem QIk (m i) : rok m (.sl i) = Nat.ble (i + 1) m:=_root_.id rfl
theorem QLB (m i a b) : rok m (.ptr i a b) = Nat.ble (i + 1) m:=_root_.id rfl
theorem QLn (m cs) : rok m (.agg cs) = Qm5 m cs:=_root_.id rfl
theorem QMr (m cs) : rok m (.tup cs) = Qm5 m cs:=_root_.id rfl
theorem QRr (m) : Qm5 m [] = true:=_root_.id rfl
theorem QP2 (m c cs) : Qm5 m (c :: cs) = (rok m c && Qm5 m cs):=_root_.id rfl
theorem QPd (c n) : clc (.i c n) = true:=_root_.id rfl
theorem QPk (x) : clc (.b x) = true:=_root_.id rfl
theorem QNI (x) : clc (.s x) = true:=_root_.id rfl
theorem QRG : clc .nil = true:=_root_.id rfl
theorem QRk (n r) : clc (.imm n r) = true:=_root_.id rfl
theorem QLx : Qo6 [] = true:=_root_.id rfl
theorem QLo (c cs) : Qo6 (c :: cs) = (clc c && Qo6 cs):=_root_.id rfl
theorem QOH : Qh2 [] = true:=_root_.id rfl
theorem QPS (n r K) : Qh2 (some (.lst n r) :: K) = Qh2 K:=_root_.id rfl
theorem QHv (cs K) : Qh2 (some (.box cs) :: K) = (Qo6 cs && Qh2 K):=_root_.id rfl
theorem QFJ (cs) : QlZ (.agg cs) = QeE cs:=_root_.id rfl
theorem QO3 (c n) : QlZ (.i c n) = []:=_root_.id rfl
theorem QSn (x) : QlZ (.b x) = []:=_root_.id rfl
theorem QKk (x) : QlZ (.s x) = []:=_root_.id rfl
theorem QO8 : QlZ .nil = []:=_root_.id rfl
theorem QSe (n r) : QlZ (.imm n r) = []:=_root_.id rfl
theorem QO0 (g l) : QlZ (.clo g l) = []:=_root_.id rfl
theorem QP5 (js) : Qcy js [] = some []:=_root_.id rfl
theorem QTd (js c cs) : Qcy js (c :: cs) = (QcU js c).bind fun c'=>(Qcy js cs).map (c' :: ·):=_root_.id rfl
theorem QHE (js j) : QcU js (.sl j) = (QbG js j).map .sl:=_root_.id rfl
theorem QEg (js cs) : QcU js (.agg cs) = (Qcy js cs).map .agg:=_root_.id rfl
theorem QRx (js c n) : QcU js (.i c n) = some (.i c n):=_root_.id rfl
theorem QPT (js x) : QcU js (.b x) = some (.b x):=_root_.id rfl
theorem QIN (js x) : QcU js (.s x) = some (.s x):=_root_.id rfl
theorem QTC (js) : QcU js .nil = some .nil:=_root_.id rfl
theorem QRH (js n r) : QcU js (.imm n r) = some (.imm n r):=_root_.id rfl
theorem QRI (js g) : QcU js (.clo g []) = some (.clo g []):=_root_.id rfl
theorem Qkd (x y : Nat) : Nat.beq x y = (x == y):=by rw [Bool.eq_iff_iff]; simp
theorem QP1 (x l j) : QbG (x :: l) j = sel (x == j) (some 0) ((QbG l j).map (· + 1)) ():=by rw [← Qkd]; rfl
theorem QS0 (K) : Jr K [] = []:=_root_.id rfl
theorem QRw (K j js) : Jr K (j :: js) = kg K j :: Jr K js:=_root_.id rfl
theorem QSd (K es) : Zl K [] es = K:=by cases es <;> rfl
theorem QOM (K j js e es) : Zl K (j :: js) (e :: es) = Zl (K.set j e) js es:=_root_.id rfl
theorem QO6 : QrG [] = true:=_root_.id rfl
theorem QSR (n r K) : QrG (some (.lst n r) :: K) = QrG K:=_root_.id rfl
theorem QSO (c n) : AV.scal (.i c n) = true:=_root_.id rfl
theorem QQX (x) : AV.scal (.b x) = true:=_root_.id rfl
theorem QSC (x) : AV.scal (.s x) = true:=_root_.id rfl
theorem QRL (c n) : AV.flat (.i c n) = true:=_root_.id rfl
theorem QR5 (x) : AV.flat (.b x) = true:=_root_.id rfl
theorem QPe (x) : AV.flat (.s x) = true:=_root_.id rfl
theorem QRS : AV.flat (.tup []) = true:=_root_.id rfl
theorem QPh : QyI .one = true:=_root_.id rfl
theorem w_p (x g j i o) (k : AV → KS → Option β) (l) : onp D f K (.ptr j i o) x g k l = onj D f K x g j i o (kg K j) k ():=_root_.id rfl
theorem QPn (x g j i o q r) (k : AV → KS → Option β) (l) : onj D f K x g j i o (some (.lst q r)) k l = onx D f K x g j i o q r ((QK r i).drop o) k ():=_root_.id rfl
theorem w_x (x g j i o q r m rs cs) (k : AV → KS → Option β) (l) : onx D f K x g j i o q r (.own m rs :: cs) k l = Vg x.scal (Jz (D.a g [some (.lst m rs)] [.sl 0,x]) (fun s=>onr D f K j i o q r s k ()) ()) ():=_root_.id rfl
theorem QSB (u us ops d o t p af r) (k : Fr → KS → Option β) (l) : Qhy P D ops (u :: us) (⟨some d,o,t,p,af,none⟩ :: r) f K k l = oop P D o f K (fun v K'=>QjM v (fun v=>Qhy P D ops us r (up f d v) K' k ()) ()) ():=_root_.id rfl
def QCU (d : Option Tmp) (v : AV) (f : Fr) (k : Fr → Option β) (_ : Lk (f,k)) : Option β:=match d with
 | some d=>QjM v (fun v=>k (up f d v)) ()
 | none=>k f
theorem QC2 (d v f) (k : Fr → Option β) (l) : QCU (some d) v f k l = QjM v (fun v=>k (up f d v)) ():=_root_.id rfl
theorem QOE (ops d t p y1 p1 a1 e x y2 p2 a2 dst g d' e' ts y3 p3 a3 r) (k : Fr → KS → Option β) (l) : Qhy P D ops [] (⟨some d,.load t p,y1,p1,a1,none⟩ :: ⟨some e,.move x,y2,p2,a2,none⟩ :: ⟨dst,.call ⟨.value (.func g),List.toArray [.tmp d',.tmp e'],ts⟩,y3,p3,a3,none⟩ :: r) f K k l =
  Vg (QyI (tk P t) && ((d == d') && ((e == e') && !(d == e)))) (onp D f K (ev f p) (ev (up f d (.sl K.length)) x) g (fun v K'=>QCU dst v (up (up f d (.sl K.length)) e (ev (up f d (.sl K.length)) x)) (fun f=>QfP P D ops r f K' k ()) ()) ()) ():=by rw [← Qkd,← Qkd,← Qkd]; cases dst <;> rfl
theorem QIx (a b l) : oop P D (.makeInterface a b) f K k l = none:=_root_.id rfl
theorem QK6 (a l) : oop P D (.panic a) f K k l = none:=_root_.id rfl
theorem QnD (t len ps l) : QcF P D (.buildSlice t len ps) f K k l = oop P D (.buildSlice t len ps) f K k ():=_root_.id rfl
def Qri (o : Option (List Int)) (K : KS) (j : Nat) (k : AV → KS → Option β) (_ : Lk k) : Option β:=match o with
 | some xs=>Vg (decide (xs.length < 4611686018427387904)) (Xl (K.set j none ++ [some (.lst 1 ((Xv xs).map cI))]) (fun K'=>k (.sl K.length) K') ()) ()
 | none=>none
def Qxf (e : Option Ent) (K : KS) (j : Nat) (k : AV → KS → Option β) (_ : Lk k) : Option β:=match e with
 | some (.lst 1 rows)=>Qri (QcS rows) K j k ()
 | _=>none
theorem QR4 (K : KS) (j) (k : AV → KS → Option β) (l) : QmT K [.sl j] k l = Qxf (kg K j) K j k ():=_root_.id rfl
theorem QKs (r) (K : KS) (j) (k : AV → KS → Option β) (l) : Qxf (some (.lst 1 r)) K j k l = Qri (QcS r) K j k ():=_root_.id rfl
theorem QEt (xs) (K : KS) (j) (k : AV → KS → Option β) (l) : Qri (some xs) K j k l = Vg (decide (xs.length < 4611686018427387904)) (Xl (K.set j none ++ [some (.lst 1 ((Xv xs).map cI))]) (fun K'=>k (.sl K.length) K') ()) ():=_root_.id rfl
def QrT (o : Option (List Int)) (K : KS) (j : Nat) (k : AV → KS → Option β) (_ : Lk k) : Option β:=match o with
 | some xs=>Vg (decide (xs.length < 4611686018427387904)) (Xl (K.set j (some (.lst 1 ((Xi xs).map cI)))) (fun K=>k (.tup []) K) ()) ()
 | none=>none
def Qxo (e : Option Ent) (K : KS) (j : Nat) (k : AV → KS → Option β) (_ : Lk k) : Option β:=match e with
 | some (.lst 1 rows)=>QrT (QcS rows) K j k ()
 | _=>none
theorem QSG (K : KS) (j) (k : AV → KS → Option β) (l) : Qnx K [.sl j] k l = Qxo (kg K j) K j k ():=_root_.id rfl
theorem QKA (r) (K : KS) (j) (k : AV → KS → Option β) (l) : Qxo (some (.lst 1 r)) K j k l = QrT (QcS r) K j k ():=_root_.id rfl
theorem QEB (xs) (K : KS) (j) (k : AV → KS → Option β) (l) : QrT (some xs) K j k l = Vg (decide (xs.length < 4611686018427387904)) (Xl (K.set j (some (.lst 1 ((Xi xs).map cI)))) (fun K=>k (.tup []) K) ()) ():=_root_.id rfl
theorem Qsi : ∀ xs : List Int,QcS (xs.map fun x=>[.i .i64 x]) = some xs
 | []=>rfl
 | x :: xs=>by rw [List.map_cons,QcS,Qsi xs]; rfl
noncomputable def Qyz (P : Program) (D : Orc) (a : Ann) (id : Nat) (ops : Array Oper) (o : Option (List Nat)) (Q : KT β) (f : Fr) (K : KS) (_ : Lk (ops,Q,f)) : Option β:=QmN P D a id ops (QqV ops o) Q f K ()
theorem QBp (id ol l) : V8 P D a (.region id (List.toArray ol) true) Q f K l = ofz (lk a.fz id) (lk a.fc id) f K (fun f K=>Qjg P D a id (lk a.av id) (List.toArray ol) Q f K ()) ():=_root_.id rfl
theorem QOp (id ol l) : Qjg P D a id none (List.toArray ol) Q f K l = QpT P D a id (lk a.eb id) (List.toArray ol) Q f K ():=_root_.id rfl
theorem QOi (id vs ol l) : Qjg P D a id (some vs) (List.toArray ol) Q f K l = Qpq vs P D a id (lk a.ot id) (List.toArray ol) Q f K ():=_root_.id rfl
theorem QLL (id vs ol l) : Qpq vs P D a id none (List.toArray ol) Q f K l = Qtx vs P D (List.toArray ol) (lk a.ord id) Q f K ():=_root_.id rfl
theorem QIc (id vs t ops l) : Qpq vs P D a id (some t) ops Q f K l = QbY vs P D ops t f K (fun f K=>Q .normal f K) ():=_root_.id rfl
theorem QOn (vs ol l) : Qtx vs P D (List.toArray ol) none Q f K l = ZS vs P D (List.toArray ol) ol f K (fun f K=>Q .normal f K) ():=_root_.id rfl
theorem QMN (id ops l) : QpT P D a id none ops Q f K l = Qgb P D a id ops (lk a.ot id) Q f K ():=_root_.id rfl
noncomputable def QCJ (P : Program) (D : Orc) (a : Ann) (id : Nat) (ol : List Oper) (Q : KT β) (f : Fr) (K : KS) (_ : Lk (Q,f)) : Option β:=Qgb P D a id (List.toArray ol) (lk a.ot id) Q f K ()
theorem QMG (id ds ol l) : QpT P D a id (some ds) (List.toArray ol) Q f K l = QCJ P D a id (ol.map (Jg ds)) Q f K ():=by
 show Qgb P D a id ((List.toArray ol).map (Jg ds)) (lk a.ot id) Q f K () = Qgb P D a id (List.toArray (ol.map (Jg ds))) (lk a.ot id) Q f K ()
 rw [List.map_toArray]
theorem c_M (id o r l) : QCJ P D a id (o :: r) Q f K l = Qgb P D a id (List.toArray (o :: r)) (lk a.ot id) Q f K ():=_root_.id rfl
theorem QK8 (ds d t y p e g) : Jg ds ⟨d,.buildSlice t 0 (List.toArray []),y,p,e,g⟩ = ⟨d,.move (.const (.slice none 0 0)),y,p,e,g⟩:=_root_.id rfl
theorem QN0 (ds d t m ps y p e g) : Jg ds ⟨d,.buildSlice t (m + 1) ps,y,p,e,g⟩ = ⟨d,.buildSlice t (m + 1) ps,y,p,e,g⟩:=_root_.id rfl
theorem QDU (ds d s x ts y p e g) : Jg ds ⟨d,.call ⟨.builtin .append,List.toArray [.tmp s,x],ts⟩,y,p,e,g⟩ = cond (ds.contains s) ⟨d,.call ⟨.builtin .append,List.toArray [.const (.slice none 0 0),x],ts⟩,y,p,e,g⟩ ⟨d,.call ⟨.builtin .append,List.toArray [.tmp s,x],ts⟩,y,p,e,g⟩:=_root_.id rfl
theorem QDT (ds d xs ts y p e g) : Jg ds ⟨d,.call ⟨.builtin .len,xs,ts⟩,y,p,e,g⟩ = ⟨d,.call ⟨.builtin .len,xs,ts⟩,y,p,e,g⟩:=_root_.id rfl
theorem QBm (ds d v xs ts y p e g) : Jg ds ⟨d,.call ⟨.value v,xs,ts⟩,y,p,e,g⟩ = ⟨d,.call ⟨.value v,xs,ts⟩,y,p,e,g⟩:=_root_.id rfl
theorem QB3 (ds d x y p e g) : Jg ds ⟨d,.move x,y,p,e,g⟩ = ⟨d,.move x,y,p,e,g⟩:=_root_.id rfl
theorem QEF (ds d x y p e g) : Jg ds ⟨d,.assign x,y,p,e,g⟩ = ⟨d,.assign x,y,p,e,g⟩:=_root_.id rfl
theorem Qzj (ds d t x y p e g) : Jg ds ⟨d,.load t x,y,p,e,g⟩ = ⟨d,.load t x,y,p,e,g⟩:=_root_.id rfl
theorem Qwo (ds d t x z y p e g) : Jg ds ⟨d,.store t x z,y,p,e,g⟩ = ⟨d,.store t x z,y,p,e,g⟩:=_root_.id rfl
theorem QIV (ds d t x i y p e g) : Jg ds ⟨d,.fieldAddr t x i,y,p,e,g⟩ = ⟨d,.fieldAddr t x i,y,p,e,g⟩:=_root_.id rfl
theorem QIn (ds d t x i y p e g) : Jg ds ⟨d,.indexAddr t x i,y,p,e,g⟩ = ⟨d,.indexAddr t x i,y,p,e,g⟩:=_root_.id rfl
theorem Qwf (ds d t ps y p e g) : Jg ds ⟨d,.build t ps,y,p,e,g⟩ = ⟨d,.build t ps,y,p,e,g⟩:=_root_.id rfl
theorem QEq (ds d o t x z u y p e g) : Jg ds ⟨d,.binOp o t x z u,y,p,e,g⟩ = ⟨d,.binOp o t x z u,y,p,e,g⟩:=_root_.id rfl
theorem QDL (ds d x y p e g) : Jg ds ⟨d,.nilCheck x,y,p,e,g⟩ = ⟨d,.nilCheck x,y,p,e,g⟩:=_root_.id rfl
theorem QLJ (ds d o t x y p e g) : Jg ds ⟨d,.unOp o t x,y,p,e,g⟩ = ⟨d,.unOp o t x,y,p,e,g⟩:=_root_.id rfl
theorem QD7 (ds d t x i y p e g) : Jg ds ⟨d,.field t x i,y,p,e,g⟩ = ⟨d,.field t x i,y,p,e,g⟩:=_root_.id rfl
theorem QGs (ds d x i y p e g) : Jg ds ⟨d,.extract x i,y,p,e,g⟩ = ⟨d,.extract x i,y,p,e,g⟩:=_root_.id rfl
theorem QGX (ds d t x y p e g) : Jg ds ⟨d,.box t x,y,p,e,g⟩ = ⟨d,.box t x,y,p,e,g⟩:=_root_.id rfl
theorem QyT (ds d t y p e g) : Jg ds ⟨d,.alloc t,y,p,e,g⟩ = ⟨d,.alloc t,y,p,e,g⟩:=_root_.id rfl
theorem QxF (ds d t x lo hi mx y p e g) : Jg ds ⟨d,.slice t x lo hi mx,y,p,e,g⟩ = ⟨d,.slice t x lo hi mx,y,p,e,g⟩:=_root_.id rfl
theorem Qxc (id ol l) : Qgb P D a id (List.toArray ol) none Q f K l = Qyz P D a id (List.toArray ol) (lk a.ord id) Q f K ():=_root_.id rfl
theorem QvP (id ops t l) : Qgb P D a id ops (some t) Q f K l = QdO P D ops t f K (fun f K=>Q .normal f K) ():=_root_.id rfl
noncomputable def Qq8 (P : Program) (D : Orc) (ops : Array Oper) (o : Option Oper) (t : OT) (f : Fr) (K : KS) (k : Fr → KS → Option β) (_ : Lk (ops,f,k)) : Option β:=match o with
 | some o=>Qde P D ops [o] f K (fun f K=>QdO P D ops t f K k ()) ()
 | none=>none
theorem Qx8 (ops) (k : Fr → KS → Option β) (l) : QdO P D ops .done f K k l = k f K:=_root_.id rfl
theorem QMt (ol i t) (k : Fr → KS → Option β) (l) : QdO P D (List.toArray ol) (.one i t) f K k l = Qq8 P D (List.toArray ol) (ol[i]?) t f K k ():=by
 have : (List.toArray ol)[i]? = ol[i]?:=by simp
 unfold QdO Qq8
 rw [this]
 cases ol[i]? <;> rfl
theorem QxU (ops o t) (k : Fr → KS → Option β) (l) : Qq8 P D ops (some o) t f K k l = Qde P D ops [o] f K (fun f K=>QdO P D ops t f K k ()) ():=_root_.id rfl
theorem Qwk (vs ops) (k : Fr → KS → Option β) (l) : QbY vs P D ops .done f K k l = k f K:=_root_.id rfl
noncomputable def Qo2 (vs : List Nat) (P : Program) (D : Orc) (ops : Array Oper) (o : Option Oper) (t : OT) (f : Fr) (K : KS) (k : Fr → KS → Option β) (_ : Lk (ops,f,k)) : Option β:=match o with
 | some o=>ZS vs P D ops [o] f K (fun f K=>QbY vs P D ops t f K k ()) ()
 | none=>none
theorem QCL (vs ol i t) (k : Fr → KS → Option β) (l) : QbY vs P D (List.toArray ol) (.one i t) f K k l = Qo2 vs P D (List.toArray ol) (ol[i]?) t f K k ():=by
 have : (List.toArray ol)[i]? = ol[i]?:=by simp
 unfold QbY Qo2
 rw [this]
 cases ol[i]? <;> rfl
theorem Qv4 (vs ops o t) (k : Fr → KS → Option β) (l) : Qo2 vs P D ops (some o) t f K k l = ZS vs P D ops [o] f K (fun f K=>QbY vs P D ops t f K k ()) ():=_root_.id rfl
theorem QCE (vs ops a b) (k : Fr → KS → Option β) (l) : QbY vs P D ops (.alt a b) f K k l = oeq (QbY vs P D ops a f K k ()) (QbY vs P D ops b f K k ()):=_root_.id rfl
theorem QJy (ops a b) (k : Fr → KS → Option β) (l) : QdO P D ops (.alt a b) f K k l = oeq (QdO P D ops a f K k ()) (QdO P D ops b f K k ()):=_root_.id rfl
theorem Qdz (x : Option β) : oeq x x = x:=by simp [oeq]
theorem Qc9 (p q : Bool) (x : Option β) (l l' : Unit) : Vg p (Vg q x l) l' = Vg q (Vg p x l) l':=by cases p <;> cases q <;> rfl
theorem QEn (id ol l) : Qyz P D a id (List.toArray ol) none Q f K l = QmN P D a id (List.toArray ol) ol Q f K ():=_root_.id rfl
def pk : List Oper → List Nat → List Oper
 | _,[]=>[]
 | ol,i :: is=>match ol[i]? with | some o=>o :: pk ol is | none=>pk ol is
noncomputable def QC1 (P : Program) (D : Orc) (a : Ann) (id : Nat) (ops : Array Oper) (l : List Oper) (Q : KT β) (f : Fr) (K : KS) (_ : Lk (ops,Q,f)) : Option β:=QmN P D a id ops l Q f K ()
theorem QnJ (ol is) : QqV (List.toArray ol) (some is) = pk ol is:=by
 show is.filterMap (fun i=>(List.toArray ol)[i]?) = _
 induction is with
 | nil=>rfl
 | cons i is ih =>
  rw [pk,List.filterMap_cons]
  have : (List.toArray ol)[i]? = ol[i]?:=by simp
  rw [this]
  cases ol[i]? with
  | none=>simpa using ih
  | some o=>rw [← ih]
theorem QDD (id ol is l) : Qyz P D a id (List.toArray ol) (some is) Q f K l = QC1 P D a id (List.toArray ol) (pk ol is) Q f K ():=by
 show QmN P D a id _ (QqV _ _) Q f K () = _
 rw [QnJ]; rfl
noncomputable def QCI (vs : List Nat) (P : Program) (D : Orc) (ops : Array Oper) (l : List Oper) (Q : KT β) (f : Fr) (K : KS) (_ : Lk (ops,Q,f)) : Option β:=ZS vs P D ops l f K (fun f K=>Q .normal f K) ()
theorem QPY (vs ol is l) : Qtx vs P D (List.toArray ol) (some is) Q f K l = QCI vs P D (List.toArray ol) (pk ol is) Q f K ():=by
 show ZS vs P D _ (QqV _ _) f K _ () = _
 rw [QnJ]; rfl
theorem c_K (vs ops o r l) : QCI vs P D ops (o :: r) Q f K l = ZS vs P D ops (o :: r) f K (fun f K=>Q .normal f K) ():=_root_.id rfl
theorem QIM (ol) : pk ol [] = []:=_root_.id rfl
def pkO (o : Option Oper) (l : List Oper) : List Oper:=match o with | some o=>o :: l | none=>l
theorem QNn (ol i is) : pk ol (i :: is) = pkO (ol[i]?) (pk ol is):=by rw [pk]; cases ol[i]? <;> rfl
theorem QHW (o l) : pkO (some o) l = o :: l:=_root_.id rfl
theorem QEP (id ops o r l) : QC1 P D a id ops (o :: r) Q f K l = QmN P D a id ops (o :: r) Q f K ():=_root_.id rfl
theorem QKh {α : Type} (x : α) (l : List α) : (x :: l)[0]? = some x:=_root_.id rfl
theorem QOs {α : Type} (x : α) (l : List α) (i : Nat) : (x :: l)[i + 1]? = l[i]?:=_root_.id rfl
theorem QHs {α : Type} (l : List α) (i : Nat) : (List.toArray l)[i]? = l[i]?:=by simp
theorem Qtf {α γ : Type} (x : α) (g : α → Option γ) : (some x).bind g = g x:=_root_.id rfl
noncomputable def QyV (P : Program) (D : Orc) (j : Option (Nat × Nat × Nat)) (ops : Array Oper) (l : List Oper) (Q : KT β) (f : Fr) (K : KS) (_ : Lk (l,Q,f)) : Option β :=
 match j with
 | none=>Qde P D ops l f K (fun f K=>Q .normal f K) ()
 | some (s,lo,hi)=>QnI (Qde P D ops l f K (fun f _=>asB (f s)) ()) (fun c=>Q .normal (up (Qvg lo hi f) s (.b c)) K) ()
theorem QOm (id ops ol l) : QmN P D a id ops ol Q f K l = QyV P D (lk a.jn id) ops ol Q f K ():=_root_.id rfl
theorem Qzc (ops ol l) : QyV P D none ops ol Q f K l = Qde P D ops ol f K (fun f K=>Q .normal f K) ():=_root_.id rfl
theorem QyJ (s lo hi ops ol l) : QyV P D (some (s,lo,hi)) ops ol Q f K l = QnI (Qde P D ops ol f K (fun f _=>asB (f s)) ()) (fun c=>Q .normal (up (Qvg lo hi f) s (.b c)) K) ():=_root_.id rfl
theorem QA5 (o) (k : Bool → Option β) (l) : QnI o k l = o.bind k:=_root_.id rfl
theorem QNk (b) (k : Bool → Option β) (l) : QnI (Qkr b) k l = k b:=_root_.id rfl
theorem QBE (b x y) : cond b (Qkr x) (Qkr y) = Qkr (cond b x y):=by cases b <;> rfl
theorem QSL (b) : Qkr b = some b:=_root_.id rfl
theorem QOa (a b : Bool) : cond a b false = (a && b):=by cases a <;> rfl
theorem QPM (a b : Bool) : cond a true b = (a || b):=by cases a <;> rfl
theorem QG4 (a b : Bool) : cond a false b = (!a && b):=by cases a <;> rfl
theorem QMO (b) : asB (.b b) = Qkr b:=_root_.id rfl
def QCz (D : Orc) (t : Nat) (z : List Nat) (la : Option LA) (Q : KT β) (f : Fr) (K : KS) (_ : Lk Q) : Option β :=
 match la with
 | some la=>QeD z la.sl la.rg f K (fun f K=>Jz (D.l t f K) (fun o=>Q o.1 o.2.1 o.2.2) ()) ()
 | none=>none
theorem QGx (c l) : V8 P D a (.loop c) Q f K l = QCz D (tag c) a.ak (lk a.lp (tag c)) Q f K ():=_root_.id rfl
theorem Qti (t z la l) : QCz D t z (some la) Q f K l = QeD z la.sl la.rg f K (fun f K=>Jz (D.l t f K) (fun o=>Q o.1 o.2.1 o.2.2) ()) ():=_root_.id rfl
theorem QiM (id o d) : tag (.region id o d) = id:=_root_.id rfl
theorem QuD (x y) : tag (.seq x y) = tag x:=_root_.id rfl
theorem Qse (c x y) : tag (.cond c x y) = tag x:=_root_.id rfl
theorem Qpo (i x) : tag (.block i x) = tag x:=_root_.id rfl
theorem Qr6 (x) : tag (.loop x) = tag x:=_root_.id rfl
theorem Qxw (k : Fr → KS → Option β) (Q f K) : Qqr k Q .normal f K = k f K:=_root_.id rfl
theorem QwL (k : Fr → KS → Option β) (Q f K) : Qqr k Q .ret f K = Q .ret f K:=_root_.id rfl
theorem Qv5 (k : Fr → KS → Option β) (Q id f K) : Qqr k Q (.exit id) f K = Q (.exit id) f K:=_root_.id rfl
theorem QCl (i f K) : Quz i Q .normal f K = Q .normal f K:=_root_.id rfl
theorem QBr (i f K) : Quz i Q .ret f K = Q .ret f K:=_root_.id rfl
theorem Qzi (i j f K) : Quz i Q (.exit j) f K = sel (j == i) (Q .normal f K) (Q (.exit j) f K) ():=_root_.id rfl
theorem QNO (ops) (k : Fr → KS → Option β) (l) : Qde P D ops [] f K k l = k f K:=_root_.id rfl
theorem QGW (ops r) (k : Fr → KS → Option β) (d op t pos after l) : Qde P D ops (⟨some d,op,t,pos,after,none⟩ :: r) f K k l = oop P D op f K (fun v K'=>QjM v (fun v=>Qde P D ops r (up f d v) K' k ()) ()) ():=_root_.id rfl
theorem QA6 (ops r) (k : Fr → KS → Option β) (op t pos after l) : Qde P D ops (⟨none,op,t,pos,after,none⟩ :: r) f K k l = oop P D op f K (fun v K'=>Qde P D ops r f K' k ()) ():=_root_.id rfl
theorem c_g (ops r) (k : Fr → KS → Option β) (d op t pos after j want l) : Qde P D ops (⟨some d,op,t,pos,after,some (j,want)⟩ :: r) f K k l =
  ogd ((ops[j]?).bind (·.dst)) want f (fun f=>oop P D op f K (fun v K'=>QjM v (fun v=>Qde P D ops r (up f d v) K' k ()) ()) ()) (fun f=>QjM (.tup []) (fun v=>Qde P D ops r (up f d v) K k ()) ()) ():=_root_.id rfl
theorem QQZ (ops r) (k : Fr → KS → Option β) (op t pos after j want l) : Qde P D ops (⟨none,op,t,pos,after,some (j,want)⟩ :: r) f K k l =
  ogd ((ops[j]?).bind (·.dst)) want f (fun f=>oop P D op f K (fun v K'=>Qde P D ops r f K' k ()) ()) (fun f=>Qde P D ops r f K k ()) ():=_root_.id rfl
def QzY (v : AV) (d : Nat) (want : Bool) (f : Fr) (yes no : Fr → Option β) (_ : Lk (f,yes,no)) : Option β :=
 match v with
 | .b x=>cond x (cond want (yes (up f d (.b true))) (no (up f d (.b true)))) (cond want (no (up f d (.b false))) (yes (up f d (.b false))))
 | .tup []=>no f
 | _=>none
theorem QR1 (d want) (yes no : Fr → Option β) (l) : ogd (some d) want f yes no l = QzY (f d) d want f yes no ():=by
 cases want <;> rfl
theorem QCq (b d) (yes no : Fr → Option β) (l) : QzY (.b b) d true f yes no l = cond b (yes (up f d (.b true))) (no (up f d (.b false))):=_root_.id rfl
theorem QCr (b d) (yes no : Fr → Option β) (l) : QzY (.b b) d false f yes no l = cond b (no (up f d (.b true))) (yes (up f d (.b false))):=_root_.id rfl
theorem QDa (d w) (yes no : Fr → Option β) (l) : QzY (.tup []) d w f yes no l = no f:=_root_.id rfl
theorem QGH (x l) : oop P D (.move x) f K k l = k (ev f x) K:=_root_.id rfl
theorem Qxg (x l) : oop P D (.assign x) f K k l = k (ev f x) K:=_root_.id rfl
theorem QEU (c x y l) : oop P D (.pick c x y) f K k l = QmE (ev f c) (ev f x) (ev f y) (fun v=>k v K) ():=_root_.id rfl
theorem QBP (t l) : oop P D (.alloc t) f K k l = QlL K (tzc P t) k ():=_root_.id rfl
theorem QJu (t v l) : oop P D (.box t v) f K k l = Qrr K (ev f v) k ():=_root_.id rfl
theorem Qzv (t ps l) : oop P D (.build t (List.toArray ps)) f K k l = QjU K (tbd P t) (ps.map fun p=>(p.1,ev f p.2)) (fun v=>k v K) ():=_root_.id rfl
theorem Qyy (t len ps l) : oop P D (.buildSlice t len (List.toArray ps)) f K k l = QgX (zB (QdS P t)) (QdS P t) K (tse P t) len (ps.map fun p=>(p.1,ev f p.2)) k ():=_root_.id rfl
theorem QF6 (t x l) : oop P D (.load t x) f K k l = QfK (tk P t) (Jp K (ev f x)) (fun v=>k v K) ():=_root_.id rfl
theorem Qzl (t p v l) : oop P D (.store t p v) f K k l = Qij (flT P t) (slz P 9 t) K (tk P t) (ev f p) (ev f v) (fun K=>k .u K) ():=_root_.id rfl
theorem QLQ (op t x y s l) : oop P D (.binOp op t x (.tmp y) s) f K k l = JZ (QkX P t) op (ev f x) (ev f (.tmp y)) (fun v=>k v K) ():=_root_.id rfl
theorem QD9 (op t x c n s l) : oop P D (.binOp op t x (.const (.int c n)) s) f K k l = JZ (QkX P t) op (ev f x) (ev f (.const (.int c n))) (fun v=>k v K) ():=_root_.id rfl
theorem QGf (op t x c s l) : oop P D (.binOp op t x (.const (.bool c)) s) f K k l = JZ (QkX P t) op (ev f x) (ev f (.const (.bool c))) (fun v=>k v K) ():=_root_.id rfl
theorem QD0 (op t x c s l) : oop P D (.binOp op t x (.const (.string c)) s) f K k l = JZ (QkX P t) op (ev f x) (ev f (.const (.string c))) (fun v=>k v K) ():=_root_.id rfl
theorem QFf (op t x s l) (h : Qex P t = true) : oop P D (.binOp op t x (.const (.slice none 0 0)) s) f K k l = Qkb op (ev f x) (fun v=>k v K) ():=by simp [oop,QbZ,h]
theorem QI6 (g caps l) : oop P D (.makeFunc (.func g) (List.toArray []) (List.toArray caps)) f K k l = k (.clo g (caps.map (ev f))) K:=by simp [oop]
theorem QIT (s t x l) (h : bsl P s = true) : oop P D (.convert s t x) f K k l = QqU K (ti P t) (ev f x) (fun v=>k v K) ():=by simp [oop,h]
theorem QHq (s t x l) (h : bsl P s = false) (h2 : tok P s = true) : oop P D (.convert s t x) f K k l = QqS (ti P t) (ev f x) (fun v=>k v K) ():=by simp [oop,h,h2]
theorem QIC (t x lo hi l) : oop P D (.slice t x lo hi none) f K k l = Qhm (ti P t) (ev f x) (lo.map (ev f)) (hi.map (ev f)) (fun v=>k v K) ():=_root_.id rfl
theorem QOD (t x i l) : oop P D (.index t x i) f K k l = Qxl (ti P t) (ev f x) (ev f i) (fun v=>k v K) ():=_root_.id rfl
theorem QHV (x l) : oop P D (.nilCheck x) f K k l = Qxx K (ev f x) (fun v=>k v K) ():=_root_.id rfl
theorem QRt (op t x l) : oop P D (.unOp op t x) f K k l = oun op (ev f x) (fun v=>k v K) ():=_root_.id rfl
theorem QSk (t x fl l) : oop P D (.fieldAddr t x fl) f K k l = QvE K (ev f x) (tfo P t fl) (fun v=>k v K) ():=_root_.id rfl
theorem QQv (t x i l) : oop P D (.indexAddr t x i) f K k l = Qpf K (ti P t) (ev f x) (ev f i) (fun v=>k v K) ():=_root_.id rfl
theorem QN6 (t x i l) : oop P D (.field t x i) f K k l = Qxd (tfo P t i) (ev f x) (fun v=>k v K) ():=_root_.id rfl
theorem QHj (x i l) : oop P D (.extract x i) f K k l = Qxq (ev f x) i (fun v=>k v K) ():=_root_.id rfl
theorem QL0 (x t ts l) : oop P D (.call ⟨.builtin .len,List.toArray [x],List.toArray (t :: ts)⟩) f K k l = QpB K (ti P t) (ev f x) (fun v=>k v K) ():=_root_.id rfl
theorem QLU (x y ts l) : oop P D (.call ⟨.builtin .min,List.toArray [x,y],ts⟩) f K k l = QvZ (ev f x) (ev f y) (fun v=>k v K) ():=_root_.id rfl
theorem QL2 (x y ts l) : oop P D (.call ⟨.builtin .max,List.toArray [x,y],ts⟩) f K k l = Qyu (ev f x) (ev f y) (fun v=>k v K) ():=_root_.id rfl
theorem QFp (g args ts l) : oop P D (.call ⟨.value g,List.toArray args,ts⟩) f K k l = Qrj (ev f g) (fun g caps=>QfO D g K (args.map (ev f) ++ caps) k ()) ():=_root_.id rfl
theorem QOw (g caps) (k : FuncId → List AV → Option β) (l) : Qrj (.clo g caps) k l = k g caps:=_root_.id rfl
theorem Qzr (g vs l) : QfO D g K vs k l = Jz (D.p g (Qm0 (D.z g) (Qc6 K vs))) (fun x=>k (VY K.length x).1 (K ++ (VY K.length x).2)) ():=_root_.id rfl
end
def QEY {β : Type} (o : Option Bool) (k : Bool → Option β) (_ : Lk k) : Option β:=match o with | some b=>k b | none=>none
section
variable {β : Type} {k : AV → Option β} {c : IntKind} {a b : Int} {te : Option (List CK)}
theorem QD4 (K j i o l) : Qxx K (.ptr j i o) k l = QsZ (kg K j) (.ptr j i o) k ():=_root_.id rfl
theorem QGp (e x l) : QsZ (some e) x k l = k x:=_root_.id rfl
theorem QDP (K n r i o l) : Qxx K (.iptr n r i o) k l = k (.iptr n r i o):=_root_.id rfl
theorem QDd (l) : JZ te .and (.i c a) (.i c b) k l = k (.i c (QeQ .and c a b)):=by simp [JZ,QfY]
theorem QHo (l) : JZ te .or (.i c a) (.i c b) k l = k (.i c (QeQ .or c a b)):=by simp [JZ,QfY]
theorem QI8 (l) : JZ te .xor (.i c a) (.i c b) k l = k (.i c (QeQ .xor c a b)):=by simp [JZ,QfY]
theorem QIi (d l) : JZ te .shl (.i c a) (.i d b) k l = Vg (decide (0 ≤ b)) (k (.i c (shI .shl c a b))) ():=by simp [JZ,QfY]
theorem QH4 (d l) : JZ te .shr (.i c a) (.i d b) k l = Vg (decide (0 ≤ b)) (k (.i c (shI .shr c a b))) ():=by simp [JZ,QfY]
theorem QM3 (l) : JZ te .add (.i c a) (.i c b) k l = k (.i c (c.wrap (a + b))):=by simp [JZ,QfY]
theorem QHJ (l) : JZ te .sub (.i c a) (.i c b) k l = k (.i c (c.wrap (a - b))):=by simp [JZ,QfY]
theorem QM2 (l) : JZ te .mul (.i c a) (.i c b) k l = k (.i c (c.wrap (a * b))):=by simp [JZ,QfY]
theorem QJX (l) : JZ te .quo (.i c a) (.i c b) k l = Vg (!decide (b = 0)) (k (.i c (c.wrap (a.tdiv b)))) ():=by simp [JZ,QfY]
theorem QIA (l) : JZ te .rem (.i c a) (.i c b) k l = Vg (!decide (b = 0)) (k (.i c (a.tmod b))) ():=by simp [JZ,QfY]
theorem QKu (l) : JZ te .eql (.i c a) (.i c b) k l = k (.b (decide (a = b))):=by simp [JZ,QfY]
theorem QHn (l) : JZ te .neq (.i c a) (.i c b) k l = k (.b (!decide (a = b))):=by simp [JZ,QfY]
theorem QOf (l) : JZ te .lss (.i c a) (.i c b) k l = k (.b (decide (a < b))):=by simp [JZ,QfY]
theorem QN3 (l) : JZ te .leq (.i c a) (.i c b) k l = k (.b (decide (a ≤ b))):=by simp [JZ,QfY]
theorem QNo (l) : JZ te .gtr (.i c a) (.i c b) k l = k (.b (decide (b < a))):=by simp [JZ,QfY]
theorem QJS (l) : JZ te .geq (.i c a) (.i c b) k l = k (.b (decide (b ≤ a))):=by simp [JZ,QfY]
theorem QKK (ks xs ys l) : JZ (some ks) .eql (.agg xs) (.agg ys) k l = QEY (Q1 ks xs ys) (fun b=>k (.b b)) ():=_root_.id rfl
theorem QI5 (ks xs ys l) : JZ (some ks) .neq (.agg xs) (.agg ys) k l = QEY (Q1 ks xs ys) (fun b=>k (.b (!b))) ():=_root_.id rfl
theorem QIm (x y l) : JZ (some [.t]) .eql (.b x) (.b y) k l = k (.b (decide (x = y))):=_root_.id rfl
theorem QLX (x y l) : JZ (some [.t]) .neq (.b x) (.b y) k l = k (.b (!decide (x = y))):=_root_.id rfl
theorem QMp (b) (k : Bool → Option β) (l) : QEY (some b) k l = k b:=_root_.id rfl
theorem QE5 (x y l) : JZ te .add (.s x) (.s y) k l = Vg (QMh x y) (k (.s (QMX x y))) ():=by simp [JZ,QMh,QMX]
theorem QG7 (x y l) : JZ te .eql (.s x) (.s y) k l = k (.b (decide (x = y))):=by simp [JZ]
theorem QGe (x y l) : JZ te .neq (.s x) (.s y) k l = k (.b (!decide (x = y))):=by simp [JZ]
def QCR (o : Option AV) (k : AV → Option β) (_ : Lk k) : Option β:=match o with | some c=>k c | none=>none
theorem QHI (cs i l) : Qxq (.tup cs) i k l = QCR (cs[i]?) k ():=_root_.id rfl
theorem QD1 (c l) : QCR (some c) k l = k c:=_root_.id rfl
theorem QHK : Q1 [] [] [] = some true:=_root_.id rfl
theorem QMD (ks c x y xs ys) : Q1 (.i :: ks) (.i c x :: xs) (.i c y :: ys) = (Q1 ks xs ys).map (decide (x = y) && ·):=by simp [Q1]
theorem QMw (ks x y xs ys) : Q1 (.b :: ks) (.b x :: xs) (.b y :: ys) = (Q1 ks xs ys).map (decide (x = y) && ·):=_root_.id rfl
theorem QHt (ks x y xs ys) : Q1 (.s :: ks) (.s x :: xs) (.s y :: ys) = (Q1 ks xs ys).map (decide (x = y) && ·):=_root_.id rfl
theorem QHQ (x l) : oun .not (.b x) k l = k (.b (!x)):=_root_.id rfl
theorem QK5 (l) : oun .neg (.i c a) k l = k (.i c (c.wrap (-a))):=_root_.id rfl
theorem QAS (x y : AV) (l) : QmE (.b true) x y k l = k x:=_root_.id rfl
theorem QCe (x y : AV) (l) : QmE (.b false) x y k l = k y:=_root_.id rfl
theorem QzK (x y : Bool) (c : Bool) (l) : QmE (.b c) (.b x) (.b y) k l = k (.b (cond c x y)):=by cases c <;> rfl
theorem QH8 (l) : QvZ (.i c a) (.i c b) k l = k (.i c (if b < a then b else a)):=_root_.id rfl
theorem QKb (l) : Qyu (.i c a) (.i c b) k l = k (.i c (if a < b then b else a)):=_root_.id rfl
theorem QKI (e : Option Ent) (K : KS) : kg (e :: K) 0 = e:=_root_.id rfl
theorem QM4 (e : Option Ent) (K : KS) (j : Nat) : kg (e :: K) (j + 1) = kg K j:=_root_.id rfl
theorem QGb {α : Type} (e e' : α) (K : List α) : (e :: K).set 0 e' = e' :: K:=_root_.id rfl
theorem QEp {α : Type} (e e' : α) (K : List α) (j : Nat) : (e :: K).set (j + 1) e' = e :: K.set j e':=_root_.id rfl
theorem QJZ {α : Type} (e : α) (K L : List α) : (e :: K) ++ L = e :: (K ++ L):=_root_.id rfl
theorem QEl {α : Type} (L : List α) : [] ++ L = L:=_root_.id rfl
theorem QEr {α : Type} : ([] : List α).length = 0:=_root_.id rfl
theorem QFS {α : Type} (e : α) (K : List α) : (e :: K).length = K.length + 1:=_root_.id rfl
theorem QAk {α : Type} (K : List α) : K.drop 0 = K:=_root_.id rfl
theorem QB0 {α : Type} (e : α) (K : List α) (n : Nat) : (e :: K).drop (n + 1) = K.drop n:=_root_.id rfl
theorem QAy {α : Type} (K : List α) : K.take 0 = []:=by simp
theorem QA1 {α : Type} (e : α) (K : List α) (n : Nat) : (e :: K).take (n + 1) = e :: K.take n:=_root_.id rfl
def lnR (r : List (List AV)) : Int:=r.length
theorem Qwl (K e m n r l) : QpB K (.sl e m) (.imm n r) k l = k (.i .i64 (lnR r)):=_root_.id rfl
theorem QOc (n r) (k : AV → Option β) (l) : Qkb .eql (.imm n r) k l = QkN r.isEmpty (k (.b true)) (k (.b false)):=_root_.id rfl
theorem QD5 (n r) (k : AV → Option β) (l) : Qkb .neq (.imm n r) k l = QkN r.isEmpty (k (.b false)) (k (.b true)):=_root_.id rfl
theorem QE8 (x : Option β) (b) : QkN b x x = x:=by cases b <;> simp [QkN,oeq]
theorem QEh (n : Nat) (R : List (List AV)) (b : Nat) (m) : QkN R.isEmpty (some (AV.own n [])) (Vg (decide (R.length * b ≤ 140737488355328)) (some (AV.own n R)) m) = Vg (decide (R.length * b ≤ 140737488355328)) (some (AV.own n R)) ():=by
 cases R with
 | nil=>simp [QkN,oeq,Vg]
 | cons r R=>rfl
theorem QyA (K e m l) : QpB K (.sl e m) .nil k l = k (.i .i64 0):=_root_.id rfl
def QCV (e : Option Ent) (k : AV → Option β) (_ : Lk k) : Option β:=match e with | some e=>k (.i .i64 (lnR e.rows)) | none=>none
theorem QFb (c d a l) : QqS (.int c) (.i d a) k l = k (.i c (c.wrap a)):=_root_.id rfl
def Qrl (o : Option (List UInt8)) (k : AV → Option β) (_ : Lk k) : Option β:=match o with | some s=>k (.s s) | none=>none
def Qxu (e : Option Ent) (k : AV → Option β) (_ : Lk k) : Option β:=match e with | some (.lst 1 rows)=>Qrl (Qco rows) k () | _=>none
theorem QKN (K j l) : QqU K .str (.sl j) k l = Qxu (kg K j) k ():=_root_.id rfl
theorem QDp (r l) : Qxu (some (.lst 1 r)) k l = Qrl (Qco r) k ():=_root_.id rfl
theorem QDO (s l) : Qrl (some s) k l = k (.s s):=_root_.id rfl
theorem QGJ : Qco [] = some []:=_root_.id rfl
theorem QBn (n r) : Qco ([.i .u8 n] :: r) = (Qco r).map (UInt8.ofNat n.toNat :: ·):=by
 show (match QoN [.i .u8 n],Qco r with | some x,some xs=>some (x :: xs) | _,_=>none) = _
 simp only [QoN]
 cases Qco r <;> rfl
theorem QBR (K e m j l) : QpB K (.sl e m) (.sl j) k l = QCV (kg K j) k ():=_root_.id rfl
theorem Qv1 (n r l) : QCV (some (.lst n r)) k l = k (.i .i64 (lnR r)):=_root_.id rfl
theorem Qyw (K x l) : QpB K .str (.s x) k l = k (.i .i64 (ln x)):=_root_.id rfl
theorem QGF (K n r i p o t l) : QvE K (.iptr n r i p) (some (o,t)) k l = k (.iptr n r i (p + o)):=_root_.id rfl
def QCQ (e : Option Ent) (v : AV) (k : AV → Option β) (_ : Lk k) : Option β:=match e with | some _=>k v | none=>none
theorem QJ0 (K j i p o t l) : QvE K (.ptr j i p) (some (o,t)) k l = QCQ (kg K j) (.ptr j i (p + o)) k ():=_root_.id rfl
theorem QFN (e v l) : QCQ (some e) v k l = k v:=_root_.id rfl
theorem QGO (K e m r kd i l) : Qpf K (.sl e m) (.imm m r) (.i kd i) k l = Vg (inb r i) (k (.iptr m r i.toNat 0)) ():=by simp [Qpf]
def QwK (e : Option Ent) (m : Nat) (j : Nat) (i : Int) (k : AV → Option β) (_ : Lk k) : Option β:=match e with | some e=>if m = e.n then Vg (inb e.rows i) (k (.ptr j i.toNat 0)) () else none | none=>none
theorem QKa (K e m j kd i l) : Qpf K (.sl e m) (.sl j) (.i kd i) k l = QwK (kg K j) m j i k ():=_root_.id rfl
theorem QFw (m r j i l) : QwK (some (.lst m r)) m j i k l = Vg (inb r i) (k (.ptr j i.toNat 0)) ():=by simp [QwK,Ent.n,Ent.rows]
def QDn (e : Option Ent) (n : Nat) (i : Int) (p : AV) (k : AV → Option β) (_ : Lk k) : Option β:=match e with | some _=>Vg (QuL n i) (k p) () | none=>none
theorem QEX (K e n m j r o kd i l) : Qpf K (.arr n e m) (.ptr j r o) (.i kd i) k l = QDn (kg K j) n i (.ptr j r (o + i.toNat * m)) k ():=_root_.id rfl
theorem QGL (e n i p l) : QDn (some e) n i p k l = Vg (QuL n i) (k p) ():=_root_.id rfl
theorem QG1 (e m r h c l) : Qhm (.sl e m) (.imm m r) none (some (.i c h)) k l = Vg (slB 0 h (lnR r)) (k (.imm m (cut r 0 h))) ():=by simp [Qhm,bd,lnR]
theorem QFG (e m r h c l) : Qhm (.sl e m) (.imm m r) (some (.i c h)) none k l = Vg (slB h (lnR r) (lnR r)) (k (.imm m (cut r h (lnR r)))) ():=by simp [Qhm,bd,lnR]
theorem QD6 (e m r h h' c c' l) : Qhm (.sl e m) (.imm m r) (some (.i c h)) (some (.i c' h')) k l = Vg (slB h h' (lnR r)) (k (.imm m (cut r h h'))) ():=by simp [Qhm,bd,lnR]
theorem QFW (r h c l) : Qhm .str (.s r) none (some (.i c h)) k l = Vg (slB 0 h (ln r)) (k (.s (cut r 0 h))) ():=by simp [Qhm,bd,ln]
theorem QEv (r h c l) : Qhm .str (.s r) (some (.i c h)) none k l = Vg (slB h (ln r) (ln r)) (k (.s (cut r h (ln r)))) ():=by simp [Qhm,bd,ln]
theorem QFc (r h h' c c' l) : Qhm .str (.s r) (some (.i c h)) (some (.i c' h')) k l = Vg (slB h h' (ln r)) (k (.s (cut r h h'))) ():=by simp [Qhm,bd,ln]
theorem QM5 (r i c l) : Qxl .str (.s r) (.i c i) k l = Vg (inb r i) (k (.i .u8 ((gt r i).toNat : Int))) ():=_root_.id rfl
class Strs (cs : List AV) (xs : outParam (List (List UInt8))) : Prop where
 eq : cs = xs.map AV.s
instance : Strs [] []:=⟨rfl⟩
instance (x cs xs) [h : Strs cs xs] : Strs (.s x :: cs) (x :: xs):=⟨by rw [h.eq]; rfl⟩
theorem QGQ {cs : List AV} {xs : List (List UInt8)} [h : Strs cs xs] (i : Int) (hi : QuL cs.length i = true) (l) : QfK .one (cs.drop (0 + i.toNat * 1)) k l = k (.s (gt xs i)):=by
 have hcs:=h.eq
 subst hcs
 simp [QuL] at hi
 have h2 : i.toNat < xs.length:=by omega
 rw [Nat.zero_add,Nat.mul_one,List.drop_eq_getElem_cons (by simpa using h2)]
 simp [QfK,gt,List.getD_eq_getElem?_getD,h2]
theorem QRd (K n r i o) : Jp K (.iptr n r i o) = ((QK r i).drop o).map ld:=_root_.id rfl
def Qsc (e : Option Ent) (i o : Nat) : List AV:=match e with | some (.box cs)=>if i = 0 then cs.drop o else [] | some (.lst _ rows)=>((QK rows i).drop o).map ld | none=>[]
theorem m_c (K j i o) : Jp K (.ptr j i o) = Qsc (kg K j) i o:=_root_.id rfl
theorem QFX (cs o) : Qsc (some (.box cs)) 0 o = cs.drop o:=_root_.id rfl
theorem QF0 (n r i o) : Qsc (some (.lst n r)) i o = ((QK r i).drop o).map ld:=_root_.id rfl
theorem QEE {α γ : Type} (g : α → γ) : [].map g = []:=_root_.id rfl
theorem QFC {α γ : Type} (g : α → γ) (x l) : (x :: l).map g = g x :: l.map g:=_root_.id rfl
theorem QKF (x) : ld (.b x) = .b x:=_root_.id rfl
theorem QLf (c x) : ld (.i c x) = .i c x:=_root_.id rfl
theorem QKj (x) : ld (.s x) = .s x:=_root_.id rfl
theorem QAW (n x) : ld (.imm n x) = .imm n x:=_root_.id rfl
theorem Qzw : ld .nil = .nil:=_root_.id rfl
theorem QAV (n x) : ld (.own n x) = .u:=_root_.id rfl
theorem QNC (o t cs l) : Qxd (some (o,t)) (.agg cs) k l = QfK t (cs.drop o) k ():=_root_.id rfl
theorem QAj (c cs l) : QfK .one (c :: cs) k l = k c:=_root_.id rfl
def QyE (b : Bool) (v : AV) (k : AV → Option β) (_ : Lk k) : Option β:=cond b (k v) none
theorem QBj (m cs l) : QfK (.agg m) cs k l = QyE (Nat.blt 0 m && Nat.ble m cs.length) (.agg (cs.take m)) k () :=
 QcT (by simp only [Bool.and_eq_true,Qlj,QiB]) _ _
theorem QAJ (v l) : QyE true v k l = k v:=_root_.id rfl
theorem QAa (K cs) (k : AV → KS → Option β) (l) : QlL K (some cs) k l = Xl (K ++ [some (.box cs)]) (fun K'=>k (.ptr K.length 0 0) K') ():=_root_.id rfl
def okB (b : Bool) (x : Option β) (_ : Lk x) : Option β:=cond b x none
theorem QR3 (x : Option β) (l) : okB true x l = x:=_root_.id rfl
theorem QFg (K cs) (k : AV → KS → Option β) (l) : Qrr K (.agg cs) k l = okB (cs.all (ZM K)) (Xl (K ++ [some (.box cs)]) (fun K'=>k (.ptr K.length 0 0) K') ()) ():=by
 simp only [Qrr,okB]; cases cs.all (ZM K) <;> rfl
theorem QDB (K c x) (k : AV → KS → Option β) (l) : Qrr K (.i c x) k l = Xl (K ++ [some (.box [.i c x])]) (fun K'=>k (.ptr K.length 0 0) K') ():=_root_.id rfl
theorem QFk {α : Type} (p : α → Bool) : [].all p = true:=_root_.id rfl
theorem QFM {α : Type} (p : α → Bool) (x l) : (x :: l).all p = (p x && l.all p):=_root_.id rfl
theorem QH5 (K x) : ZM K (.b x) = true:=_root_.id rfl
theorem QIy (K c x) : ZM K (.i c x) = true:=_root_.id rfl
theorem QNq (K x) : ZM K (.s x) = true:=_root_.id rfl
theorem QLp (K) : ZM K .nil = true:=_root_.id rfl
theorem QAO (K n r) : ZM K (.imm n r) = true:=_root_.id rfl
theorem QAM (K n r) : ZM K (.clo n r) = true:=_root_.id rfl
theorem QD2 (K j) : ZM K (.sl j) = (kg K j).isSome:=_root_.id rfl
theorem Qzn (K j i o) : ZM K (.ptr j i o) = (kg K j).isSome:=_root_.id rfl
theorem QOI {α : Type} (x : α) : (some x).isSome = true:=_root_.id rfl
theorem QJo (x) : AV.closed (.b x) = true:=_root_.id rfl
theorem QLW (c x) : AV.closed (.i c x) = true:=_root_.id rfl
theorem QLl (x) : AV.closed (.s x) = true:=_root_.id rfl
theorem QLI : AV.closed .nil = true:=_root_.id rfl
theorem Qz9 (n r) : AV.closed (.imm n r) = true:=_root_.id rfl
theorem QFZ (x : Bool) : (false && x) = false:=_root_.id rfl
theorem QKm (x : Bool) : (true && x) = x:=_root_.id rfl
def QgR (fl : Bool) (ns : List Nat) (K : KS) (e : Option Ent) (t : TK) (j i o : Nat) (v : AV) (k : KS → Option β) (_ : Lk k) : Option β :=
 match e with
  | some (.box cs)=>if i = 0 then Qho cs o t v (ZM K) (fun cs=>Xl (K.set j (some (.box cs))) k ()) () else none
  | some (.lst n rows)=>if (Qac v).all clq = true then (if i < rows.length then Qho (QK rows i) o t v AV.closed (fun r=>Xl (K.set j (some (.lst n (rows.set i r)))) k ()) () else none) else if fl = false then Qic ns K t j i o n rows v k () else none
  | none=>none
theorem QzZ (fl ns K t j i o v) (k : KS → Option β) (l) : Qij fl ns K t (.ptr j i o) v k l = QgR fl ns K (kg K j) t j i o v k ():=by
 show (match kg K j with | some (.lst n rows)=>_ | _=>_) = _
 cases h : kg K j with
 | none=>simp [QgR,QjR,h]
 | some e=>cases e <;> simp [QgR,QjR,h]
theorem Qx2 (fl ns K cs t j o v) (k : KS → Option β) (l) : QgR fl ns K (some (.box cs)) t j 0 o v k l = Qho cs o t v (ZM K) (fun cs=>Xl (K.set j (some (.box cs))) k ()) ():=_root_.id rfl
def Qk6 (b fl : Bool) (ns : List Nat) (K : KS) (n : Nat) (r : List (List AV)) (t : TK) (j i o : Nat) (v : AV) (k : KS → Option β) (_ : Lk k) : Option β :=
 cond b (if i < r.length then Qho (QK r i) o t v AV.closed (fun r'=>Xl (K.set j (some (.lst n (r.set i r')))) k ()) () else none) (if fl = false then Qic ns K t j i o n r v k () else none)
theorem Qwn (fl ns K n r t j i o v) (k : KS → Option β) (l) : QgR fl ns K (some (.lst n r)) t j i o v k l = Qk6 ((Qac v).all clq) fl ns K n r t j i o v k ():=by
 simp only [QgR,Qk6]
 cases (Qac v).all clq <;> rfl
theorem QLs (ds) : Qac (.agg ds) = ds:=_root_.id rfl
theorem QOj (c x) : Qac (.i c x) = [.i c x]:=_root_.id rfl
theorem QKR (x) : Qac (.b x) = [.b x]:=_root_.id rfl
theorem QM7 (x) : Qac (.s x) = [.s x]:=_root_.id rfl
theorem QIU : Qac .nil = [.nil]:=_root_.id rfl
theorem QMc (n r) : Qac (.imm n r) = [.imm n r]:=_root_.id rfl
theorem QKv (j) : Qac (.sl j) = [.sl j]:=_root_.id rfl
theorem QG0 (j) : clq (.sl j) = false:=_root_.id rfl
theorem QLq (x) : clq (.b x) = true:=_root_.id rfl
theorem QMC (c x) : clq (.i c x) = true:=_root_.id rfl
theorem QMy (x) : clq (.s x) = true:=_root_.id rfl
theorem QOz : clq .nil = false:=_root_.id rfl
theorem QH7 (n r) : clq (.imm n r) = true:=_root_.id rfl
theorem QQD (cs) : nz [] cs = cs:=by cases cs <;> rfl
theorem QRy (ns) : nz ns [] = []:=by cases ns <;> rfl
theorem QRM (n ns c cs) : nz (n :: ns) (c :: cs) = nzc n c :: nz ns cs:=_root_.id rfl
theorem QPQ (n x) : nzc n (.b x) = .b x:=_root_.id rfl
theorem QQx (n c x) : nzc n (.i c x) = .i c x:=_root_.id rfl
theorem QPr (n x) : nzc n (.s x) = .s x:=_root_.id rfl
theorem QO9 (n) : nzc n .nil = .own n []:=_root_.id rfl
theorem QRO (n m r) : nzc n (.own m r) = .own m r:=_root_.id rfl
theorem QQz (n m r) : nzc n (.imm m r) = .imm m r:=_root_.id rfl
theorem QTu (k v) : Qom (.z k) v = nzc k v:=_root_.id rfl
theorem QP3 (v) : Qom .n v = v:=_root_.id rfl
theorem QTJ (ns cs) : Qom (.a ns) (.agg cs) = .agg (nz ns cs):=_root_.id rfl
theorem QPR (v) : Qnf [] v = v:=_root_.id rfl
theorem QRY (s v) : Qnf [s] v = Qom s v:=_root_.id rfl
theorem QPp (s s' ss vs) : Qnf (s :: s' :: ss) (.tup vs) = .tup (QqY (s :: s' :: ss) vs):=_root_.id rfl
theorem QSE (s ss v vs) : QqY (s :: ss) (v :: vs) = Qom s v :: QqY ss vs:=_root_.id rfl
theorem QNZ (vs) : QqY [] vs = vs:=_root_.id rfl
theorem QOv (m ds l) : Qn3 (.agg m) (.agg ds) l = (m == l):=_root_.id rfl
theorem QIt (j l) : Qn3 .one (.sl j) l = (l == 1):=_root_.id rfl
def Qtm (ns : List Nat) (K : KS) (a : Option (KS × List AV)) (t : TK) (j o n i : Nat) (r : List (List AV)) (v : AV) (k : KS → Option β) (_ : Lk k) : Option β :=
 match a with
  | some (K1,ds)=>if (kg K1 j).isSome = true ∧ Qn3 t v ds.length = true ∧ o + ds.length ≤ (QK r i).length then Xl (K1.set j (some (.lst n (r.set i (putCells (QK r i) o (nz ns ds)))))) k () else none
  | none=>none
theorem QS2 (ns K K1 ds t j o n i r v) (k : KS → Option β) (l) : Qtm ns K (some (K1,ds)) t j o n i r v k l = okB ((kg K1 j).isSome && (Qn3 t v ds.length && Nat.ble (o + ds.length) (QK r i).length)) (Xl (K1.set j (some (.lst n (r.set i (putCells (QK r i) o (nz ns ds)))))) k ()) () :=
 QcT (by simp only [Bool.and_eq_true,QiB]) _ _
def QmX (r : List (List AV)) (i : Nat) : Bool:=Nat.blt i r.length
theorem w_n (D : Orc) (f : Fr) (K : KS) (j i o q r v m rs) (k : AV → KS → Option β) (l) : onr D f K j i o q r (v,[some (.lst m rs)]) k l = Vg (v.flat && QmX r i) (Xl (K.set j (some (.lst q (r.set i (putCells (QK r i) o [.own m rs])))) ++ [none]) (fun K'=>k v K') ()) ():=_root_.id rfl
theorem QEJ (x r) : QmX (x :: r) 0 = true:=by simp [QmX,Nat.blt_eq]
theorem QE7 (x r i) : QmX (x :: r) (i + 1) = QmX r i:=by
 unfold QmX; rw [Bool.eq_iff_iff,Nat.blt_eq,Nat.blt_eq]; simp
theorem QEb (fl ns K n r t j i o v) (k : KS → Option β) (l) : Qk6 true fl ns K n r t j i o v k l = okB (QmX r i) (Qho (QK r i) o t v AV.closed (fun r'=>Xl (K.set j (some (.lst n (r.set i r')))) k ()) ()) () :=
 QcT Qlj _ _
theorem QGq (ns K n r t j i o v) (k : KS → Option β) (l) : Qk6 false false ns K n r t j i o v k l = okB (QmX r i) (Qtm ns K (VF K (Qac v)) t j o n i r v k ()) () :=
 QcT Qlj _ _
theorem QFL (cs o m ds ok) (k : List AV → Option β) (l) : Qho cs o (.agg m) (.agg ds) ok k l = okB ((m == ds.length) && (Nat.ble (o + m) cs.length && ds.all ok)) (k (putCells cs o ds)) () :=
 QcT (by simp only [Bool.and_eq_true,beq_iff_eq,QiB]) _ _
theorem Qve (cs : List AV) (o : Nat) (v : AV) (ok : AV → Bool) (k : List AV → Option β) : (if o < cs.length ∧ ok v = true then k (cs.set o v) else none) = okB (Nat.blt o cs.length && ok v) (k (cs.set o v)) () :=
 QcT (by simp only [Bool.and_eq_true,Qlj]) _ _
theorem QGK (cs o x ok) (k : List AV → Option β) (l) : Qho cs o .one (.b x) ok k l = okB (Nat.blt o cs.length && ok (.b x)) (k (cs.set o (.b x))) ():=Qve ..
theorem QF1 (cs o c x ok) (k : List AV → Option β) (l) : Qho cs o .one (.i c x) ok k l = okB (Nat.blt o cs.length && ok (.i c x)) (k (cs.set o (.i c x))) ():=Qve ..
theorem QEI (cs o x ok) (k : List AV → Option β) (l) : Qho cs o .one (.s x) ok k l = okB (Nat.blt o cs.length && ok (.s x)) (k (cs.set o (.s x))) ():=Qve ..
theorem QGk (cs o ok) (k : List AV → Option β) (l) : Qho cs o .one .nil ok k l = okB (Nat.blt o cs.length && ok .nil) (k (cs.set o .nil)) ():=Qve ..
theorem QAw (cs o j ok) (k : List AV → Option β) (l) : Qho cs o .one (.sl j) ok k l = okB (Nat.blt o cs.length && ok (.sl j)) (k (cs.set o (.sl j))) ():=Qve ..
theorem Qwr (cs o n r ok) (k : List AV → Option β) (l) : Qho cs o .one (.imm n r) ok k l = okB (Nat.blt o cs.length && ok (.imm n r)) (k (cs.set o (.imm n r))) ():=Qve ..
theorem QQJ (cs o ds) : putCells cs o ds = cs.take o ++ ds ++ cs.drop (o + ds.length):=_root_.id rfl
theorem QDG (P z nr S rs f K) : Qku P z nr S rs .normal f K = QlF P z S rs nr f K ():=_root_.id rfl
theorem QDK (P z nr S rs f K) : Qku P z nr S rs .ret f K = QlF P z S rs nr f K ():=_root_.id rfl
theorem QHM (P z S rs f K l) : QlF P z S rs none f K l = Jz (Qcw f K P rs) (fun vs=>Vg (rok (tkl z K).length (Qfy vs) && (Qh2 (tkl z K) && Nat.ble z.length (tkl z K).length)) (some (Qfy vs,tkl z K)) ()) ():=_root_.id rfl
theorem QL9 (P z S rs r f K l) : QlF P z S rs (some r) f K l = Jz (Qcw f K P rs) (fun vs=>QeD z [S] r (up f S (Qfy vs)) K (fun f K=>QjM (f S) (fun v=>Vg (rok K.length v && (Qh2 K && Nat.ble z.length K.length)) (some (v,K)) ()) ()) ()) ():=_root_.id rfl
theorem QNu {α : Type} : (none : Option α).isSome = false:=_root_.id rfl
theorem QJ5 {α : Type} (x : α) : (some x).isSome = true:=_root_.id rfl
theorem QHe (K) : tkl [] K = []:=by cases K <;> rfl
theorem QHT (x z e K) : tkl (x :: z) (e :: K) = e :: tkl z K:=_root_.id rfl
theorem QAq (P sh rs f K) : QhY P sh rs .normal f K = Jz (Qcw f K P rs) (fun vs=>(Qb3 K (Qfy vs)).map fun p=>Qnf sh p.2) ():=_root_.id rfl
theorem QA4 (P sh rs f K) : QhY P sh rs .ret f K = Jz (Qcw f K P rs) (fun vs=>(Qb3 K (Qfy vs)).map fun p=>Qnf sh p.2) ():=_root_.id rfl
theorem QNp (f K P) : Qcw f K P [] = some []:=_root_.id rfl
theorem QN4 (f K P t rs) : Qcw f K P (.tmp t :: rs) = (Qcw f K P rs).map (f t :: ·):=_root_.id rfl
theorem QEN (f K P x t rs) : Qcw f K P (.cell x t :: rs) = Jz (QfK (tk P t) (Jp K (f x)) some ()) (fun v=>(Qcw f K P rs).map (v :: ·)) ():=_root_.id rfl
theorem Qmv {α γ : Type} (g : α → γ) (x : α) : (some x).map g = some (g x):=_root_.id rfl
theorem Qrt {α γ : Type} (g : α → γ) : (none : Option α).map g = none:=_root_.id rfl
theorem QHF (v) : Qfy [v] = v:=_root_.id rfl
theorem QOq (v w vs) : Qfy (v :: w :: vs) = .tup (v :: w :: vs):=_root_.id rfl
theorem QFO : Qfy [] = .tup []:=_root_.id rfl
theorem x_b (K x) : Qb3 K (.b x) = some (K,.b x):=_root_.id rfl
theorem x_i (K c x) : Qb3 K (.i c x) = some (K,.i c x):=_root_.id rfl
theorem x_s (K x) : Qb3 K (.s x) = some (K,.s x):=_root_.id rfl
theorem QHG (K) : Qb3 K .nil = some (K,.nil):=_root_.id rfl
theorem QJ3 (K n r) : Qb3 K (.imm n r) = none:=by simp [Qb3]
theorem QOb (K cs) : Qb3 K (.agg cs) = (QeI K cs).map fun p=>(p.1,.agg p.2):=by simp [Qb3]
theorem QIj (K cs) : Qb3 K (.tup cs) = (QeI K cs).map fun p=>(p.1,.tup p.2):=by simp [Qb3]
def QC9 (K : KS) (e : Option Ent) (j : Nat) : Option (KS × AV):=match e with | some (.lst n rows)=>if Ql rows = true then some (K.set j none,.own n rows) else none | _=>none
theorem QOZ (K j) : Qb3 K (.sl j) = QC9 K (kg K j) j:=by rw [Qb3]; rfl
theorem QTi : Ql [] = true:=_root_.id rfl
theorem QRW (r rs) : Ql (r :: rs) = cond (V7 r) (Ql rs) false:=by rw [show Ql (r :: rs) = (V7 r && Ql rs) by simp [Ql]]; cases V7 r <;> rfl
theorem QQ2 : V7 [] = true:=_root_.id rfl
theorem QQw (c cs) : V7 (c :: cs) = cond (AV.clean c) (V7 cs) false:=by rw [show V7 (c :: cs) = (AV.clean c && V7 cs) by simp [V7]]; cases AV.clean c <;> rfl
theorem k_i (k n) : AV.clean (.i k n) = true:=_root_.id rfl
theorem k_b (x) : AV.clean (.b x) = true:=_root_.id rfl
theorem k_s (x) : AV.clean (.s x) = true:=_root_.id rfl
theorem QJG (K n r j) : QC9 K (some (.lst n r)) j = cond (Ql r) (some (K.set j none,.own n r)) none:=QcT Iff.rfl _ _
theorem QEa (K) : QeI K [] = some (K,[]):=by simp [QeI]
def Qsk (e : Option (KS × AV)) (cs : List AV) : Option (KS × List AV):=match e with | some (K1,c')=>(QeI K1 cs).map fun p=>(p.1,c' :: p.2) | none=>none
theorem QAo (K c cs) : QeI K (c :: cs) = Qsk (Qb3 K c) cs:=by rw [QeI]; rfl
theorem QPN (K c cs) : Qsk (some (K,c)) cs = (QeI K cs).map fun p=>(p.1,c :: p.2):=_root_.id rfl
theorem QOS (cs) : Qsk none cs = none:=_root_.id rfl
theorem QEA (z sl rg f K) (k : Fr → KS → Option β) (l) : QeD z sl rg f K k l = VV rg f K [] (fun f K π=>Vg (ndB π) (onz z π (Xl (QzX K π) (fun K'=>k (QBD f π sl) K') ()) ()) ()) ():=_root_.id rfl
theorem QOx (π) (q : Option β) (l) : onz [] π q l = q:=_root_.id rfl
theorem QLK (x z π) (q : Option β) (l) : onz (x :: z) π q l = Vg (pfx (x :: z) π) q ():=_root_.id rfl
theorem QTy (π) : pfx [] π = true:=_root_.id rfl
theorem QPI (x z y π) : pfx (x :: z) (y :: π) = ((x == y) && pfx z π):=by rw [← Qkd]; rfl
theorem QRV (x : Nat) : ([] : List Nat).contains x = false:=_root_.id rfl
theorem QQR (x y : Nat) (l : List Nat) : (y :: l).contains x = ((x == y) || l.contains x):=List.contains_cons
theorem QSN (b : Bool) : (false || b) = b:=by cases b <;> rfl
theorem QPH (b : Bool) : (true || b) = true:=by cases b <;> rfl
theorem QCK (f K π) (k : Fr → KS → List Nat → Option β) (l) : VV [] f K π k l = k f K π:=_root_.id rfl
theorem n_r (i r f K π) (k : Fr → KS → List Nat → Option β) (l) : VV (.r i :: r) f K π k l = VV r f K (π ++ [i]) k ():=_root_.id rfl
def Qlo (v : AV) (t n : Nat) (r : List Pt) (f : Fr) (K : KS) (π : List Nat) (k : Fr → KS → List Nat → Option β) (_ : Lk (f,k)) : Option β:=match v with
  | .sl j=>VV r f K (π ++ [j]) k ()
  | .ptr j _ _=>VV r f K (π ++ [j]) k ()
  | .nil=>VV r (up f t (.sl K.length)) (K ++ [some (.lst n [])]) (π ++ [K.length]) k ()
  | _=>none
theorem n_s (t n r f K π) (k : Fr → KS → List Nat → Option β) (l) : VV (.s t n :: r) f K π k l = Qlo (f t) t n r f K π k ():=by simp only [VV,Qlo]; rfl
theorem QIZ (j t n r f K π) (k : Fr → KS → List Nat → Option β) (l) : Qlo (.sl j) t n r f K π k l = VV r f K (π ++ [j]) k ():=_root_.id rfl
theorem QE6 (j i o t n r f K π) (k : Fr → KS → List Nat → Option β) (l) : Qlo (.ptr j i o) t n r f K π k l = VV r f K (π ++ [j]) k ():=_root_.id rfl
theorem QDJ (t n r f K π) (k : Fr → KS → List Nat → Option β) (l) : Qlo .nil t n r f K π k l = VV r (up f t (.sl K.length)) (K ++ [some (.lst n [])]) (π ++ [K.length]) k ():=_root_.id rfl
def QlE (c : Option AV) (r : List Pt) (f : Fr) (K : KS) (π : List Nat) (k : Fr → KS → List Nat → Option β) (_ : Lk (f,k)) : Option β:=match c with
  | some (.sl i)=>VV r f K (π ++ [i]) k ()
  | some (.ptr i _ _)=>VV r f K (π ++ [i]) k ()
  | _=>none
def QoD (e : Option Ent) (o : Nat) (r : List Pt) (f : Fr) (K : KS) (π : List Nat) (k : Fr → KS → List Nat → Option β) (_ : Lk (f,k)) : Option β:=match e with
  | some (.box cs)=>QlE (cs[o]?) r f K π k ()
  | _=>none
def Qrm (q : Option Nat) (o : Nat) (r : List Pt) (f : Fr) (K : KS) (π : List Nat) (k : Fr → KS → List Nat → Option β) (_ : Lk (f,k)) : Option β:=match q with
  | some j=>QoD (kg K j) o r f K π k ()
  | none=>none
theorem n_c (q o n r f K π) (k : Fr → KS → List Nat → Option β) (l) : VV (.c q o n :: r) f K π k l = Qrm (π[q]?) o r f K π k ():=by
 simp only [VV,Qrm,QoD,QlE]
 cases π[q]? with
 | none=>rfl
 | some j =>
  simp only
  cases kg K j with
  | none=>rfl
  | some e =>
   cases e with
   | box cs =>
    simp only
    cases cs[o]? with
    | none=>rfl
    | some c=>cases c <;> rfl
   | lst _ _=>rfl
theorem QIJ (j o r f K π) (k : Fr → KS → List Nat → Option β) (l) : Qrm (some j) o r f K π k l = QoD (kg K j) o r f K π k ():=_root_.id rfl
theorem QHg (cs o r f K π) (k : Fr → KS → List Nat → Option β) (l) : QoD (some (.box cs)) o r f K π k l = QlE (cs[o]?) r f K π k ():=_root_.id rfl
theorem QJH (i r f K π) (k : Fr → KS → List Nat → Option β) (l) : QlE (some (.sl i)) r f K π k l = VV r f K (π ++ [i]) k ():=_root_.id rfl
theorem QNG (i a b r f K π) (k : Fr → KS → List Nat → Option β) (l) : QlE (some (.ptr i a b)) r f K π k l = VV r f K (π ++ [i]) k ():=_root_.id rfl
def QlA (c : Option AV) (cs : List AV) (t o n : Nat) (r : List Pt) (f : Fr) (K : KS) (π : List Nat) (k : Fr → KS → List Nat → Option β) (_ : Lk (f,k)) : Option β:=match c with
  | some (.sl j)=>VV r f K (π ++ [j]) k ()
  | some .nil=>VV r (up f t (.agg (cs.set o (.sl K.length)))) (K ++ [some (.lst n [])]) (π ++ [K.length]) k ()
  | _=>none
def QrZ (v : AV) (t o n : Nat) (r : List Pt) (f : Fr) (K : KS) (π : List Nat) (k : Fr → KS → List Nat → Option β) (_ : Lk (f,k)) : Option β:=match v with
  | .agg cs=>QlA (cs[o]?) cs t o n r f K π k ()
  | _=>none
theorem n_g (t o n r f K π) (k : Fr → KS → List Nat → Option β) (l) : VV (.g t o n :: r) f K π k l = QrZ (f t) t o n r f K π k ():=by
 simp only [VV,QrZ,QlA]
 cases f t with
 | agg cs =>
  simp only
  cases cs[o]? with
  | none=>rfl
  | some c=>cases c <;> rfl
 | _=>rfl
theorem QIf (cs t o n r f K π) (k : Fr → KS → List Nat → Option β) (l) : QrZ (.agg cs) t o n r f K π k l = QlA (cs[o]?) cs t o n r f K π k ():=_root_.id rfl
theorem QL6 (j cs t o n r f K π) (k : Fr → KS → List Nat → Option β) (l) : QlA (some (.sl j)) cs t o n r f K π k l = VV r f K (π ++ [j]) k ():=_root_.id rfl
theorem QML (cs t o n r f K π) (k : Fr → KS → List Nat → Option β) (l) : QlA (some .nil) cs t o n r f K π k l = VV r (up f t (.agg (cs.set o (.sl K.length)))) (K ++ [some (.lst n [])]) (π ++ [K.length]) k ():=_root_.id rfl
theorem QMk : ndB [] = true:=_root_.id rfl
theorem QMU (x l) : ndB (x :: l) = (!l.contains x && ndB l):=_root_.id rfl
def krn (K : KS) (π : List Nat) (l : List Nat) : KS:=l.map fun j=>(kg K j).map (Qh3 π)
theorem QTt (K π) : QzX K π = krn K π π:=_root_.id rfl
theorem QEK (K π) : krn K π [] = []:=_root_.id rfl
theorem QFE (K π j l) : krn K π (j :: l) = (kg K j).map (Qh3 π) :: krn K π l:=_root_.id rfl
theorem QJD (π cs) : Qh3 π (.box cs) = .box (Qeo π cs):=_root_.id rfl
theorem QJ6 (π n r) : Qh3 π (.lst n r) = .lst n r:=_root_.id rfl
theorem QKX (π) : Qeo π [] = []:=by simp [Qeo]
theorem QOr (π c cs) : Qeo π (c :: cs) = ren π c :: Qeo π cs:=by simp [Qeo]
def slO : Option Nat → AV | some i=>.sl i | none=>.u
def QDs (i o : Nat) : Option Nat → AV | some j=>.ptr j i o | none=>.u
theorem QJ7 (i) : slO (some i) = .sl i:=_root_.id rfl
theorem QLV : slO none = .u:=_root_.id rfl
theorem QFv (i o j) : QDs i o (some j) = .ptr j i o:=_root_.id rfl
theorem QES (i o) : QDs i o none = .u:=_root_.id rfl
theorem QF4 (π j) : ren π (.sl j) = slO (Qk1 π j):=by simp only [ren]; rfl
theorem Qzy (π j i o) : ren π (.ptr j i o) = QDs i o (Qk1 π j):=by simp only [ren]; rfl
theorem QB8 (π cs) : ren π (.agg cs) = .agg (Qeo π cs):=by simp [ren]
theorem QBo (π cs) : ren π (.tup cs) = .tup (Qeo π cs):=by simp [ren]
theorem QAm (π g cs) : ren π (.clo g cs) = .clo g (Qeo π cs):=by simp [ren]
theorem QF9 (π x) : ren π (.b x) = .b x:=by simp [ren]
theorem QJJ (π c x) : ren π (.i c x) = .i c x:=by simp [ren]
theorem QIO (π x) : ren π (.s x) = .s x:=by simp [ren]
theorem QJf (π) : ren π .nil = .nil:=by simp [ren]
theorem QHl (π) : ren π .u = .u:=by simp [ren]
theorem QAP (π n r) : ren π (.imm n r) = .imm n r:=by simp [ren]
theorem QyL (π n r i o) : ren π (.iptr n r i o) = .iptr n r i o:=by simp [ren]
theorem QG3 (j) : Qk1 [] j = none:=_root_.id rfl
theorem QEL (x l j) : Qk1 (x :: l) j = sel (x == j) (some 0) ((Qk1 l j).map (· + 1)) ():=by
 rw [Qk1]; exact QcT (by simp) _ _
theorem QEc (f π l) : QBD f π l = frm (frl f π l):=_root_.id rfl
theorem QEM (f π) : frl f π [] = []:=_root_.id rfl
theorem QFx (f π t l) : frl f π (t :: l) = (t,ren π (f t)) :: frl f π l:=_root_.id rfl
theorem QRc (z la rt f K) : QgG z la rt .normal f K = QeD z la.sl la.rg f K (fun f K=>some (.inl (f,K))) ():=_root_.id rfl
theorem QQV (z la rt f K) : QgG z la rt .ret f K = QeD z rt.sl rt.rg f K (fun f K=>some (.inr (.ret,f,K))) ():=_root_.id rfl
theorem QRs (z la rt i f K) : QgG z la rt (.exit i) f K = QeD z la.xs la.xr f K (fun f K=>some (.inr (.exit i,f,K))) ():=_root_.id rfl
theorem QMg (t x y) : QZ t (.seq x y) = (QZ t x).or (QZ t y):=_root_.id rfl
theorem QEZ (t c x y) : QZ t (.cond c x y) = (QZ t x).or (QZ t y):=_root_.id rfl
theorem QzN (t i x) : QZ t (.block i x) = QZ t x:=_root_.id rfl
theorem QF3 (t x) : QZ t (.loop x) = sel (tag x == t) (some x) (QZ t x) ():=_root_.id rfl
theorem QyP (t i o d) : QZ t (.region i o d) = none:=_root_.id rfl
theorem QDz (t) : QZ t .skip = none:=_root_.id rfl
theorem QJA (t) : QZ t .ret = none:=_root_.id rfl
theorem QEs (t i) : QZ t (.exit i) = none:=_root_.id rfl
theorem QC8 (x : Option Code) : (none : Option Code).or x = x:=by cases x <;> rfl
theorem QCw (x : Code) (y : Option Code) : (some x).or y = some x:=_root_.id rfl
theorem l_0 (K) : Qc6 K [] = []:=by simp [Qc6]
theorem l_s (K c cs) : Qc6 K (c :: cs) = QaL K c :: Qc6 K cs:=by simp [Qc6]
def QvO (e : Option Ent) : AV:=match e with | some (.lst n rows)=>.imm n (Qn rows) | _=>.u
theorem QQO (K j) : QaL K (.sl j) = QvO (kg K j):=by simp only [QaL]; rfl
theorem QLP (n r) : QvO (some (.lst n r)) = .imm n (Qn r):=_root_.id rfl
theorem QKi (K j) : QnR K j = QvO (kg K j):=_root_.id rfl
def QrL (K : KS) (e : Option Ent) (i o : Nat) : AV:=match e with
 | some (.lst n rows)=>.iptr n (Qn rows) i o
 | some (.box cs)=>.iptr cs.length [cs.map (QfI K)] i o
 | none=>.u
theorem QKL (K j i o) : QaL K (.ptr j i o) = QrL K (kg K j) i o:=by simp only [QaL]; rfl
theorem QGB (K cs i o) : QrL K (some (.box cs)) i o = .iptr cs.length [cs.map (QfI K)] i o:=_root_.id rfl
theorem QFY (K n r i o) : QrL K (some (.lst n r)) i o = .iptr n (Qn r) i o:=_root_.id rfl
theorem QFR (K n r i o) : QaL K (.iptr n r i o) = .iptr n r i o:=by simp [QaL]
theorem QJi (K j) : QfI K (.sl j) = QnR K j:=_root_.id rfl
theorem QPO (K x) : QfI K (.b x) = .b x:=_root_.id rfl
theorem QQ4 (K c x) : QfI K (.i c x) = .i c x:=_root_.id rfl
theorem QQ8 (K x) : QfI K (.s x) = .s x:=_root_.id rfl
theorem QS7 (K) : QfI K .nil = .nil:=_root_.id rfl
theorem QRP (K n r) : QfI K (.imm n r) = .imm n r:=_root_.id rfl
theorem QGw (r : List AV) (rs) : QK (r :: rs) 0 = r:=_root_.id rfl
theorem QMn (K cs) : QaL K (.agg cs) = .agg (Qc6 K cs):=by simp [QaL]
theorem QNl (K cs) : QaL K (.tup cs) = .tup (Qc6 K cs):=by simp [QaL]
theorem QMu (K g cs) : QaL K (.clo g cs) = .clo g (Qc6 K cs):=by simp [QaL]
theorem l_b (K x) : QaL K (.b x) = .b x:=by simp [QaL]
theorem l_i (K c x) : QaL K (.i c x) = .i c x:=by simp [QaL]
theorem QP7 (K x) : QaL K (.s x) = .s x:=by simp [QaL]
theorem l_n (K) : QaL K .nil = .nil:=by simp [QaL]
theorem QI9 (K n r) : QaL K (.imm n r) = .imm n r:=by simp [QaL]
theorem QAZ : Qn [] = []:=by simp [Qn]
theorem QB4 (r rs) : Qn (r :: rs) = Vt r :: Qn rs:=by simp [Qn]
theorem QFQ : Vt [] = []:=by simp [Vt]
theorem QF5 (c cs) : Vt (c :: cs) = VR c :: Vt cs:=by simp [Vt]
theorem QTH (x) : VR (.b x) = .b x:=by simp [VR]
theorem QPi (c x) : VR (.i c x) = .i c x:=by simp [VR]
theorem QRm (x) : VR (.s x) = .s x:=by simp [VR]
theorem QSi : VR .nil = .nil:=by simp [VR]
theorem QGA (n r) : VR (.imm n r) = .imm n r:=by simp [VR]
theorem QEV (n r) : VR (.own n r) = .imm n (Qn r):=by simp [VR]
theorem QHk (m n r) : VY m (.own n r) = (.sl m,[some (.lst n r)]):=by simp [VY]
theorem QLg (m cs) : VY m (.agg cs) = (.agg (QbW m cs).1,(QbW m cs).2):=by simp [VY]
theorem QJd (m cs) : VY m (.tup cs) = (.tup (QbW m cs).1,(QbW m cs).2):=by simp [VY]
theorem i_b (m x) : VY m (.b x) = (.b x,[]):=by simp [VY]
theorem i_i (m c x) : VY m (.i c x) = (.i c x,[]):=by simp [VY]
theorem QRN (m x) : VY m (.s x) = (.s x,[]):=by simp [VY]
theorem i_n (m) : VY m .nil = (.nil,[]):=by simp [VY]
theorem QSS (m) : QbW m [] = ([],[]):=by simp [QbW]
theorem QTv (m c cs) : QbW m (c :: cs) = ((VY m c).1 :: (QbW (m + (VY m c).2.length) cs).1,(VY m c).2 ++ (QbW (m + (VY m c).2.length) cs).2):=by simp [QbW]
theorem QCF {α γ : Type} (x : α) (y : γ) : (x,y).1 = x:=_root_.id rfl
theorem QNN {α γ : Type} (x : α) (y : γ) : (x,y).2 = y:=_root_.id rfl
def Qor (e : Option (List AV)) (k : AV → Option β) (_ : Lk k) : Option β:=match e with | some cs=>k (.agg cs) | none=>none
theorem QNS (K z p ps l) : QjU K (.st z p) ps k l = Qor (QaO K (p[·]?) z ps) k ():=_root_.id rfl
theorem QDS (K z m ps l) : QjU K (.arr z m) ps k l = Qor (QaO K (fun i=>some (i * m,m)) z ps) k ():=_root_.id rfl
theorem QKo (cs l) : Qor (some cs) k l = k (.agg cs):=_root_.id rfl
def QCs (fl : Bool) (ns : List Nat) (e : Option (List AV)) (K : KS) (len m : Nat) (k : AV → KS → Option β) (_ : Lk k) : Option β:=match e with
  | some cs=>cond (yB fl cs) (match VF K cs with
   | some (K1,cs)=>Xl (K1 ++ [some (.lst m ((Qbu m len cs).map (nz ns)))]) (fun K'=>k (.sl K.length) K') ()
   | none=>none) none
  | none=>none
theorem QPJ (fl ns K e m z) (k : AV → KS → Option β) (l) : QgX fl ns K (some (e,m,z)) 0 [] k l = Xl (K ++ [some (.lst m [])]) (fun K'=>k (.sl K.length) K') ():=_root_.id rfl
theorem s_b (fl ns K e m z len ps) (k : AV → KS → Option β) (l) : QgX fl ns K (some (e,m,z)) (len + 1) ps k l = okB (Nat.ble ((len + 1) * m) 16777216) (QCs fl ns (QaO K (fun i=>some (i * m,m)) (Qdw (len + 1) z) ps) K (len + 1) m k ()) () :=
 QcT QiB _ _
def QCo (ns : List Nat) (e : Option (KS × List AV)) (n len m : Nat) (k : AV → KS → Option β) (_ : Lk k) : Option β:=match e with
   | some (K1,cs)=>Xl (K1 ++ [some (.lst m ((Qbu m len cs).map (nz ns)))]) (fun K'=>k (.sl n) K') ()
   | none=>none
theorem QPG (fl ns K cs len m) (k : AV → KS → Option β) (l) : QCs fl ns (some cs) K len m k l = cond (yB fl cs) (QCo ns (VF K cs) K.length len m k ()) none:=_root_.id rfl
theorem QSh : zB [] = true:=_root_.id rfl
theorem QS4 (l : List Nat) : zB (0 :: l) = zB l:=_root_.id rfl
theorem QRF (n : Nat) (l : List Nat) : zB ((n + 1) :: l) = false:=_root_.id rfl
theorem QTP (cs) : yB false cs = true:=_root_.id rfl
theorem QO5 (cs) : yB true cs = noS cs:=_root_.id rfl
theorem QTB : noS [] = true:=_root_.id rfl
theorem QSv (c n l) : noS (.i c n :: l) = noS l:=_root_.id rfl
theorem QP9 (x l) : noS (.b x :: l) = noS l:=_root_.id rfl
theorem QO7 (x l) : noS (.s x :: l) = noS l:=_root_.id rfl
theorem QOF (l) : noS (.nil :: l) = noS l:=_root_.id rfl
theorem QQn (n r l) : noS (.imm n r :: l) = noS l:=_root_.id rfl
theorem QPA (j l) : noS (.sl j :: l) = false:=_root_.id rfl
theorem QTr (ns K1 cs n len m) (k : AV → KS → Option β) (l) : QCo ns (some (K1,cs)) n len m k l = Xl (K1 ++ [some (.lst m ((Qbu m len cs).map (nz ns)))]) (fun K'=>k (.sl n) K') ():=_root_.id rfl
theorem QQP (K p cs) : QaO K p cs [] = some cs:=_root_.id rfl
def QxY (K : KS) (place : Nat → Option (Nat × Nat)) (cs : List AV) (p : Option (Nat × Nat)) (d : Option (List AV)) (rest : List (Nat × AV)) : Option (List AV):=match p,d with
  | some (o,m),some ds=>if ds.length = m ∧ o + m ≤ cs.length then QaO K place (putCells cs o ds) rest else none
  | _,_=>none
theorem QTa (K p cs i v r) : QaO K p cs ((i,v) :: r) = QxY K p cs (p i) (QcO K v) r:=by simp only [QaO]; rfl
theorem QPF (K p cs o m ds r) : QxY K p cs (some (o,m)) (some ds) r = cond ((ds.length == m) && Nat.ble (o + m) cs.length) (QaO K p (putCells cs o ds) r) none :=
 QcT (by simp only [Bool.and_eq_true,beq_iff_eq,QiB]) _ _
theorem QSm (K cs) : QcO K (.agg cs) = some cs:=_root_.id rfl
theorem QRu (K x) : QcO K (.b x) = some [.b x]:=_root_.id rfl
theorem QQG (K c x) : QcO K (.i c x) = some [.i c x]:=_root_.id rfl
theorem QSA (K x) : QcO K (.s x) = some [.s x]:=_root_.id rfl
theorem QTn (K) : QcO K .nil = some [.nil]:=_root_.id rfl
theorem QEk (K n r) : QcO K (.imm n r) = some [.imm n r]:=_root_.id rfl
theorem QLR (K j) : QcO K (.sl j) = cond (kg K j).isSome (some [.sl j]) none:=by
 show (if ZM K (.sl j) = true then some [AV.sl j] else none) = _; exact QcT Iff.rfl _ _
theorem QPK (z) : Qdw 0 z = []:=by simp [Qdw]
theorem QSy (n z) : Qdw (n + 1) z = z ++ Qdw n z:=by simp [Qdw,List.replicate_succ]
theorem QHc (K) : VF K [] = some (K,[]):=_root_.id rfl
theorem QII (K x cs) : VF K (.b x :: cs) = (VF K cs).map fun p=>(p.1,.b x :: p.2):=by simp [VF,AV.closed]
theorem QIo (K c x cs) : VF K (.i c x :: cs) = (VF K cs).map fun p=>(p.1,.i c x :: p.2):=by simp [VF,AV.closed]
theorem QLG (K x cs) : VF K (.s x :: cs) = (VF K cs).map fun p=>(p.1,.s x :: p.2):=by simp [VF,AV.closed]
theorem QJL (K cs) : VF K (.nil :: cs) = (VF K cs).map fun p=>(p.1,.nil :: p.2):=by simp [VF,AV.closed]
theorem QAz (K n r cs) : VF K (.imm n r :: cs) = (VF K cs).map fun p=>(p.1,.imm n r :: p.2):=by simp [VF,AV.closed]
def QL3 (e : Option Ent) (K : KS) (j : Nat) (cs : List AV) : Option (KS × List AV):=match e with
  | some (.lst n rows)=>(VF (K.set j none) cs).map fun p=>(p.1,.own n rows :: p.2)
  | _=>none
theorem QGG (K j cs) : VF K (.sl j :: cs) = QL3 (kg K j) K j cs:=by simp only [VF]; rfl
theorem QNj (K n r j cs) : QL3 (some (.lst n r)) K j cs = (VF (K.set j none) cs).map fun p=>(p.1,.own n r :: p.2):=_root_.id rfl
theorem QIR (m cs) : Qbu m 0 cs = []:=_root_.id rfl
theorem QMA (m l cs) : Qbu m (l + 1) cs = cs.take m :: Qbu m l (cs.drop m):=_root_.id rfl
def Qum (e : Option (List (List AV) × KS)) (n m b : Nat) (s : AV) (k : AV → KS → Option β) (_ : Lk k) : Option β:=match e with
  | some (rows',K1)=>match s with
   | .sl j=>match kg K1 j with
    | some (.lst n' rows)=>if n' = m then Vg (decide ((rows.length + rows'.length) * (b + 1) ≤ 140737488355328)) (Xl (K1.set j none ++ [some (.lst m (rows ++ rows'))]) (fun K'=>k (.sl n) K') ()) () else none
    | _=>none
   | .nil=>Vg (decide (rows'.length * (b + 1) ≤ 140737488355328)) (Xl (K1 ++ [some (.lst m rows')]) (fun K'=>k (.sl n) K') ()) ()
   | _=>none
  | none=>none
def Qyv (e : Option Ent) (r : List (List AV)) (K1 : KS) (n m b j : Nat) (k : AV → KS → Option β) (_ : Lk k) : Option β:=match e with
    | some (.lst n' rows)=>if n' = m then Vg (decide ((rows.length + r.length) * (b + 1) ≤ 140737488355328)) (Xl (K1.set j none ++ [some (.lst m (rows ++ r))]) (fun K'=>k (.sl n) K') ()) () else none
    | _=>none
def QET (K : KS) (t : Option (TypeId × Nat × List AV)) (bytes : Option Nat) (s x : AV) (k : AV → KS → Option β) (_ : Lk k) : Option β:=Qk9 K t bytes s x k ()
def QA9 (P : Program) (t : Option (TypeId × Nat × List AV)) : Option Nat:=t.bind fun q=>tb P q.1
theorem QHR {P : Program} {D : Orc} {f : Fr} {K : KS} (s x t tx ts) (k : AV → KS → Option β) (l) : oop P D (.call ⟨.builtin .append,List.toArray [s,x],List.toArray (t :: tx :: ts)⟩) f K k l = okB (Qba P tx && !(QbZ s && Qfb (ev f x))) (QET K (tse P t) (QA9 P (tse P t)) (ev f s) (ev f x) k ()) ():=by
 simp only [oop,okB,QET,QA9]; cases Qba P tx <;> cases (QbZ s && Qfb (ev f x)) <;> rfl
theorem QRE (d) : QbZ (.tmp d) = false:=_root_.id rfl
theorem QO1 : QbZ (.const (.slice none 0 0)) = true:=_root_.id rfl
theorem QOP (n r) : Qfb (.imm n r) = false:=_root_.id rfl
theorem QSP : Qfb .nil = false:=_root_.id rfl
theorem QRU (j) : Qfb (.sl j) = true:=_root_.id rfl
def QxG (ns : List Nat) (K : KS) (t : Option (TypeId × Nat × List AV)) (bytes : Option Nat) (l c : AV) (k : AV → KS → Option β) (_ : Lk k) : Option β:=Qs6 ns K t bytes l c k ()
theorem QR6 {P : Program} {D : Orc} {f : Fr} {K : KS} (t x c) (k : AV → KS → Option β) (l) : oop P D (.makeSlice t x c) f K k l = QxG (QdS P t) K (tse P t) (QA9 P (tse P t)) (ev f x) (ev f c) k ():=_root_.id rfl
theorem QNE (ns K e m z b i c) (k : AV → KS → Option β) (l) : QxG ns K (some (e,m,z)) (some (b + 1)) (.i .i64 i) (.i .i64 c) k l = Vg (decide (i = c)) (Vg (mkB i (b + 1)) (Xl (K ++ [some (.lst m (List.replicate i.toNat (nz ns z)))]) (fun K'=>k (.sl K.length) K') ()) ()) ():=_root_.id rfl
theorem QST (i : Int) : (i = i) = True:=by simp
theorem QK9 (P e m z) : QA9 P (some (e,m,z)) = tb P e:=_root_.id rfl
theorem a_1 (K e m z b s x) (k : AV → KS → Option β) (l) : QET K (some (e,m,z)) (some (b + 1)) s x k l = Qum (QcP K m x) K.length m b s k ():=_root_.id rfl
theorem a_2 (r K1 n m b j) (k : AV → KS → Option β) (l) : Qum (some (r,K1)) n m b (.sl j) k l = Qyv (kg K1 j) r K1 n m b j k ():=_root_.id rfl
theorem a_3 (r K1 n m b) (k : AV → KS → Option β) (l) : Qum (some (r,K1)) n m b .nil k l = Vg (rm r.length (b + 1)) (Xl (K1 ++ [some (.lst m r)]) (fun K'=>k (.sl n) K') ()) ():=by
 simp [Qum,rm]
theorem a_4 (r' r K1 n m b j) (k : AV → KS → Option β) (l) : Qyv (some (.lst m r')) r K1 n m b j k l = Vg (rm (r'.length + r.length) (b + 1)) (Xl (K1.set j none ++ [some (.lst m (r' ++ r))]) (fun K'=>k (.sl n) K') ()) ():=by
 simp [Qyv,rm]
theorem QPV (K m) : QcP K m .nil = some ([],K):=_root_.id rfl
theorem QTh (K m r) : QcP K m (.imm m r) = some (r,K):=by simp [QcP]
def QGv (e : Option Ent) (K : KS) (m k : Nat) : Option (List (List AV) × KS):=match e with
  | some (.lst n rows)=>if n = m then some (rows,K.set k none) else none
  | _=>none
theorem QPq (K m j) : QcP K m (.sl j) = QGv (kg K j) K m j:=_root_.id rfl
theorem QTO (K m j r) : QGv (some (.lst m r)) K m j = some (r,K.set j none):=by simp [QGv]
end
section
variable (T : Tld)
theorem QNT (n h) : (orc T (n + 1) h).w = T.wt:=_root_.id rfl
theorem QJr (n h g) : (orc T n h).z g = (lk T.pz g).getD []:=by cases n <;> rfl
theorem QLO (n h) : (orc T (n + 1) h).v = T.vt:=_root_.id rfl
theorem QOk (n h) : (orc T n h).m = CM T n:=by cases n <;> rfl
theorem QJC (n h) : (orc T n h).a = CA T n:=by cases n <;> rfl
theorem QMF (n h) : (orc T (n + 1) h).q = T.qt:=_root_.id rfl
theorem QND (n h) : (orc T (n + 1) h).s = T.st:=_root_.id rfl
theorem QMs (n h) : (orc T n h).p = CP T n:=by cases n <;> rfl
theorem QMI (n h) : (orc T n h).l = LP T n h:=_root_.id rfl
noncomputable def cpF (T : Tld) (n g : Nat) (fn : Option Func) (a : Option Ann) (args : List AV) : Option AV:=match a with
 | some a=>match fn with
  | some f=>cond (Nat.ble args.length f.ntmps) (V8 T.P (orc T n g) a (f.body.getD .skip) (QhY T.P a.sh f.results.toList) (Xa args) [] ()) none
  | none=>cond (Nat.ble args.length 0) (V8 T.P (orc T n g) a .skip (QhY T.P a.sh []) (Xa args) [] ()) none
 | none=>T.xt g args
noncomputable def caF (T : Tld) (n g : Nat) (fn : Option Func) (a : Option Ann) (K : KS) (args : List AV) : Option (AV × KS):=match a with
 | some a=>match fn with
  | some f=>cond (a.wr && (Nat.beq K.length a.ak.length && Nat.ble args.length f.ntmps)) (V8 T.P (orc T n g) a (f.body.getD .skip) (Qku T.P a.ak a.nr f.ntmps f.results.toList) (Xa args) K ()) none
  | none=>cond (a.wr && (Nat.beq K.length a.ak.length && Nat.ble args.length 0)) (V8 T.P (orc T n g) a .skip (Qku T.P a.ak a.nr 0 []) (Xa args) K ()) none
 | none=>none
theorem Qef (n g K args) : CA T (n + 1) g K args = caF T n g (T.P.funcs[g]?) (T.at g) K args:=by
 show (match T.at g with | some a=>cond _ _ _ | none=>none) = _
 unfold caF body QkK ntm
 cases T.at g with
 | none=>rfl
 | some a=>cases T.P.funcs[g]? <;> rfl
theorem QyF (n g K args a) (x1 x2 x3 x4 x5 x6 m) (rs : List ResultVar) (c x7 x8 x9 x10 x11 x12 x13) : caF T n g (some ⟨x1,x2,x3,x4,x5,x6,m,List.toArray rs,some c,x7,x8,x9,x10,x11,x12,x13⟩) (some a) K args = cond ((a.nr.isSome || !a.ak.isEmpty) && ((K.length == a.ak.length) && Nat.ble args.length m)) (V8 T.P (orc T n g) a c (Qku T.P a.ak a.nr m rs) (Xa args) K ()) none:=by rw [← Qkd]; rfl
theorem QEG {α : Type} (x : α) (l : List α) : (x :: l).isEmpty = false:=_root_.id rfl
theorem QR9 : (!false) = true:=_root_.id rfl
noncomputable def cmF (T : Tld) (n g : Nat) (fn : Option Func) (a : Option Ann) (K : KS) (args : List AV) : Option AV:=match a with
 | some a=>cond (Nat.ble args.length (match fn with | some f=>f.ntmps | none=>0)) (V8 T.P (orc T n g) a (match fn with | some f=>f.body.getD .skip | none=>.skip) (QhY T.P a.sh (match fn with | some f=>f.results.toList | none=>[])) (Xa args) K ()) none
 | none=>T.mt g K args
theorem Qtw (n g K args) : CM T (n + 1) g K args = cmF T n g (T.P.funcs[g]?) (T.at g) K args:=by
 show (match T.at g with | some a=>_ | none=>_) = _
 unfold cmF body QkK ntm
 cases T.at g with
 | none=>rfl
 | some a=>cases T.P.funcs[g]? <;> rfl
theorem QzO (n g K args) (h : T.at g = none) : CM T (n + 1) g K args = T.mt g K args:=by rw [Qtw,h]; rfl
theorem QyG (n g K args a) (x1 x2 x3 x4 x5 x6 m) (rs : List ResultVar) (c x7 x8 x9 x10 x11 x12 x13) : cmF T n g (some ⟨x1,x2,x3,x4,x5,x6,m,List.toArray rs,some c,x7,x8,x9,x10,x11,x12,x13⟩) (some a) K args = cond (Nat.ble args.length m) (V8 T.P (orc T n g) a c (QhY T.P a.sh rs) (Xa args) K ()) none:=_root_.id rfl
theorem Qg (n g args) : CP T (n + 1) g args = cpF T n g (T.P.funcs[g]?) (T.at g) args:=by
 show (match T.at g with | some a=>cond _ _ _ | none=>T.xt g args) = _
 unfold cpF body QkK ntm
 cases T.at g with
 | none=>rfl
 | some a=>cases T.P.funcs[g]? <;> rfl
theorem QJ9 (n g args) (h : T.at g = none) : CP T (n + 1) g args = T.xt g args:=by rw [Qg,h]; rfl
theorem Qw9 (n g args a) (x1 x2 x3 x4 x5 x6 m) (rs : List ResultVar) (c x7 x8 x9 x10 x11 x12 x13) : cpF T n g (some ⟨x1,x2,x3,x4,x5,x6,m,List.toArray rs,some c,x7,x8,x9,x10,x11,x12,x13⟩) (some a) args = cond (Nat.ble args.length m) (V8 T.P (orc T n g) a c (QhY T.P a.sh rs) (Xa args) [] ()) none:=_root_.id rfl
noncomputable def lpG (T : Tld) (n h : Nat) (a : Ann) (c : Option Code) (la : Option LA) (f : Fr) (K : KS) : Option (XE × Fr × KS):=match c,la with
    | some c,some la=>run (fun s=>V8 T.P (orc T n h) a c (QgG a.ak la a.rt) s.1 s.2 ()) (f,K)
    | _,_=>none
noncomputable def lpF (T : Tld) (n h t : Nat) (fn : Option Func) (a : Option Ann) (f : Fr) (K : KS) : Option (XE × Fr × KS):=match a with
 | some a=>lpG T n h a (QZ t (match fn with | some f=>f.body.getD .skip | none=>.skip)) (lk a.lp t) f K
 | none=>none
theorem QH (n h t f K) : LP T (n + 1) h t f K = lpF T n h t (T.P.funcs[h]?) (T.at h) f K:=by
 show (match T.at h with | some a=>_ | none=>none) = _
 unfold lpF
 cases T.at h <;> rfl
theorem QwQ (n h t a f K) (x1 x2 x3 x4 x5 x6 m rs c x7 x8 x9 x10 x11 x12 x13) : lpF T n h t (some ⟨x1,x2,x3,x4,x5,x6,m,rs,some c,x7,x8,x9,x10,x11,x12,x13⟩) (some a) f K = lpG T n h a (QZ t c) (lk a.lp t) f K:=_root_.id rfl
theorem Qr (n h a c la f K) : lpG T n h a (some c) (some la) f K = run (fun s=>V8 T.P (orc T n h) a c (QgG a.ak la a.rt) s.1 s.2 ()) (f,K):=_root_.id rfl
theorem getD_some {α : Type} (x d : α) : (some x).getD d = x:=_root_.id rfl
theorem Qj3 {α : Type} (d : α) : (none : Option α).getD d = d:=_root_.id rfl
end
end Go.Proofs.YtonidbheohhgdaaGreat.Am
namespace Go.Proofs.YtonidbheohhgdaaGreat.Am
open Go
set_option linter.unusedVariables false
set_option linter.unusedSimpArgs false
section
variable {α β γ : Type} {c : α → List AV}
theorem QnY (xs : List α) (i) : inb (xs.map c) i = inb xs i:=by simp [inb]
theorem QTs (xs : List α) : lnR (xs.map c) = ln xs:=by simp [lnR,ln]
theorem QnT [Inhabited α] (xs : List α) (i : Int) (h : inb xs i = true) : QK (xs.map c) i.toNat = c (gt xs i):=by
 obtain ⟨h0,h1⟩:=QcV.1 h
 have h2 : i.toNat < xs.length:=by omega
 simp [QK,gt,List.getD_eq_getElem?_getD,h2]
theorem QOu (xs : List α) (i : Int) (h : inb xs i = true) : QmX (xs.map c) i.toNat = true:=by
 unfold QmX
 obtain ⟨h0,h1⟩:=QcV.1 h
 rw [Nat.blt_eq]; simp; omega
theorem QJV (xs : List α) (l h : Int) : cut (xs.map c) l h = (cut xs l h).map c:=by simp [cut,List.map_take,List.map_drop]
theorem QoF (xs : List α) (i : Int) (ys : List α) (b : Nat) : Qdy (xs.map c) i (ys.map c) b = Qdy xs i ys b:=by simp [Qdy]
theorem Qon (xs : List α) (i : Int) (ys : List α) : Q6 (xs.map c) i (ys.map c) = (Q6 xs i ys).map c:=by simp [Q6,List.map_take,List.map_drop]
theorem QL4 (xs : List α) : (xs.map c).length = xs.length:=by simp
theorem QxO (xs : List α) (n : Nat) (x : α) (i : Int) : inb (xs.set n x) i = inb xs i:=by simp [inb]
theorem QAs [Inhabited α] (xs : List α) (x : α) (i : Int) (h : inb xs i = true) : gt (xs.set i.toNat x) i = x:=by
 obtain ⟨h0,h1⟩:=QcV.1 h
 have h2 : i.toNat < xs.length:=by omega
 simp [gt,List.getD_eq_getElem?_getD,h2]
theorem Qwc (xs : List α) (n : Nat) (x y : α) : (xs.set n x).set n y = xs.set n y:=by simp
theorem Qu2 (o : Option α) (g : β → γ) (f : α → Option β) : (o.bind f).map g = o.bind fun x=>(f x).map g:=by cases o <;> rfl
theorem QvK (b : Bool) (o : Option β) (g : β → γ) (l) : (Vg b o l).map g = Vg b (o.map g) ():=by cases b <;> rfl
theorem Qvj (b : Bool) (x y : Option β) (g : β → γ) : (cond b x y).map g = cond b (x.map g) (y.map g):=by cases b <;> rfl
theorem Qyr {ρ δ : Type} (p : ρ → Option β) (q : δ → Option β) (x) (g : β → γ) : (evO p q x).map g = evO (fun r=>(p r).map g) (fun r=>(q r).map g) x:=by cases x <;> rfl
theorem Qqi (x : α) (f : α → Option β) : (some x).bind f = f x:=_root_.id rfl
theorem Qpv (o : Option α) (f : α → Option β) (g : β → Option γ) : (o.bind f).bind g = o.bind fun x=>(f x).bind g:=by cases o <;> rfl
theorem QBv {α' β' : Type} (f : α → α') (g : β → β') (x) : Sum.map f g (.inl x) = .inl (f x):=_root_.id rfl
theorem QzR {α' β' : Type} (f : α → α') (g : β → β') (x) : Sum.map f g (.inr x) = .inr (g x):=_root_.id rfl
end
class EncR {α : Type} (c : α → List AV) (r : List AV) (x : outParam α) : Prop where
 eq : r = c x
class EncL {α : Type} (c : α → List AV) (R : List (List AV)) (xs : outParam (List α)) : Prop where
 eq : R = xs.map c
instance {α : Type} (c : α → List AV) (x : α) : EncR c (c x) x:=⟨rfl⟩
instance {α : Type} (c : α → List AV) (xs : List α) : EncL c (xs.map c) xs:=⟨rfl⟩
instance {α : Type} (c : α → List AV) : EncL c [] []:=⟨rfl⟩
instance {α : Type} (c : α → List AV) (r R x xs) [h : EncR c r x] [H : EncL c R xs] : EncL c (r :: R) (x :: xs):=⟨by rw [h.eq,H.eq]; rfl⟩
instance {α : Type} (c : α → List AV) (R S xs ys) [h : EncL c R xs] [H : EncL c S ys] : EncL c (R ++ S) (xs ++ ys):=⟨by rw [h.eq,H.eq]; simp⟩
instance {α : Type} (c : α → List AV) (R xs) (i : Nat) (r x) [h : EncL c R xs] [H : EncR c r x] : EncL c (R.set i r) (xs.set i x):=⟨by rw [h.eq,H.eq,List.map_set]⟩
instance {α : Type} (c : α → List AV) (n : Nat) (r x) [H : EncR c r x] : EncL c (List.replicate n r) (List.replicate n x):=⟨by rw [H.eq,List.map_replicate]⟩
theorem QEQ {α : Type} {c : α → List AV} (xs : List α) (R) {ys} [h : EncL c R ys] : xs.map c ++ R = (xs ++ ys).map c:=by rw [h.eq]; simp
theorem QFF {α : Type} {c : α → List AV} (xs : List α) (n : Nat) (R) {x} [h : EncR c R x] : (xs.map c).set n R = (xs.set n x).map c:=by rw [h.eq,List.map_set]
theorem Zr {α : Type} {c : α → List AV} (h : ∀ x,V7 (c x) = true) (xs : List α) : Ql (xs.map c) = true:=by
 induction xs with
 | nil=>simp [Ql]
 | cons x xs ih=>simp [Ql,h,ih]
theorem Qa9 {α : Type} {c c' : α → List AV} (h : ∀ x,Vt (c x) = c' x) (xs : List α) : Qn (xs.map c) = xs.map c':=by
 induction xs with
 | nil=>simp [Qn]
 | cons x xs ih=>simp [Qn,h,ih]
theorem QGE {α : Type} {c : α → List AV} (xs : List α) (n b : Nat) (m) : QkN (xs.map c).isEmpty (some (AV.own n [])) (Vg (rm (0 + xs.length) b) (some (AV.own n (xs.map c))) m) = Vg (rm (0 + xs.length) b) (some (AV.own n (xs.map c))) ():=by
 cases xs with
 | nil=>simp [QkN,oeq,Vg,rm]
 | cons r R=>rfl
set_option linter.defProp false
set_option maxRecDepth 100000
def evA:=aI @QLL <| aI @QIc <| aI @Qwk <| aI @QCL <| aI @Qv4 <| aI @QCE <| aI @QHP <| aI @QMT <| aI @QGh <| aI @QBM <| aI @QyZ <| aI @QQ6 <| aI @QLb <| aI @QRo <| aI @QMP <| aI @QAU <| aI @QNc <| aI @QBh <| aI @QGi <| aI @QBF <| aI @Qyt <| aI @QNs <| aI @QM6 <| aI @QGU <| aI @QDx <| aI @QDy <| aI @QGd <| aI @QI2 <| aI @QBG <| aI @Qwm <| aI @QK7 <| aI @Qy8 <| aI @QD8 <| aI @QFP <| aI @QFI <| aI @QHd <| aI @QOp <| aI @QOi <| aI @QOn <| aI @Qxr <| aI @QnD <| aI @QDv <| aI @QH9 <| aI @QAf <| aI @QxX <| aI @QDW <| aI @QFz <| aI @QJ4 <| aI @QMW <| aI @s_v <| aI @v_j <| aI @v_s <| aI @QJB <| aI @QMf <| aI @QyG <| aI @Qtf <| aI @n_c <| aI @QIJ <| aI @QHg <| aI @QJH <| aI @QNG <| aI @n_g <| aI @QIf <| aI @QL6 <| aI @QML <| aI @QGP <| aI @QMa <| aI @QFD <| aI @QLt <| aI @QE9 <| aI @QAI <| aI @Qx4 <| aI @Qs2 <| aI @Qtp <| aI @Qt2 <| aI @Quh <| aI @QSB <| aI @QOE <| aI @QC2 <| aI @QOx <| aI @QLK <| aI @QDG <| aI @QDK <| aI @QDV <| aI @Qz2 <| aI @Qyn <| aI @Qzx <| aI @Qvo <| aI @Qzu <| aI @Qx0 <| aI @QMB <| aI @QIu <| aI @QE3 <| aI @QFa <| aI @QFV <| aI @QFl <|  aI @QAl <| aI @QnD <| aI @QIx <| aI @QK6 <| aI @QBp <| aI @QMN <| aI @QMG <| aI @Qxc <| aI @QvP <| aI @Qx8 <| aI @QMt <| aI @QxU <| aI @QJy <| aI @QOm <|
 aI @Qzc <| aI @QyJ <| aI @QGx <| aI @Qti <| aI @Qxw <| aI @QwL <| aI @Qv5 <| aI @QCl <| aI @QBr <| aI @Qzi <|
 aI @QNO <| aI @QGW <| aI @QA6 <| aI @c_g <| aI @QQZ <| aI @QCq <| aI @QCr <| aI @QDa <|
 aI @QiM <| aI @QuD <| aI @Qse <| aI @Qpo <| aI @Qr6 <|
 aI @QGH <| aI @Qxg <| aI @QEU <| aI @QBP <| aI @QJu <| aI @Qzv <| aI @Qyy <| aI @QF6 <| aI @Qzl <| aI @QLQ <| aI @QD9 <| aI @QGf <| aI @QD0 <| aI @QFf <| aI @QI6 <| aI @QIT <| aI @QHq <| aI @QIC <| aI @QOD <| aI @QHV <| aI @QD4 <| aI @QGp <| aI @QDP <| aI @QRt <|
 aI @QSk <| aI @QQv <| aI @QHj <| aI @QN6 <| aI @QL0 <| aI @QLU <| aI @QL2 <| aI @QFp <| aI @Qzr <| aI @QHR <| aI @QR6 <|
 aI @QNd <| aI @QFi <| aI @QuY <| aI @Qrf <| aI @Qru <| aI @Qo8 <| aI @Qp1 <| aI @Qyd <| aI @Qra <| aI @QuB <|
 aI @Qpm <| aI @Qpc <| aI @Qbo <| aI @Qie <| aI @QmD <| aI @Qnj <|
 aI @QAq <| aI @QA4 <| aI @QEA <| aI @QCK <| aI @n_r <| aI @n_s <| aI @QRc <| aI @QQV <| aI @QRs <|
 aI @QMg <| aI @QEZ <| aI @QzN <| aI @QF3 <| aI @QyP <| aI @QDz <| aI @QJA <| aI @QEs <| aI @QC8 <| aI @QCw <|
 aI @getD_some <| aI @Qj3 <| aI @Qw9 <| aI @QyF <| aI @QwQ @QCF
def evB:=aI @QoC <| aI @Qn9 <| aI @QQl <| aI @QTi <| aI @QRW <| aI @QQ2 <| aI @QQw <| aI @k_i <| aI @k_b <| aI @k_s <| aI @QBl <| aI @QG2 <| aI @QQ0 <| aI @QRJ <| aI @QP6 <| aI @QRK <| aI @QPb <| aI @QSt <| aI @QPm <| aI @QPZ <| aI @QPE <| aI @QTL <| aI @QQ3 <| aI @QQd <| aI @QSh <| aI @QS4 <| aI @QRF <| aI @QTP <| aI @QO5 <| aI @QTB <| aI @QSv <| aI @QP9 <| aI @QO7 <| aI @QOF <| aI @QQn <| aI @QPA <| aI @QLL <| aI @QIc <| aI @Qwk <| aI @QCL <| aI @Qv4 <| aI @QCE <| aI @QHP <| aI @QMT <| aI @QOp <| aI @QOi <| aI @QOn <| aI @QPY <| aI @c_K <| aI @QMP <| aI @QJ3 <| aI @QOS <| aI @s_v <| aI @v_j <| aI @v_s <| aI @QJB <| aI @QMf <| aI @QyG <| aI @p_0 <| aI @p_e <| aI @p_s <| aI @p_n <| aI @p_z <| aI @p_a <| aI @QON <| aI @QTA <| aI @QTe <| aI @QQB <| aI @QQo <| aI @QRT <| aI @QSU <| aI @QSg <| aI @QJr <| aI @QmD <| aI @Qnj <| aI @Qj3 <| aI @getD_some <| aI @n_c <| aI @QIJ <| aI @QHg <| aI @QJH <| aI @QNG <| aI @n_g <| aI @QIf <| aI @QL6 <| aI @QML <| aI @QCK <| aI @n_r <| aI @n_s <| aI @QA5 <| aI @QBx <| aI @QAF <| aI @Qpm <| aI @Qpc <| aI @Qbo <| aI @Qie <| aI @Qzc <| aI @QyJ <| aI @Qti <| aI @QCq <| aI @QCr <| aI @QC8 <| aI @QCw <| aI @getD_some <| aI @Qj3 <| aI @Qxc <| aI @QvP <| aI @QxU <| aI @Qx8 <| aI @Qdz <| aI @QMN <| aI @QMG <| aI @c_M <| aI @QRE <| aI @QO1 <| aI @QOP <| aI @QSP <| aI @QRU <| aI @QK8 <| aI @QN0 <| aI @QDU <| aI @QDT <| aI @QBm <| aI @QB3 <| aI @QEF <| aI @Qzj <| aI @Qwo <| aI @QIV <| aI @QIn <| aI @Qwf <| aI @QEq <| aI @QDL <| aI @QLJ <| aI @QGs <| aI @QD7 <| aI @QGX <| aI @QyT <| aI @QxF <| aI @Qs2 <| aI @Qtp <| aI @QOx <| aI @QLK <| aI @QTy <| aI @QPI <| aI @QRV <| aI @QQR <| aI @QSN <| aI @QPH <| aI @s_w <| aI @w_j <| aI @w_s <| aI @QP0 <| aI @QTc <| aI @QMo <| aI @QFJ <| aI @QO3 <| aI @QSn <| aI @QKk <| aI @QO8 <| aI @QSe <| aI @QP5 <| aI @QTd <| aI @QHE <| aI @QEg <| aI @QRx <| aI @QPT <| aI @QIN <| aI @QTC <| aI @QRH <| aI @QRI <| aI @QO0 <| aI @QP1 <| aI @QS0 <| aI @QRw <| aI @QSd <| aI @QOM <| aI @QO6 <| aI @QSR <| aI @QKg <| aI @QJa <| aI @QSq <| aI @QTD <| aI @QRX <| aI @QPC <| aI @QR7 <| aI @QPW <| aI @QQa <| aI @QS3 <| aI @QTj <| aI @QOR <| aI @QRq <| aI @QTN <| aI @QQ9 <| aI @QPL <| aI @QQU <| aI @QTx <| aI @QQ5 <| aI @QRh <| aI @QQF <| aI @QPj <| aI @QQr <| aI @QOK <| aI @QQb <| aI @QRe <| aI @QPB <| aI @QQL <| aI @QIv <| aI @QJk <| aI @QNQ <| aI @QIF <| aI @QRb <| aI @QS6 <| aI @QPx <| aI @QRv <| aI @QSJ <| aI @QQu <| aI @QSr <| aI @QIk <| aI @QLB <| aI @QLn <| aI @QMr <| aI @QRr <| aI @QP2 <| aI @QPd <| aI @QPk <| aI @QNI <| aI @QRG <| aI @QRk <| aI @QLx <| aI @QLo <| aI @QOH <| aI @QPS <| aI @QHv <| aI @QHM <| aI @QL9 <| aI @QNu <| aI @QJ5 <| aI @Bool.true_or <| aI @Bool.false_or <| aI @QSO <| aI @QQX <| aI @QSC <| aI @QRL <| aI @QR5 <| aI @QPe <| aI @QRS <| aI @QPh <| aI @w_p <| aI @QPn <| aI @w_x <| aI @w_n <| aI @QC2 <| aI @QHe <| aI @QHT <| aI @QyF <| aI @QEG <| aI @QR9 <| aI @Qt2 <| aI @Quh <| aI @s_t <| aI @s_q <| aI @s_f <| aI @QR4 <| aI @QKs <| aI @QEt <| aI @QSG <| aI @QKA <| aI @QEB <| aI @Qsi <| aI @QEn <| aI @QDD <| aI @QIM <| aI @QNn <| aI @QHW <| aI @QEP <| aI @QKh <| aI @QOs <| aI @QHs <| aI @Qtf <| aI @Qw9 <| aI @QwQ <| aI @QmD <| aI @QiM <|
 aI @QKG <| aI @QLk <| aI @QOO <| aI @QTG <| aI @QEJ <| aI @QE7 <| aI @QDH <| aI @QBt <| aI @Qu1 <| aI @QxS <| aI @QyW <| aI @Qwd <| aI @Qpz <| aI @QMV <| aI @QMO <| aI @QR1 <| aI @QOw <|
 aI @QDd <| aI @QHo <| aI @QI8 <| aI @QIi <| aI @QH4 <| aI @QM3 <| aI @QHJ <| aI @QM2 <| aI @QJX <| aI @QIA <| aI @QKu <| aI @QHn <| aI @QOf <| aI @QN3 <| aI @QNo <| aI @QJS <| aI @QHQ <| aI @QK5 <|
 aI @QKK <| aI @QI5 <| aI @QMp <| aI @QIm <| aI @QLX <| aI @QFZ <| aI @QE5 <| aI @QG7 <| aI @QGe <| aI @QHI <| aI @QD1 <| aI @QHK <| aI @QMD <| aI @QMw <| aI @QHt <| aI @QEX <| aI @QGL <| aI @QG1 <| aI @QFG <| aI @QD6 <| aI @QFW <| aI @QEv <| aI @QFc <| aI @QM5 <| aI @QGQ <|
 aI @QzK <| aI @QAS <| aI @QCe <| aI @QNk <| aI @QBE <| aI @QOa <| aI @QPM <| aI @QG4 <| aI @QoY <| aI @QH8 <| aI @QKb <|
 aI @QKI <| aI @QM4 <| aI @QGb <| aI @QEp <| aI @QJZ <| aI @QEl <| aI @QEr <| aI @QFS <| aI @QAk <| aI @QB0 <| aI @QAy <| aI @QA1 <|
 aI @QFb <| aI @QKN <| aI @QDp <| aI @QDO <| aI @QGJ <| aI @QBn <| aI @QOc <| aI @QD5 <| aI @QE8 <| aI @QEh <| aI @Qwl <| aI @QyA <| aI @QBR <| aI @Qv1 <| aI @Qyw <| aI @QGF <| aI @QJ0 <| aI @QFN <| aI @QGO <| aI @QKa <| aI @QFw <|
 aI @QRd <| aI @m_c <| aI @QFX <| aI @QF0 <| aI @QEE <| aI @QFC <| aI @QKF <| aI @QLf <| aI @QKj <| aI @QAW <| aI @Qzw <| aI @QAV <|
 aI @QAj <| aI @QNC <| aI @QBj <| aI @QAJ <| aI @QAa <| aI @QR3 <| aI @QFg <| aI @QDB <| aI @QFk <| aI @QFM <|
 aI @QH5 <| aI @QIy <| aI @QNq <| aI @QLp <| aI @QAO <| aI @QAM <| aI @QD2 <| aI @Qzn <| aI @QOI <| aI @QJo <| aI @QLW <| aI @QLl <| aI @QLI <| aI @Qz9 <| aI @QKm <|
 aI @QzZ <| aI @Qx2 <| aI @Qwn <| aI @QEb <| aI @QGq <| aI @QS2 <| aI @QLs <| aI @QOj <| aI @QKR <| aI @QM7 <| aI @QIU <| aI @QMc <| aI @QKv <| aI @QG0 <| aI @QLq <| aI @QMC <| aI @QMy <| aI @QOz <| aI @QH7 <| aI @QQD <| aI @QRy <| aI @QRM <| aI @QPQ <| aI @QQx <| aI @QPr <| aI @QO9 <| aI @QRO <| aI @QQz <| aI @QTu <| aI @QP3 <| aI @QTJ <| aI @QPR <| aI @QRY <| aI @QPp <| aI @QSE <| aI @QNZ <| aI @QOv <| aI @QIt <| aI @QFL <| aI @QGK <| aI @QF1 <| aI @QEI <| aI @QGk <| aI @QAw <| aI @Qwr <| aI @QQJ <|
 aI @QNp <| aI @QN4 <| aI @QEN <| aI @Qmv <| aI @Qrt <| aI @QHF <| aI @QOq <| aI @QFO <| aI @x_b <| aI @x_i <| aI @x_s <| aI @QHG <| aI @QOb <| aI @QIj <| aI @QOZ <| aI @QJG <| aI @QEa <| aI @QAo <| aI @QPN <|
 aI @QIZ <| aI @QE6 <| aI @QDJ <| aI @QMk <| aI @QMU <| aI @QTt <| aI @QEK <| aI @QFE <| aI @QJD <| aI @QJ6 <| aI @QKX <| aI @QOr <| aI @QJ7 <| aI @QLV <| aI @QFv <| aI @QES <|
 aI @QF4 <| aI @Qzy <| aI @QB8 <| aI @QBo <| aI @QAm <| aI @QF9 <| aI @QJJ <| aI @QIO <| aI @QJf <| aI @QHl <| aI @QAP <| aI @QyL <| aI @QG3 <| aI @QEL <| aI @QEc <| aI @QEM <| aI @QFx <|
 aI @l_0 <| aI @l_s <| aI @QQO <| aI @QLP <| aI @QKi <| aI @QKL <| aI @QGB <| aI @QFY <| aI @QFR <| aI @QJi <| aI @QPO <| aI @QQ4 <| aI @QQ8 <| aI @QS7 <| aI @QRP <| aI @QGw <| aI @QMn <| aI @QNl <| aI @QMu <| aI @l_b <| aI @l_i <| aI @QP7 <| aI @l_n <| aI @QI9 <| aI @QAZ <| aI @QB4 <| aI @QFQ <| aI @QF5 <| aI @QTH <| aI @QPi <| aI @QRm <| aI @QSi <| aI @QGA <| aI @QEV <|
 aI @QHk <| aI @QLg <| aI @QJd <| aI @i_b <| aI @i_i <| aI @QRN <| aI @i_n <| aI @QSS <| aI @QTv <| aI @QCF <| aI @QNN <|
 aI @QNS <| aI @QDS <| aI @QKo <| aI @QPJ <| aI @s_b <| aI @QPG <| aI @QTr <| aI @QQP <| aI @QTa <| aI @QPF <| aI @QSm <| aI @QRu <| aI @QQG <| aI @QSA <| aI @QTn <| aI @QEk <| aI @QLR <| aI @QPK <| aI @QSy <|
 aI @QHc <| aI @QII <| aI @QIo <| aI @QLG <| aI @QJL <| aI @QAz <| aI @QGG <| aI @QNj <| aI @QIR <| aI @QMA <|
 aI @QK9 <| aI @QNE <| aI @QST <| aI @QDa <| aI @a_1 <| aI @a_2 <| aI @a_3 <| aI @a_4 <| aI @QPV <| aI @QTh <| aI @QPq @QTO
def evT:=aI @QnY <| aI @QGE <| aI @QJV <| aI @QTs <| aI @QnT <| aI @QOu <| aI @QFF <| aI @QEQ <| aI @Qy7 <| aI @QL4 <| aI @QxO <| aI @QAs <| aI @Qwc <| aI @Qys <| aI @QJQ <| aI @Qu2 <| aI @QvK <| aI @Qvj <| aI @Qqi <| aI @Qyr <| aI @Qpv <| aI @QBv @QzR
def evN:=aI @Qbo <| aI @List.contains_nil <| aI @Bool.not_false <| aI @Bool.and_true <| aI @List.length_append <| aI @List.length_cons <| aI @List.length_nil <| aI @Nat.zero_add <| aI @Qc9 <| @Qdz
end Go.Proofs.YtonidbheohhgdaaGreat.Am
