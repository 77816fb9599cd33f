/- An evaluator over the abstract machine's values: the equations by which simp runs it. No condition. -/
import Derived.Test.YtkbilciipmijjaaGreatDoorEvA
namespace Go.Proofs.YtkbilciipmijjaaGreatDoor.Am
open Go
set_option linter.unusedVariables false
set_option linter.unusedSimpArgs false
section
variable {β : Type}
theorem cond_of {α : Type} {p : Prop} [Decidable p] {b : Bool} (h : b = true ↔ p) (x y : α) : (if p then x else y) = cond b x y := by
  cases b with
  | true => rw [if_pos (h.1 rfl)]; rfl
  | false => rw [if_neg (fun hp => by have := h.2 hp; cases this)]; rfl
theorem blt_iff {m n : Nat} : Nat.blt m n = true ↔ m < n := by rw [Nat.blt_eq]
theorem ble_iff {m n : Nat} : Nat.ble m n = true ↔ m ≤ n := by rw [Nat.ble_eq]
/-- A choice by what is a numeral's test: the two are not looked into. -/
def sel {α : Type} (b : Bool) (x y : α) (_ : Lk (x, y)) : α := cond b x y
theorem e_sel_t {α : Type} (x y : α) (l) : sel true x y l = x := _root_.id rfl
theorem e_sel_f {α : Type} (x y : α) (l) : sel false x y l = y := _root_.id rfl
/-! frames and operands -/
theorem e_olet (v) (k : AV → Option β) (l) : olet v k l = k v := _root_.id rfl
theorem e_oletK (K) (k : KS → Option β) (l) : oletK K k l = k K := _root_.id rfl
theorem e_up (f : Fr) (d : Nat) (v : AV) (t : Nat) : up f d v t = sel (d == t) v (f t) () := by
  unfold up sel
  by_cases h : t = d
  · simp [h]
  · have : (d == t) = false := by simp; exact fun h' => h h'.symm
    simp [h, this]
theorem e_ble (m n : Nat) : Nat.ble m n = decide (m ≤ n) := by rw [Bool.eq_iff_iff, Nat.ble_eq]; simp
theorem e_blt (m n : Nat) : Nat.blt m n = decide (m < n) := by rw [Bool.eq_iff_iff, Nat.blt_eq]; simp
theorem e_dt (h : Decidable True) : @decide True h = true := by simp
theorem e_df (h : Decidable False) : @decide False h = false := by simp
theorem e_wipe (m n : Nat) (f : Fr) (t : Nat) : wipe m n f t = sel (Nat.ble m t && Nat.blt t n) .u (f t) () := _root_.id rfl
theorem e_frm_nil (t : Nat) : frm [] t = .u := _root_.id rfl
theorem e_frm_cons (d : Nat) (v : AV) (l : List (Nat × AV)) (t : Nat) : frm ((d, v) :: l) t = sel (d == t) v (frm l t) () := by
  show up (frm l) d v t = _; exact e_up _ _ _ _
theorem e_args_nil (t : Nat) : argsAt [] t = .u := by simp [argsAt]
theorem e_args_zero (v : AV) (l : List AV) : argsAt (v :: l) 0 = v := _root_.id rfl
theorem e_args_succ (v : AV) (l : List AV) (t : Nat) : argsAt (v :: l) (t + 1) = argsAt l t := _root_.id rfl
theorem e_ev_tmp (f : Fr) (t : Tmp) : ev f (.tmp t) = f t := _root_.id rfl
theorem e_ev_const (f : Fr) (v : Value) : ev f (.const v) = cv v := _root_.id rfl
theorem e_ev_func (f : Fr) (g : FuncId) : ev f (.func g) = .clo g [] := _root_.id rfl
theorem e_cv_bool (b : Bool) : cv (.bool b) = .b b := _root_.id rfl
theorem e_cv_int (k : IntKind) (i : Int) : cv (.int k i) = .i k i := _root_.id rfl
theorem e_cv_str (x : ByteArray) : cv (.string x) = .s x.data.toList := _root_.id rfl
theorem e_cv_nil : cv (.slice none 0 0) = .nil := _root_.id rfl
theorem e_cond_t {α : Type} (x y : α) : cond true x y = x := _root_.id rfl
theorem e_cond_f {α : Type} (x y : α) : cond false x y = y := _root_.id rfl
theorem e_need_t (q : Option β) (l) : need true q l = q := _root_.id rfl
/-- A loop's outcome told as the machine's. -/
def lmap {ρ δ γ : Type} (o : Option (Fl ρ δ)) (p : ρ → γ) (q : δ → γ) : Option γ := o.map (evO p q)
theorem e_obind_lmap {ρ δ γ : Type} (o : Option (Fl ρ δ)) (p : ρ → γ) (q : δ → γ) (k : γ → Option β) (l) : obind (lmap o p q) k l = o.bind (evO (fun r => k (p r)) (fun r => k (q r))) := by
  cases o with
  | none => rfl
  | some o => cases o <;> rfl
theorem e_obind_some {α : Type} (x : α) (k : α → Option β) (l) : obind (some x) k l = k x := _root_.id rfl
theorem e_obind_none {α : Type} (k : α → Option β) (l) : obind (none : Option α) k l = none := _root_.id rfl
theorem e_obind_need {α : Type} (b : Bool) (q : Option α) (k : α → Option β) (l) (l') : obind (need b q l') k l = need b (obind q k l) () := by cases b <;> rfl
theorem e_obind_map {α γ : Type} (o : Option γ) (e : γ → α) (k : α → Option β) (l) : obind (o.map e) k l = o.bind (fun r => k (e r)) := by cases o <;> rfl
theorem e_obind {α : Type} (o : Option α) (k : α → Option β) (l) : obind o k l = o.bind k := _root_.id rfl
theorem e_lk_nil {α : Type} (i) : lk ([] : List (Nat × α)) i = none := _root_.id rfl
theorem e_lk_cons {α : Type} (i) (x : α) (l j) : lk ((i, x) :: l) j = sel (i == j) (some x) (lk l j) () := _root_.id rfl
end
section
variable {β : Type} {P : Program} {D : Orc} {a : Ann} {f : Fr} {K : KS} {Q : KT β} {k : AV → KS → Option β}
/-! code -/
theorem c_skip (l) : ocode P D a .skip Q f K l = Q .normal f K := _root_.id rfl
theorem c_ret (l) : ocode P D a .ret Q f K l = Q .ret f K := _root_.id rfl
theorem c_exit (id l) : ocode P D a (.exit id) Q f K l = Q (.exit id) f K := _root_.id rfl
theorem c_seq (x y l) : ocode P D a (.seq x y) Q f K l = ocode P D a x (othen (fun f K => ocode P D a y Q f K ()) Q) f K () := _root_.id rfl
def ocnd (v : AV) (x y : Option β) (_ : Lk (x, y)) : Option β := match v with | .b b => cond b x y | _ => none
theorem c_cond (c x y l) : ocode P D a (.cond c x y) Q f K l = ocnd (ev f c) (ocode P D a x Q f K ()) (ocode P D a y Q f K ()) () := _root_.id rfl
theorem c_cnd (b) (x y : Option β) (l) : ocnd (.b b) x y l = cond b x y := _root_.id rfl
theorem c_block (id c l) : ocode P D a (.block id c) Q f K l = ocode P D a c (oblk id Q) f K () := _root_.id rfl
theorem c_region (id ol l) : ocode P D a (.region id (List.toArray ol) false) Q f K l = ofz (lk a.fz id) f K (fun f K => oregF P D a id (lk a.av id) (List.toArray ol) Q f K ()) () := _root_.id rfl
theorem c_Z0 (f : Fr) (K : KS) (k : Fr → KS → Option β) (l) : ofz none f K k l = k f K := _root_.id rfl
theorem c_Z1 (f : Fr) (K : KS) (ss) (k : Fr → KS → Option β) (l) : ofz (some ss) f K k l = ofzs ss f K k () := _root_.id rfl
theorem c_Zn (f : Fr) (K : KS) (k : Fr → KS → Option β) (l) : ofzs [] f K k l = k f K := _root_.id rfl
theorem c_Zs (f : Fr) (K : KS) (s ss) (k : Fr → KS → Option β) (l) : ofzs (s :: ss) f K k l = ofzV s (f s) f K (fun f K => ofzs ss f K k ()) () := _root_.id rfl
theorem c_Zv (f : Fr) (K : KS) (s j) (k : Fr → KS → Option β) (l) : ofzV s (.sl j) f K k l = ofzE s j (kg K j) f K k () := _root_.id rfl
theorem c_Ze (f : Fr) (K : KS) (s j m rows) (k : Fr → KS → Option β) (l) : ofzE s j (some (.lst m rows)) f K k l = need (flatRows rows) (k (up f s (.imm m rows)) (K.set j none)) () := _root_.id rfl
theorem c_F0 (id ol l) : oregF P D a id none (List.toArray ol) Q f K l = oregN P D a id (lk a.an id) (List.toArray ol) ol Q f K () := _root_.id rfl
theorem c_F1 (id vs ol l) : oregF P D a id (some vs) (List.toArray ol) Q f K l = oopsB vs P D (List.toArray ol) ol f K (fun f K => Q .normal f K) () := _root_.id rfl
theorem c_nilB (vs ops) (k : Fr → KS → Option β) (l) : oopsB vs P D ops [] f K k l = k f K := _root_.id rfl
theorem c_consB (vs ops d o t p af r) (k : Fr → KS → Option β) (l) : oopsB vs P D ops (⟨some d, o, t, p, af, none⟩ :: r) f K k l = oopB vs P D o f K (fun v K' => olet v (fun v => oopsB vs P D ops r (up f d v) K' k ()) ()) () := _root_.id rfl
theorem c_consBn (vs ops o t p af r) (k : Fr → KS → Option β) (l) : oopsB vs P D ops (⟨none, o, t, p, af, none⟩ :: r) f K k l = oopB vs P D o f K (fun v K' => oopsB vs P D ops r f K' k ()) () := _root_.id rfl
theorem c_gB (vs ops r) (k : Fr → KS → Option β) (d op t pos after j want l) : oopsB vs P D ops (⟨some d, op, t, pos, after, some (j, want)⟩ :: r) f K k l =
    ogd ((ops[j]?).bind (·.dst)) want f (fun f => oopB vs P D op f K (fun v K' => olet v (fun v => oopsB vs P D ops r (up f d v) K' k ()) ()) ()) (fun f => olet (.tup []) (fun v => oopsB vs P D ops r (up f d v) K k ()) ()) () := _root_.id rfl
theorem c_gnB (vs ops r) (k : Fr → KS → Option β) (op t pos after j want l) : oopsB vs P D ops (⟨none, op, t, pos, after, some (j, want)⟩ :: r) f K k l =
    ogd ((ops[j]?).bind (·.dst)) want f (fun f => oopB vs P D op f K (fun v K' => oopsB vs P D ops r f K' k ()) ()) (fun f => oopsB vs P D ops r f K k ()) () := _root_.id rfl
def isVC : Op → Bool
  | .call ⟨.value (.func _), _, _⟩ => true
  | _ => false
theorem oB_o (vs o l) (k : AV → KS → Option β) (h : isVC o = false) : oopB vs P D o f K k l = oop P D o f K k () := by
  unfold isVC at h
  unfold oopB
  split
  · cases h
  · rfl
theorem oB_c (vs g args ts l) (k : AV → KS → Option β) : oopB vs P D (.call ⟨.value (.func g), args, ts⟩) f K k l = cond (vs.contains g) (oopA P D (.call ⟨.value (.func g), args, ts⟩) f K k ()) (oop P D (.call ⟨.value (.func g), args, ts⟩) f K k ()) := _root_.id rfl
theorem vc_call (x args ts) : isVC (.call ⟨.value (.tmp x), args, ts⟩) = false := _root_.id rfl
theorem vc_bi (b args ts) : isVC (.call ⟨.builtin b, args, ts⟩) = false := _root_.id rfl
theorem vc_move (x) : isVC (.move x) = false := _root_.id rfl
theorem vc_asg (x) : isVC (.assign x) = false := _root_.id rfl
theorem vc_load (t x) : isVC (.load t x) = false := _root_.id rfl
theorem vc_store (t x y) : isVC (.store t x y) = false := _root_.id rfl
theorem vc_fa (t x i) : isVC (.fieldAddr t x i) = false := _root_.id rfl
theorem vc_ia (t x i) : isVC (.indexAddr t x i) = false := _root_.id rfl
theorem vc_ext (x i) : isVC (.extract x i) = false := _root_.id rfl
theorem vc_bin (o t x y u) : isVC (.binOp o t x y u) = false := _root_.id rfl
theorem vc_un (o t x) : isVC (.unOp o t x) = false := _root_.id rfl
theorem vc_nil (x) : isVC (.nilCheck x) = false := _root_.id rfl
theorem vc_pick (c x y) : isVC (.pick c x y) = false := _root_.id rfl
theorem vc_build (t ps) : isVC (.build t ps) = false := _root_.id rfl
theorem vc_bs (t n ps) : isVC (.buildSlice t n ps) = false := _root_.id rfl
theorem vc_alloc (t) : isVC (.alloc t) = false := _root_.id rfl
theorem vc_box (t x) : isVC (.box t x) = false := _root_.id rfl
theorem vc_slc (t x lo hi m) : isVC (.slice t x lo hi m) = false := _root_.id rfl
theorem vc_six (t x i) : isVC (.index t x i) = false := _root_.id rfl
theorem vc_cv (s t x) : isVC (.convert s t x) = false := _root_.id rfl
theorem c_regN0 (id ops ol l) : oregN P D a id none ops ol Q f K l = oregA P D a id (lk a.ac id) ops ol Q f K () := _root_.id rfl
theorem c_regN1 (id us ops ol l) : oregN P D a id (some us) ops ol Q f K l = oopsN P D ops us ol f K (fun f K => Q .normal f K) () := _root_.id rfl
theorem c_regA0 (id ops ol l) : oregA P D a id none ops ol Q f K l = oreg P D a id ops ol Q f K () := _root_.id rfl
theorem c_regA1 (id x ops ol l) : oregA P D a id (some x) ops ol Q f K l = oopsA P D ops ol f K (fun f K => Q .normal f K) () := _root_.id rfl
theorem c_nilA (ops) (k : Fr → KS → Option β) (l) : oopsA P D ops [] f K k l = k f K := _root_.id rfl
theorem c_consA (ops d o t p af r) (k : Fr → KS → Option β) (l) : oopsA P D ops (⟨some d, o, t, p, af, none⟩ :: r) f K k l = oopA P D o f K (fun v K' => olet v (fun v => oopsA P D ops r (up f d v) K' k ()) ()) () := _root_.id rfl
theorem c_consAn (ops o t p af r) (k : Fr → KS → Option β) (l) : oopsA P D ops (⟨none, o, t, p, af, none⟩ :: r) f K k l = oopA P D o f K (fun v K' => oopsA P D ops r f K' k ()) () := _root_.id rfl
theorem oA_move (x l) : oopA P D (.move x) f K k l = oop P D (.move x) f K k () := _root_.id rfl
theorem oA_assign (x l) : oopA P D (.assign x) f K k l = oop P D (.assign x) f K k () := _root_.id rfl
theorem oA_load (t x l) : oopA P D (.load t x) f K k l = oop P D (.load t x) f K k () := _root_.id rfl
theorem oA_store (t x y l) : oopA P D (.store t x y) f K k l = oop P D (.store t x y) f K k () := _root_.id rfl
theorem oA_fa (t x i l) : oopA P D (.fieldAddr t x i) f K k l = oop P D (.fieldAddr t x i) f K k () := _root_.id rfl
theorem oA_ia (t x i l) : oopA P D (.indexAddr t x i) f K k l = oop P D (.indexAddr t x i) f K k () := _root_.id rfl
theorem oA_ext (x i l) : oopA P D (.extract x i) f K k l = oop P D (.extract x i) f K k () := _root_.id rfl
theorem oA_bin (o t x y u l) : oopA P D (.binOp o t x y u) f K k l = oop P D (.binOp o t x y u) f K k () := _root_.id rfl
theorem oA_build (t ps l) : oopA P D (.build t ps) f K k l = oop P D (.build t ps) f K k () := _root_.id rfl
theorem oA_un (o t x l) : oopA P D (.unOp o t x) f K k l = oop P D (.unOp o t x) f K k () := _root_.id rfl
theorem oA_nil (x l) : oopA P D (.nilCheck x) f K k l = oop P D (.nilCheck x) f K k () := _root_.id rfl
theorem oA_pick (c x y l) : oopA P D (.pick c x y) f K k l = oop P D (.pick c x y) f K k () := _root_.id rfl
theorem oA_alloc (t l) : oopA P D (.alloc t) f K k l = oop P D (.alloc t) f K k () := _root_.id rfl
theorem oA_slc (t x lo hi m l) : oopA P D (.slice t x lo hi m) f K k l = oop P D (.slice t x lo hi m) f K k () := _root_.id rfl
theorem oA_six (t x i l) : oopA P D (.index t x i) f K k l = oop P D (.index t x i) f K k () := _root_.id rfl
theorem oA_bi (b xs ts l) : oopA P D (.call ⟨.builtin b, xs, ts⟩) f K k l = oop P D (.call ⟨.builtin b, xs, ts⟩) f K k () := _root_.id rfl
theorem oA_cv (s t x l) : oopA P D (.convert s t x) f K k l = oop P D (.convert s t x) f K k () := _root_.id rfl
theorem oA_box (t x l) : oopA P D (.box t x) f K k l = oop P D (.box t x) f K k () := _root_.id rfl
def osrt (b c d e : Bool) (D : Orc) (g : FuncId) (K : KS) (vs : List AV) (k : AV → KS → Option β) (_ : Lk (vs, k)) : Option β := cond b (osort K vs k ()) (cond c (ocomp K vs k ()) (cond d (ocallA D g K vs k ()) (cond e (ocallM D g K vs k ()) (ocall D g K vs k ()))))
theorem oA_call (x xs ts l) : oopA P D (.call ⟨.value x, List.toArray xs, ts⟩) f K k l = owho (ev f x) (fun g caps => osrt (D.s g) (D.q g) (D.w g) (D.v g) D g K (xs.map (ev f) ++ caps) k ()) () := _root_.id rfl
theorem s_t (g c d e) (K : KS) (vs) (k : AV → KS → Option β) (l) : osrt true c d e D g K vs k l = osort K vs k () := _root_.id rfl
theorem s_q (g d e) (K : KS) (vs) (k : AV → KS → Option β) (l) : osrt false true d e D g K vs k l = ocomp K vs k () := _root_.id rfl
theorem s_f (g) (K : KS) (vs) (k : AV → KS → Option β) (l) : osrt false false false false D g K vs k l = ocall D g K vs k () := _root_.id rfl
theorem s_w (g e) (K : KS) (vs) (k : AV → KS → Option β) (l) : osrt false false true e D g K vs k l = ocallAj D g K (refAs vs) vs k () := _root_.id rfl
theorem w_j (g) (K : KS) (js vs) (k : AV → KS → Option β) (l) : ocallAj D g K js vs k l = need (ndB js) (ocallAs D g K js (subAs js vs) k ()) () := _root_.id rfl
theorem w_s (g) (K : KS) (js cs) (k : AV → KS → Option β) (l) : ocallAs D g K js (some cs) k l = need (allC (subK K js)) (obind (D.a g (subK K js) cs) (fun r => k (renC js K.length r.1) (putB K js r.2)) ()) () := _root_.id rfl
theorem s_v (g) (K : KS) (vs) (k : AV → KS → Option β) (l) : osrt false false false true D g K vs k l = ocallMj D g K (refAs vs) vs k () := _root_.id rfl
theorem v_j (g) (K : KS) (js vs) (k : AV → KS → Option β) (l) : ocallMj D g K js vs k l = need (ndB js) (ocallMs D g K js (subAs js vs) k ()) () := _root_.id rfl
theorem v_s (g) (K : KS) (js cs) (k : AV → KS → Option β) (l) : ocallMs D g K js (some cs) k l = need (allL (subK K js)) (obind (D.m g (subK K js) cs) (fun x => k (impo K.length x).1 (puts K js (nones js) ++ (impo K.length x).2)) ()) () := _root_.id rfl
theorem v_n0 : nones [] = [] := _root_.id rfl
theorem v_ns (j js) : nones (j :: js) = none :: nones js := _root_.id rfl
theorem p_0 (vs) : fixP [] vs = vs := by cases vs <;> rfl
theorem p_e (ss) : fixP ss [] = [] := by cases ss <;> rfl
theorem p_s (s ss v vs) : fixP (s :: ss) (v :: vs) = fixI s v :: fixP ss vs := _root_.id rfl
theorem p_n (v) : fixI .n v = v := by cases v <;> rfl
theorem p_z (k v) : fixI (.z k) v = nic k v := by cases v <;> rfl
theorem p_a (ns cs) : fixI (.a ns) (.agg cs) = .agg (ni ns cs) := _root_.id rfl
theorem p_i0 (cs) : ni [] cs = cs := by cases cs <;> rfl
theorem p_is (n ns c cs) : ni (n :: ns) (c :: cs) = nic n c :: ni ns cs := _root_.id rfl
theorem p_nn (n) : nic (n + 1) .nil = .imm (n + 1) [] := _root_.id rfl
theorem p_n0 : nic 0 .nil = .nil := _root_.id rfl
theorem p_ni (n c x) : nic n (.i c x) = .i c x := _root_.id rfl
theorem p_nb (n x) : nic n (.b x) = .b x := _root_.id rfl
theorem p_ns (n x) : nic n (.s x) = .s x := _root_.id rfl
theorem p_nm (n m r) : nic n (.imm m r) = .imm m r := _root_.id rfl
theorem w_r0 : refAs [] = [] := _root_.id rfl
theorem w_rs (c cs) : refAs (c :: cs) = refA c ++ refAs cs := _root_.id rfl
theorem w_rsl (j) : refA (.sl j) = [j] := _root_.id rfl
theorem w_rpt (j a b) : refA (.ptr j a b) = [j] := _root_.id rfl
theorem w_apt (js j a b) : subA js (.ptr j a b) = (ixOf js j).map fun i => .ptr i a b := _root_.id rfl
theorem w_pB (K js es) : putB K js es = puts K js es ++ dropB js es := _root_.id rfl
theorem w_d0 (es) : dropB [] es = es := _root_.id rfl
theorem w_ds (j js e es) : dropB (j :: js) (e :: es) = dropB js es := _root_.id rfl
theorem w_x0 (k i) : rix [] k i = k + i := _root_.id rfl
theorem w_x1 (j js k) : rix (j :: js) k 0 = j := _root_.id rfl
theorem w_x2 (j js k i) : rix (j :: js) k (i + 1) = rix js k i := _root_.id rfl
theorem w_x3 (j js k) : rix (j :: js) k 1 = rix js k 0 := _root_.id rfl
theorem w_x4 (j js k) : rix (j :: js) k 2 = rix js k 1 := _root_.id rfl
theorem w_x5 (j js k) : rix (j :: js) k 3 = rix js k 2 := _root_.id rfl
theorem w_x6 (j js k) : rix (j :: js) k 4 = rix js k 3 := _root_.id rfl
theorem w_x7 (j js k) : rix (j :: js) k 5 = rix js k 4 := _root_.id rfl
theorem w_x8 (j js k) : rix (j :: js) k 6 = rix js k 5 := _root_.id rfl
theorem w_x9 (j js k) : rix (j :: js) k 7 = rix js k 6 := _root_.id rfl
theorem w_ci (js k c n) : renC js k (.i c n) = .i c n := by simp [renC]
theorem w_cb (js k x) : renC js k (.b x) = .b x := by simp [renC]
theorem w_cs (js k x) : renC js k (.s x) = .s x := by simp [renC]
theorem w_cn (js k) : renC js k .nil = .nil := by simp [renC]
theorem w_cm (js k n r) : renC js k (.imm n r) = .imm n r := by simp [renC]
theorem w_csl (js k i) : renC js k (.sl i) = .sl (rix js k i) := by simp [renC]
theorem w_cpt (js k i a b) : renC js k (.ptr i a b) = .ptr (rix js k i) a b := by simp [renC]
theorem w_cag (js k cs) : renC js k (.agg cs) = .agg (renCs js k cs) := by simp [renC]
theorem w_ctu (js k cs) : renC js k (.tup cs) = .tup (renCs js k cs) := by simp [renC]
theorem w_c0 (js k) : renCs js k [] = [] := by simp [renCs]
theorem w_cc (js k c cs) : renCs js k (c :: cs) = renC js k c :: renCs js k cs := by simp [renCs]
theorem w_oi (m c n) : rok m (.i c n) = true := _root_.id rfl
theorem w_ob (m x) : rok m (.b x) = true := _root_.id rfl
theorem w_os (m x) : rok m (.s x) = true := _root_.id rfl
theorem w_on (m) : rok m .nil = true := _root_.id rfl
theorem w_om (m n r) : rok m (.imm n r) = true := _root_.id rfl
theorem w_osl (m i) : rok m (.sl i) = Nat.ble (i + 1) m := _root_.id rfl
theorem w_opt (m i a b) : rok m (.ptr i a b) = Nat.ble (i + 1) m := _root_.id rfl
theorem w_oag (m cs) : rok m (.agg cs) = roks m cs := _root_.id rfl
theorem w_otu (m cs) : rok m (.tup cs) = roks m cs := _root_.id rfl
theorem w_o0 (m) : roks m [] = true := _root_.id rfl
theorem w_oc (m c cs) : roks m (c :: cs) = (rok m c && roks m cs) := _root_.id rfl
theorem w_li (c n) : clc (.i c n) = true := _root_.id rfl
theorem w_lb (x) : clc (.b x) = true := _root_.id rfl
theorem w_lst (x) : clc (.s x) = true := _root_.id rfl
theorem w_ln : clc .nil = true := _root_.id rfl
theorem w_lm (n r) : clc (.imm n r) = true := _root_.id rfl
theorem w_lc0 : clcs [] = true := _root_.id rfl
theorem w_lcs (c cs) : clcs (c :: cs) = (clc c && clcs cs) := _root_.id rfl
theorem w_l0 : allC [] = true := _root_.id rfl
theorem w_ls (n r K) : allC (some (.lst n r) :: K) = allC K := _root_.id rfl
theorem w_lbx (cs K) : allC (some (.box cs) :: K) = (clcs cs && allC K) := _root_.id rfl
theorem w_ragg (cs) : refA (.agg cs) = refAs cs := _root_.id rfl
theorem w_ri (c n) : refA (.i c n) = [] := _root_.id rfl
theorem w_rb (x) : refA (.b x) = [] := _root_.id rfl
theorem w_rst (x) : refA (.s x) = [] := _root_.id rfl
theorem w_rn : refA .nil = [] := _root_.id rfl
theorem w_rm (n r) : refA (.imm n r) = [] := _root_.id rfl
theorem w_rc (g l) : refA (.clo g l) = [] := _root_.id rfl
theorem w_a0 (js) : subAs js [] = some [] := _root_.id rfl
theorem w_as (js c cs) : subAs js (c :: cs) = (subA js c).bind fun c' => (subAs js cs).map (c' :: ·) := _root_.id rfl
theorem w_asl (js j) : subA js (.sl j) = (ixOf js j).map .sl := _root_.id rfl
theorem w_aagg (js cs) : subA js (.agg cs) = (subAs js cs).map .agg := _root_.id rfl
theorem w_ai (js c n) : subA js (.i c n) = some (.i c n) := _root_.id rfl
theorem w_ab (js x) : subA js (.b x) = some (.b x) := _root_.id rfl
theorem w_ast (js x) : subA js (.s x) = some (.s x) := _root_.id rfl
theorem w_an (js) : subA js .nil = some .nil := _root_.id rfl
theorem w_am (js n r) : subA js (.imm n r) = some (.imm n r) := _root_.id rfl
theorem w_ac (js g) : subA js (.clo g []) = some (.clo g []) := _root_.id rfl
theorem w_bind {α γ : Type} (x : α) (k : α → Option γ) : (some x).bind k = k x := _root_.id rfl
theorem beq_eq (x y : Nat) : Nat.beq x y = (x == y) := by rw [Bool.eq_iff_iff]; simp
theorem w_ix (x l j) : ixOf (x :: l) j = sel (x == j) (some 0) ((ixOf l j).map (· + 1)) () := by rw [← beq_eq]; rfl
theorem w_k0 (K) : subK K [] = [] := _root_.id rfl
theorem w_ks (K j js) : subK K (j :: js) = kg K j :: subK K js := _root_.id rfl
theorem w_p0 (K es) : puts K [] es = K := by cases es <;> rfl
theorem w_ps (K j js e es) : puts K (j :: js) (e :: es) = puts (K.set j e) js es := _root_.id rfl
theorem v_l0 : allL [] = true := _root_.id rfl
theorem v_ls (n r K) : allL (some (.lst n r) :: K) = allL K := _root_.id rfl
theorem w_si (c n) : AV.scal (.i c n) = true := _root_.id rfl
theorem w_sb (x) : AV.scal (.b x) = true := _root_.id rfl
theorem w_ss (x) : AV.scal (.s x) = true := _root_.id rfl
theorem w_fi (c n) : AV.flat (.i c n) = true := _root_.id rfl
theorem w_fb (x) : AV.flat (.b x) = true := _root_.id rfl
theorem w_fs (x) : AV.flat (.s x) = true := _root_.id rfl
theorem w_ft : AV.flat (.tup []) = true := _root_.id rfl
theorem w_o1 : isOne .one = true := _root_.id rfl
theorem w_p (x g j i o) (k : AV → KS → Option β) (l) : onp D f K (.ptr j i o) x g k l = onj D f K x g j i o (kg K j) k () := _root_.id rfl
theorem w_jl (x g j i o q r) (k : AV → KS → Option β) (l) : onj D f K x g j i o (some (.lst q r)) k l = onx D f K x g j i o q r ((rowOf r i).drop o) k () := _root_.id rfl
theorem w_x (x g j i o q r m rs cs) (k : AV → KS → Option β) (l) : onx D f K x g j i o q r (.own m rs :: cs) k l = need x.scal (obind (D.a g [some (.lst m rs)] [.sl 0, x]) (fun s => onr D f K j i o q r s k ()) ()) () := _root_.id rfl
theorem c_Ns (u us ops d o t p af r) (k : Fr → KS → Option β) (l) : oopsN P D ops (u :: us) (⟨some d, o, t, p, af, none⟩ :: r) f K k l = oop P D o f K (fun v K' => olet v (fun v => oopsN P D ops us r (up f d v) K' k ()) ()) () := _root_.id rfl
def oset' (d : Option Tmp) (v : AV) (f : Fr) (k : Fr → Option β) (_ : Lk (f, k)) : Option β := match d with
  | some d => olet v (fun v => k (up f d v)) ()
  | none => k f
theorem w_set (d v f) (k : Fr → Option β) (l) : oset' (some d) v f k l = olet v (fun v => k (up f d v)) () := _root_.id rfl
theorem c_Nt (ops d t p y1 p1 a1 e x y2 p2 a2 dst g d' e' ts y3 p3 a3 r) (k : Fr → KS → Option β) (l) : oopsN P D ops [] (⟨some d, .load t p, y1, p1, a1, none⟩ :: ⟨some e, .move x, y2, p2, a2, none⟩ :: ⟨dst, .call ⟨.value (.func g), List.toArray [.tmp d', .tmp e'], ts⟩, y3, p3, a3, none⟩ :: r) f K k l =
    need (isOne (tk P t) && ((d == d') && ((e == e') && !(d == e)))) (onp D f K (ev f p) (ev (up f d (.sl K.length)) x) g (fun v K' => oset' dst v (up (up f d (.sl K.length)) e (ev (up f d (.sl K.length)) x)) (fun f => oopsA P D ops r f K' k ()) ()) ()) () := by rw [← beq_eq, ← beq_eq, ← beq_eq]; cases dst <;> rfl
theorem o_mki (a b l) : oop P D (.makeInterface a b) f K k l = none := _root_.id rfl
theorem o_pan (a l) : oop P D (.panic a) f K k l = none := _root_.id rfl
theorem oA_bslice (t len ps l) : oopA P D (.buildSlice t len ps) f K k l = oop P D (.buildSlice t len ps) f K k () := _root_.id rfl
def ocompI (o : Option (List Int)) (K : KS) (j : Nat) (k : AV → KS → Option β) (_ : Lk k) : Option β := match o with
  | some xs => need (decide (xs.length < 4611686018427387904)) (oletK (K.set j none ++ [some (.lst 1 ((compI xs).map cI))]) (fun K' => k (.sl K.length) K') ()) ()
  | none => none
def ocompE (e : Option Ent) (K : KS) (j : Nat) (k : AV → KS → Option β) (_ : Lk k) : Option β := match e with
  | some (.lst 1 rows) => ocompI (intsOf rows) K j k ()
  | _ => none
theorem q_sl (K : KS) (j) (k : AV → KS → Option β) (l) : ocomp K [.sl j] k l = ocompE (kg K j) K j k () := _root_.id rfl
theorem q_lst (r) (K : KS) (j) (k : AV → KS → Option β) (l) : ocompE (some (.lst 1 r)) K j k l = ocompI (intsOf r) K j k () := _root_.id rfl
theorem q_some (xs) (K : KS) (j) (k : AV → KS → Option β) (l) : ocompI (some xs) K j k l = need (decide (xs.length < 4611686018427387904)) (oletK (K.set j none ++ [some (.lst 1 ((compI xs).map cI))]) (fun K' => k (.sl K.length) K') ()) () := _root_.id rfl
def osortI (o : Option (List Int)) (K : KS) (j : Nat) (k : AV → KS → Option β) (_ : Lk k) : Option β := match o with
  | some xs => need (decide (xs.length < 4611686018427387904)) (oletK (K.set j (some (.lst 1 ((sortI xs).map cI)))) (fun K => k (.tup []) K) ()) ()
  | none => none
def osortE (e : Option Ent) (K : KS) (j : Nat) (k : AV → KS → Option β) (_ : Lk k) : Option β := match e with
  | some (.lst 1 rows) => osortI (intsOf rows) K j k ()
  | _ => none
theorem s_sl (K : KS) (j) (k : AV → KS → Option β) (l) : osort K [.sl j] k l = osortE (kg K j) K j k () := _root_.id rfl
theorem s_lst (r) (K : KS) (j) (k : AV → KS → Option β) (l) : osortE (some (.lst 1 r)) K j k l = osortI (intsOf r) K j k () := _root_.id rfl
theorem s_some (xs) (K : KS) (j) (k : AV → KS → Option β) (l) : osortI (some xs) K j k l = need (decide (xs.length < 4611686018427387904)) (oletK (K.set j (some (.lst 1 ((sortI xs).map cI)))) (fun K => k (.tup []) K) ()) () := _root_.id rfl
theorem s_ints : ∀ xs : List Int, intsOf (xs.map fun x => [.i .i64 x]) = some xs
  | [] => rfl
  | x :: xs => by rw [List.map_cons, intsOf, s_ints xs]; rfl
noncomputable def oregO (P : Program) (D : Orc) (a : Ann) (id : Nat) (ops : Array Oper) (o : Option (List Nat)) (Q : KT β) (f : Fr) (K : KS) (_ : Lk (ops, Q, f)) : Option β := oreg P D a id ops (oord ops o) Q f K ()
theorem c_drawn (id ol l) : ocode P D a (.region id (List.toArray ol) true) Q f K l = ofz (lk a.fz id) f K (fun f K => oregD P D a id (lk a.av id) (List.toArray ol) Q f K ()) () := _root_.id rfl
theorem c_D0 (id ol l) : oregD P D a id none (List.toArray ol) Q f K l = oregE P D a id (lk a.eb id) (List.toArray ol) Q f K () := _root_.id rfl
theorem c_D1 (id vs ol l) : oregD P D a id (some vs) (List.toArray ol) Q f K l = oregU vs P D a id (lk a.ot id) (List.toArray ol) Q f K () := _root_.id rfl
theorem c_U0 (id vs ol l) : oregU vs P D a id none (List.toArray ol) Q f K l = oregJ vs P D (List.toArray ol) (lk a.ord id) Q f K () := _root_.id rfl
theorem c_U1 (id vs t ops l) : oregU vs P D a id (some t) ops Q f K l = otreeB vs P D ops t f K (fun f K => Q .normal f K) () := _root_.id rfl
theorem c_J0 (vs ol l) : oregJ vs P D (List.toArray ol) none Q f K l = oopsB vs P D (List.toArray ol) ol f K (fun f K => Q .normal f K) () := _root_.id rfl
theorem c_E0 (id ops l) : oregE P D a id none ops Q f K l = oregT P D a id ops (lk a.ot id) Q f K () := _root_.id rfl
noncomputable def oregM (P : Program) (D : Orc) (a : Ann) (id : Nat) (ol : List Oper) (Q : KT β) (f : Fr) (K : KS) (_ : Lk (Q, f)) : Option β := oregT P D a id (List.toArray ol) (lk a.ot id) Q f K ()
theorem c_E1 (id ds ol l) : oregE P D a id (some ds) (List.toArray ol) Q f K l = oregM P D a id (ol.map (nilB ds)) Q f K () := by
  show oregT P D a id ((List.toArray ol).map (nilB ds)) (lk a.ot id) Q f K () = oregT P D a id (List.toArray (ol.map (nilB ds))) (lk a.ot id) Q f K ()
  rw [List.map_toArray]
theorem c_M (id o r l) : oregM P D a id (o :: r) Q f K l = oregT P D a id (List.toArray (o :: r)) (lk a.ot id) Q f K () := _root_.id rfl
theorem nB_bs (ds d t y p e g) : nilB ds ⟨d, .buildSlice t 0 (List.toArray []), y, p, e, g⟩ = ⟨d, .move (.const (.slice none 0 0)), y, p, e, g⟩ := _root_.id rfl
theorem nB_bS (ds d t m ps y p e g) : nilB ds ⟨d, .buildSlice t (m + 1) ps, y, p, e, g⟩ = ⟨d, .buildSlice t (m + 1) ps, y, p, e, g⟩ := _root_.id rfl
theorem nB_app (ds d s x ts y p e g) : nilB ds ⟨d, .call ⟨.builtin .append, List.toArray [.tmp s, x], ts⟩, y, p, e, g⟩ = cond (ds.contains s) ⟨d, .call ⟨.builtin .append, List.toArray [.const (.slice none 0 0), x], ts⟩, y, p, e, g⟩ ⟨d, .call ⟨.builtin .append, List.toArray [.tmp s, x], ts⟩, y, p, e, g⟩ := _root_.id rfl
theorem nB_len (ds d xs ts y p e g) : nilB ds ⟨d, .call ⟨.builtin .len, xs, ts⟩, y, p, e, g⟩ = ⟨d, .call ⟨.builtin .len, xs, ts⟩, y, p, e, g⟩ := _root_.id rfl
theorem nB_call (ds d v xs ts y p e g) : nilB ds ⟨d, .call ⟨.value v, xs, ts⟩, y, p, e, g⟩ = ⟨d, .call ⟨.value v, xs, ts⟩, y, p, e, g⟩ := _root_.id rfl
theorem nB_move (ds d x y p e g) : nilB ds ⟨d, .move x, y, p, e, g⟩ = ⟨d, .move x, y, p, e, g⟩ := _root_.id rfl
theorem nB_asg (ds d x y p e g) : nilB ds ⟨d, .assign x, y, p, e, g⟩ = ⟨d, .assign x, y, p, e, g⟩ := _root_.id rfl
theorem nB_load (ds d t x y p e g) : nilB ds ⟨d, .load t x, y, p, e, g⟩ = ⟨d, .load t x, y, p, e, g⟩ := _root_.id rfl
theorem nB_store (ds d t x z y p e g) : nilB ds ⟨d, .store t x z, y, p, e, g⟩ = ⟨d, .store t x z, y, p, e, g⟩ := _root_.id rfl
theorem nB_fa (ds d t x i y p e g) : nilB ds ⟨d, .fieldAddr t x i, y, p, e, g⟩ = ⟨d, .fieldAddr t x i, y, p, e, g⟩ := _root_.id rfl
theorem nB_ia (ds d t x i y p e g) : nilB ds ⟨d, .indexAddr t x i, y, p, e, g⟩ = ⟨d, .indexAddr t x i, y, p, e, g⟩ := _root_.id rfl
theorem nB_build (ds d t ps y p e g) : nilB ds ⟨d, .build t ps, y, p, e, g⟩ = ⟨d, .build t ps, y, p, e, g⟩ := _root_.id rfl
theorem nB_bin (ds d o t x z u y p e g) : nilB ds ⟨d, .binOp o t x z u, y, p, e, g⟩ = ⟨d, .binOp o t x z u, y, p, e, g⟩ := _root_.id rfl
theorem nB_nil (ds d x y p e g) : nilB ds ⟨d, .nilCheck x, y, p, e, g⟩ = ⟨d, .nilCheck x, y, p, e, g⟩ := _root_.id rfl
theorem nB_un (ds d o t x y p e g) : nilB ds ⟨d, .unOp o t x, y, p, e, g⟩ = ⟨d, .unOp o t x, y, p, e, g⟩ := _root_.id rfl
theorem nB_ext (ds d x i y p e g) : nilB ds ⟨d, .extract x i, y, p, e, g⟩ = ⟨d, .extract x i, y, p, e, g⟩ := _root_.id rfl
theorem nB_box (ds d t x y p e g) : nilB ds ⟨d, .box t x, y, p, e, g⟩ = ⟨d, .box t x, y, p, e, g⟩ := _root_.id rfl
theorem nB_alloc (ds d t y p e g) : nilB ds ⟨d, .alloc t, y, p, e, g⟩ = ⟨d, .alloc t, y, p, e, g⟩ := _root_.id rfl
theorem nB_slice (ds d t x lo hi mx y p e g) : nilB ds ⟨d, .slice t x lo hi mx, y, p, e, g⟩ = ⟨d, .slice t x lo hi mx, y, p, e, g⟩ := _root_.id rfl
theorem c_drT0 (id ol l) : oregT P D a id (List.toArray ol) none Q f K l = oregO P D a id (List.toArray ol) (lk a.ord id) Q f K () := _root_.id rfl
theorem c_drT1 (id ops t l) : oregT P D a id ops (some t) Q f K l = otree P D ops t f K (fun f K => Q .normal f K) () := _root_.id rfl
noncomputable def otree1 (P : Program) (D : Orc) (ops : Array Oper) (o : Option Oper) (t : OT) (f : Fr) (K : KS) (k : Fr → KS → Option β) (_ : Lk (ops, f, k)) : Option β := match o with
  | some o => oops P D ops [o] f K (fun f K => otree P D ops t f K k ()) ()
  | none => none
theorem t_done (ops) (k : Fr → KS → Option β) (l) : otree P D ops .done f K k l = k f K := _root_.id rfl
theorem t_one (ol i t) (k : Fr → KS → Option β) (l) : otree P D (List.toArray ol) (.one i t) f K k l = otree1 P D (List.toArray ol) (ol[i]?) t f K k () := by
  have : (List.toArray ol)[i]? = ol[i]? := by simp
  unfold otree otree1
  rw [this]
  cases ol[i]? <;> rfl
theorem t_one1 (ops o t) (k : Fr → KS → Option β) (l) : otree1 P D ops (some o) t f K k l = oops P D ops [o] f K (fun f K => otree P D ops t f K k ()) () := _root_.id rfl
theorem b_done (vs ops) (k : Fr → KS → Option β) (l) : otreeB vs P D ops .done f K k l = k f K := _root_.id rfl
noncomputable def otreeB1 (vs : List Nat) (P : Program) (D : Orc) (ops : Array Oper) (o : Option Oper) (t : OT) (f : Fr) (K : KS) (k : Fr → KS → Option β) (_ : Lk (ops, f, k)) : Option β := match o with
  | some o => oopsB vs P D ops [o] f K (fun f K => otreeB vs P D ops t f K k ()) ()
  | none => none
theorem b_one (vs ol i t) (k : Fr → KS → Option β) (l) : otreeB vs P D (List.toArray ol) (.one i t) f K k l = otreeB1 vs P D (List.toArray ol) (ol[i]?) t f K k () := by
  have : (List.toArray ol)[i]? = ol[i]? := by simp
  unfold otreeB otreeB1
  rw [this]
  cases ol[i]? <;> rfl
theorem b_one1 (vs ops o t) (k : Fr → KS → Option β) (l) : otreeB1 vs P D ops (some o) t f K k l = oopsB vs P D ops [o] f K (fun f K => otreeB vs P D ops t f K k ()) () := _root_.id rfl
theorem b_alt (vs ops a b) (k : Fr → KS → Option β) (l) : otreeB vs P D ops (.alt a b) f K k l = oeq (otreeB vs P D ops a f K k ()) (otreeB vs P D ops b f K k ()) := _root_.id rfl
theorem t_alt (ops a b) (k : Fr → KS → Option β) (l) : otree P D ops (.alt a b) f K k l = oeq (otree P D ops a f K k ()) (otree P D ops b f K k ()) := _root_.id rfl
theorem oeq_self (x : Option β) : oeq x x = x := by simp [oeq]
theorem need_comm (p q : Bool) (x : Option β) (l l' : Unit) : need p (need q x l) l' = need q (need p x l) l' := by cases p <;> cases q <;> rfl
theorem c_ord0 (id ol l) : oregO P D a id (List.toArray ol) none Q f K l = oreg P D a id (List.toArray ol) ol Q f K () := _root_.id rfl
/-- The operations of a list of numbers. -/
def pk : List Oper → List Nat → List Oper
  | _, [] => []
  | ol, i :: is => match ol[i]? with | some o => o :: pk ol is | none => pk ol is
noncomputable def oregP (P : Program) (D : Orc) (a : Ann) (id : Nat) (ops : Array Oper) (l : List Oper) (Q : KT β) (f : Fr) (K : KS) (_ : Lk (ops, Q, f)) : Option β := oreg P D a id ops l Q f K ()
theorem oord_some (ol is) : oord (List.toArray ol) (some is) = pk ol is := by
  show is.filterMap (fun i => (List.toArray ol)[i]?) = _
  induction is with
  | nil => rfl
  | cons i is ih =>
    rw [pk, List.filterMap_cons]
    have : (List.toArray ol)[i]? = ol[i]? := by simp
    rw [this]
    cases ol[i]? with
    | none => simpa using ih
    | some o => rw [← ih]
theorem c_ord1 (id ol is l) : oregO P D a id (List.toArray ol) (some is) Q f K l = oregP P D a id (List.toArray ol) (pk ol is) Q f K () := by
  show oreg P D a id _ (oord _ _) Q f K () = _
  rw [oord_some]; rfl
noncomputable def oregK (vs : List Nat) (P : Program) (D : Orc) (ops : Array Oper) (l : List Oper) (Q : KT β) (f : Fr) (K : KS) (_ : Lk (ops, Q, f)) : Option β := oopsB vs P D ops l f K (fun f K => Q .normal f K) ()
theorem c_J1 (vs ol is l) : oregJ vs P D (List.toArray ol) (some is) Q f K l = oregK vs P D (List.toArray ol) (pk ol is) Q f K () := by
  show oopsB vs P D _ (oord _ _) f K _ () = _
  rw [oord_some]; rfl
theorem c_K (vs ops o r l) : oregK vs P D ops (o :: r) Q f K l = oopsB vs P D ops (o :: r) f K (fun f K => Q .normal f K) () := _root_.id rfl
theorem c_pk0 (ol) : pk ol [] = [] := _root_.id rfl
def pkO (o : Option Oper) (l : List Oper) : List Oper := match o with | some o => o :: l | none => l
theorem c_pks (ol i is) : pk ol (i :: is) = pkO (ol[i]?) (pk ol is) := by rw [pk]; cases ol[i]? <;> rfl
theorem c_pkO (o l) : pkO (some o) l = o :: l := _root_.id rfl
theorem c_ordP (id ops o r l) : oregP P D a id ops (o :: r) Q f K l = oreg P D a id ops (o :: r) Q f K () := _root_.id rfl
theorem m_at0 {α : Type} (x : α) (l : List α) : (x :: l)[0]? = some x := _root_.id rfl
theorem m_ats {α : Type} (x : α) (l : List α) (i : Nat) : (x :: l)[i + 1]? = l[i]? := _root_.id rfl
theorem m_atA {α : Type} (l : List α) (i : Nat) : (List.toArray l)[i]? = l[i]? := by simp
theorem m_obind {α γ : Type} (x : α) (g : α → Option γ) : (some x).bind g = g x := _root_.id rfl
noncomputable def oreg1 (P : Program) (D : Orc) (j : Option (Nat × Nat × Nat)) (ops : Array Oper) (l : List Oper) (Q : KT β) (f : Fr) (K : KS) (_ : Lk (l, Q, f)) : Option β :=
  match j with
  | none => oops P D ops l f K (fun f K => Q .normal f K) ()
  | some (s, lo, hi) => jbind (oops P D ops l f K (fun f _ => asB (f s)) ()) (fun c => Q .normal (up (wipe lo hi f) s (.b c)) K) ()
theorem c_reg (id ops ol l) : oreg P D a id ops ol Q f K l = oreg1 P D (lk a.jn id) ops ol Q f K () := _root_.id rfl
theorem c_reg0 (ops ol l) : oreg1 P D none ops ol Q f K l = oops P D ops ol f K (fun f K => Q .normal f K) () := _root_.id rfl
theorem c_reg1 (s lo hi ops ol l) : oreg1 P D (some (s, lo, hi)) ops ol Q f K l = jbind (oops P D ops ol f K (fun f _ => asB (f s)) ()) (fun c => Q .normal (up (wipe lo hi f) s (.b c)) K) () := _root_.id rfl
theorem c_jbind (o) (k : Bool → Option β) (l) : jbind o k l = o.bind k := _root_.id rfl
theorem c_jbs (b) (k : Bool → Option β) (l) : jbind (jsome b) k l = k b := _root_.id rfl
theorem c_jcond (b x y) : cond b (jsome x) (jsome y) = jsome (cond b x y) := by cases b <;> rfl
theorem c_js (b) : jsome b = some b := _root_.id rfl
theorem c_and (a b : Bool) : cond a b false = (a && b) := by cases a <;> rfl
theorem c_or (a b : Bool) : cond a true b = (a || b) := by cases a <;> rfl
theorem c_nand (a b : Bool) : cond a false b = (!a && b) := by cases a <;> rfl
theorem c_asB (b) : asB (.b b) = jsome b := _root_.id rfl
def oloop (D : Orc) (t : Nat) (z : List Nat) (la : Option LA) (Q : KT β) (f : Fr) (K : KS) (_ : Lk Q) : Option β :=
  match la with
  | some la => onorm z la.sl la.rg f K (fun f K => obind (D.l t f K) (fun o => Q o.1 o.2.1 o.2.2) ()) ()
  | none => none
theorem c_loop (c l) : ocode P D a (.loop c) Q f K l = oloop D (tag c) a.ak (lk a.lp (tag c)) Q f K () := _root_.id rfl
theorem c_loop1 (t z la l) : oloop D t z (some la) Q f K l = onorm z la.sl la.rg f K (fun f K => obind (D.l t f K) (fun o => Q o.1 o.2.1 o.2.2) ()) () := _root_.id rfl
theorem c_tag_region (id o d) : tag (.region id o d) = id := _root_.id rfl
theorem c_tag_seq (x y) : tag (.seq x y) = tag x := _root_.id rfl
theorem c_tag_cond (c x y) : tag (.cond c x y) = tag x := _root_.id rfl
theorem c_tag_block (i x) : tag (.block i x) = tag x := _root_.id rfl
theorem c_tag_loop (x) : tag (.loop x) = tag x := _root_.id rfl
theorem c_then_n (k : Fr → KS → Option β) (Q f K) : othen k Q .normal f K = k f K := _root_.id rfl
theorem c_then_r (k : Fr → KS → Option β) (Q f K) : othen k Q .ret f K = Q .ret f K := _root_.id rfl
theorem c_then_e (k : Fr → KS → Option β) (Q id f K) : othen k Q (.exit id) f K = Q (.exit id) f K := _root_.id rfl
theorem c_blk_n (i f K) : oblk i Q .normal f K = Q .normal f K := _root_.id rfl
theorem c_blk_r (i f K) : oblk i Q .ret f K = Q .ret f K := _root_.id rfl
theorem c_blk_e (i j f K) : oblk i Q (.exit j) f K = sel (j == i) (Q .normal f K) (Q (.exit j) f K) () := _root_.id rfl
theorem c_nil (ops) (k : Fr → KS → Option β) (l) : oops P D ops [] f K k l = k f K := _root_.id rfl
theorem c_cons (ops r) (k : Fr → KS → Option β) (d op t pos after l) : oops P D ops (⟨some d, op, t, pos, after, none⟩ :: r) f K k l = oop P D op f K (fun v K' => olet v (fun v => oops P D ops r (up f d v) K' k ()) ()) () := _root_.id rfl
theorem c_consn (ops r) (k : Fr → KS → Option β) (op t pos after l) : oops P D ops (⟨none, op, t, pos, after, none⟩ :: r) f K k l = oop P D op f K (fun v K' => oops P D ops r f K' k ()) () := _root_.id rfl
theorem c_g (ops r) (k : Fr → KS → Option β) (d op t pos after j want l) : oops P D ops (⟨some d, op, t, pos, after, some (j, want)⟩ :: r) f K k l =
    ogd ((ops[j]?).bind (·.dst)) want f (fun f => oop P D op f K (fun v K' => olet v (fun v => oops P D ops r (up f d v) K' k ()) ()) ()) (fun f => olet (.tup []) (fun v => oops P D ops r (up f d v) K k ()) ()) () := _root_.id rfl
theorem c_gn (ops r) (k : Fr → KS → Option β) (op t pos after j want l) : oops P D ops (⟨none, op, t, pos, after, some (j, want)⟩ :: r) f K k l =
    ogd ((ops[j]?).bind (·.dst)) want f (fun f => oop P D op f K (fun v K' => oops P D ops r f K' k ()) ()) (fun f => oops P D ops r f K k ()) () := _root_.id rfl
def ogd1 (v : AV) (d : Nat) (want : Bool) (f : Fr) (yes no : Fr → Option β) (_ : Lk (f, yes, no)) : Option β :=
  match v with
  | .b x => cond x (cond want (yes (up f d (.b true))) (no (up f d (.b true)))) (cond want (no (up f d (.b false))) (yes (up f d (.b false))))
  | .tup [] => no f
  | _ => none
theorem c_gd (d want) (yes no : Fr → Option β) (l) : ogd (some d) want f yes no l = ogd1 (f d) d want f yes no () := by
  cases want <;> rfl
theorem c_gd1 (b d) (yes no : Fr → Option β) (l) : ogd1 (.b b) d true f yes no l = cond b (yes (up f d (.b true))) (no (up f d (.b false))) := _root_.id rfl
theorem c_gd0 (b d) (yes no : Fr → Option β) (l) : ogd1 (.b b) d false f yes no l = cond b (no (up f d (.b true))) (yes (up f d (.b false))) := _root_.id rfl
theorem c_gdu (d w) (yes no : Fr → Option β) (l) : ogd1 (.tup []) d w f yes no l = no f := _root_.id rfl
/-! operations -/
theorem o_move (x l) : oop P D (.move x) f K k l = k (ev f x) K := _root_.id rfl
theorem o_assign (x l) : oop P D (.assign x) f K k l = k (ev f x) K := _root_.id rfl
theorem o_pick (c x y l) : oop P D (.pick c x y) f K k l = opick (ev f c) (ev f x) (ev f y) (fun v => k v K) () := _root_.id rfl
theorem o_alloc (t l) : oop P D (.alloc t) f K k l = oalloc K (tzc P t) k () := _root_.id rfl
theorem o_box (t v l) : oop P D (.box t v) f K k l = obox K (ev f v) k () := _root_.id rfl
theorem o_build (t ps l) : oop P D (.build t (List.toArray ps)) f K k l = obuild K (tbd P t) (ps.map fun p => (p.1, ev f p.2)) (fun v => k v K) () := _root_.id rfl
theorem o_bslice (t len ps l) : oop P D (.buildSlice t len (List.toArray ps)) f K k l = obslice (zB (slzE P t)) (slzE P t) K (tse P t) len (ps.map fun p => (p.1, ev f p.2)) k () := _root_.id rfl
theorem o_load (t x l) : oop P D (.load t x) f K k l = oload (tk P t) (cellsAt K (ev f x)) (fun v => k v K) () := _root_.id rfl
theorem o_store (t p v l) : oop P D (.store t p v) f K k l = ostoreX (flT P t) (slz P 9 t) K (tk P t) (ev f p) (ev f v) (fun K => k .u K) () := _root_.id rfl
theorem o_bin (op t x y s l) : oop P D (.binOp op t x (.tmp y) s) f K k l = obin (teqP P t) op (ev f x) (ev f (.tmp y)) (fun v => k v K) () := _root_.id rfl
theorem o_bini (op t x c n s l) : oop P D (.binOp op t x (.const (.int c n)) s) f K k l = obin (teqP P t) op (ev f x) (ev f (.const (.int c n))) (fun v => k v K) () := _root_.id rfl
theorem o_binb (op t x c s l) : oop P D (.binOp op t x (.const (.bool c)) s) f K k l = obin (teqP P t) op (ev f x) (ev f (.const (.bool c))) (fun v => k v K) () := _root_.id rfl
theorem o_bins (op t x c s l) : oop P D (.binOp op t x (.const (.string c)) s) f K k l = obin (teqP P t) op (ev f x) (ev f (.const (.string c))) (fun v => k v K) () := _root_.id rfl
theorem o_binn (op t x s l) (h : isSlT P t = true) : oop P D (.binOp op t x (.const (.slice none 0 0)) s) f K k l = oisnil op (ev f x) (fun v => k v K) () := by simp [oop, isNilC, h]
theorem o_mkf (g caps l) : oop P D (.makeFunc (.func g) (List.toArray []) (List.toArray caps)) f K k l = k (.clo g (caps.map (ev f))) K := by simp [oop]
theorem o_cvb (s t x l) (h : bsl P s = true) : oop P D (.convert s t x) f K k l = obstr K (ti P t) (ev f x) (fun v => k v K) () := by simp [oop, h]
theorem o_cvt (s t x l) (h : bsl P s = false) (h2 : tok P s = true) : oop P D (.convert s t x) f K k l = oconv (ti P t) (ev f x) (fun v => k v K) () := by simp [oop, h, h2]
theorem o_slc (t x lo hi l) : oop P D (.slice t x lo hi none) f K k l = oslc (ti P t) (ev f x) (lo.map (ev f)) (hi.map (ev f)) (fun v => k v K) () := _root_.id rfl
theorem o_six (t x i l) : oop P D (.index t x i) f K k l = osix (ti P t) (ev f x) (ev f i) (fun v => k v K) () := _root_.id rfl
theorem o_nil (x l) : oop P D (.nilCheck x) f K k l = onil K (ev f x) (fun v => k v K) () := _root_.id rfl
theorem o_un (op t x l) : oop P D (.unOp op t x) f K k l = oun op (ev f x) (fun v => k v K) () := _root_.id rfl
theorem o_fa (t x fl l) : oop P D (.fieldAddr t x fl) f K k l = oadd K (ev f x) (tfo P t fl) (fun v => k v K) () := _root_.id rfl
theorem o_ia (t x i l) : oop P D (.indexAddr t x i) f K k l = oidx K (ti P t) (ev f x) (ev f i) (fun v => k v K) () := _root_.id rfl
theorem o_ext (x i l) : oop P D (.extract x i) f K k l = otup (ev f x) i (fun v => k v K) () := _root_.id rfl
theorem o_len (x t ts l) : oop P D (.call ⟨.builtin .len, List.toArray [x], List.toArray (t :: ts)⟩) f K k l = olen K (ti P t) (ev f x) (fun v => k v K) () := _root_.id rfl
theorem o_min (x y ts l) : oop P D (.call ⟨.builtin .min, List.toArray [x, y], ts⟩) f K k l = omin (ev f x) (ev f y) (fun v => k v K) () := _root_.id rfl
theorem o_max (x y ts l) : oop P D (.call ⟨.builtin .max, List.toArray [x, y], ts⟩) f K k l = omax (ev f x) (ev f y) (fun v => k v K) () := _root_.id rfl
theorem o_call (g args ts l) : oop P D (.call ⟨.value g, List.toArray args, ts⟩) f K k l = owho (ev f g) (fun g caps => ocall D g K (args.map (ev f) ++ caps) k ()) () := _root_.id rfl
theorem o_who (g caps) (k : FuncId → List AV → Option β) (l) : owho (.clo g caps) k l = k g caps := _root_.id rfl
theorem o_ocall (g vs l) : ocall D g K vs k l = obind (D.p g (fixP (D.z g) (lends K vs))) (fun x => k (impo K.length x).1 (K ++ (impo K.length x).2)) () := _root_.id rfl
end
def oeqE {β : Type} (o : Option Bool) (k : Bool → Option β) (_ : Lk k) : Option β := match o with | some b => k b | none => none
section
variable {β : Type} {k : AV → Option β} {c : IntKind} {a b : Int} {te : Option (List CK)}
theorem b_nil1 (K j i o l) : onil K (.ptr j i o) k l = onilE (kg K j) (.ptr j i o) k () := _root_.id rfl
theorem b_nil2 (e x l) : onilE (some e) x k l = k x := _root_.id rfl
theorem b_nil3 (K n r i o l) : onil K (.iptr n r i o) k l = k (.iptr n r i o) := _root_.id rfl
theorem b_and (l) : obin te .and (.i c a) (.i c b) k l = k (.i c (bitI .and c a b)) := by simp [obin, isSh]
theorem b_bor (l) : obin te .or (.i c a) (.i c b) k l = k (.i c (bitI .or c a b)) := by simp [obin, isSh]
theorem b_xor (l) : obin te .xor (.i c a) (.i c b) k l = k (.i c (bitI .xor c a b)) := by simp [obin, isSh]
theorem b_shl (d l) : obin te .shl (.i c a) (.i d b) k l = need (decide (0 ≤ b)) (k (.i c (shI .shl c a b))) () := by simp [obin, isSh]
theorem b_shr (d l) : obin te .shr (.i c a) (.i d b) k l = need (decide (0 ≤ b)) (k (.i c (shI .shr c a b))) () := by simp [obin, isSh]
theorem b_add (l) : obin te .add (.i c a) (.i c b) k l = k (.i c (c.wrap (a + b))) := by simp [obin, isSh]
theorem b_sub (l) : obin te .sub (.i c a) (.i c b) k l = k (.i c (c.wrap (a - b))) := by simp [obin, isSh]
theorem b_mul (l) : obin te .mul (.i c a) (.i c b) k l = k (.i c (c.wrap (a * b))) := by simp [obin, isSh]
theorem b_quo (l) : obin te .quo (.i c a) (.i c b) k l = need (!decide (b = 0)) (k (.i c (c.wrap (a.tdiv b)))) () := by simp [obin, isSh]
theorem b_rem (l) : obin te .rem (.i c a) (.i c b) k l = need (!decide (b = 0)) (k (.i c (a.tmod b))) () := by simp [obin, isSh]
theorem b_eql (l) : obin te .eql (.i c a) (.i c b) k l = k (.b (decide (a = b))) := by simp [obin, isSh]
theorem b_neq (l) : obin te .neq (.i c a) (.i c b) k l = k (.b (!decide (a = b))) := by simp [obin, isSh]
theorem b_lss (l) : obin te .lss (.i c a) (.i c b) k l = k (.b (decide (a < b))) := by simp [obin, isSh]
theorem b_leq (l) : obin te .leq (.i c a) (.i c b) k l = k (.b (decide (a ≤ b))) := by simp [obin, isSh]
theorem b_gtr (l) : obin te .gtr (.i c a) (.i c b) k l = k (.b (decide (b < a))) := by simp [obin, isSh]
theorem b_geq (l) : obin te .geq (.i c a) (.i c b) k l = k (.b (decide (b ≤ a))) := by simp [obin, isSh]
theorem b_eqa (ks xs ys l) : obin (some ks) .eql (.agg xs) (.agg ys) k l = oeqE (cellsEq ks xs ys) (fun b => k (.b b)) () := _root_.id rfl
theorem b_nea (ks xs ys l) : obin (some ks) .neq (.agg xs) (.agg ys) k l = oeqE (cellsEq ks xs ys) (fun b => k (.b (!b))) () := _root_.id rfl
theorem b_eqb (x y l) : obin (some [.t]) .eql (.b x) (.b y) k l = k (.b (decide (x = y))) := _root_.id rfl
theorem b_neb (x y l) : obin (some [.t]) .neq (.b x) (.b y) k l = k (.b (!decide (x = y))) := _root_.id rfl
theorem b_eqE (b) (k : Bool → Option β) (l) : oeqE (some b) k l = k b := _root_.id rfl
theorem b_sadd (x y l) : obin te .add (.s x) (.s y) k l = need (sfit x y) (k (.s (scat x y))) () := by simp [obin, sfit, scat]
theorem b_seql (x y l) : obin te .eql (.s x) (.s y) k l = k (.b (decide (x = y))) := by simp [obin]
theorem b_sneq (x y l) : obin te .neq (.s x) (.s y) k l = k (.b (!decide (x = y))) := by simp [obin]
def otupE (o : Option AV) (k : AV → Option β) (_ : Lk k) : Option β := match o with | some c => k c | none => none
theorem m_tup (cs i l) : otup (.tup cs) i k l = otupE (cs[i]?) k () := _root_.id rfl
theorem m_tupE (c l) : otupE (some c) k l = k c := _root_.id rfl
theorem b_ce0 : cellsEq [] [] [] = some true := _root_.id rfl
theorem b_cei (ks c x y xs ys) : cellsEq (.i :: ks) (.i c x :: xs) (.i c y :: ys) = (cellsEq ks xs ys).map (decide (x = y) && ·) := by simp [cellsEq]
theorem b_ceb (ks x y xs ys) : cellsEq (.b :: ks) (.b x :: xs) (.b y :: ys) = (cellsEq ks xs ys).map (decide (x = y) && ·) := _root_.id rfl
theorem b_ces (ks x y xs ys) : cellsEq (.s :: ks) (.s x :: xs) (.s y :: ys) = (cellsEq ks xs ys).map (decide (x = y) && ·) := _root_.id rfl
theorem b_not (x l) : oun .not (.b x) k l = k (.b (!x)) := _root_.id rfl
theorem b_neg (l) : oun .neg (.i c a) k l = k (.i c (c.wrap (-a))) := _root_.id rfl
theorem b_pick (x y : AV) (c : Bool) (l) : opick (.b c) x y k l = cond c (k x) (k y) := _root_.id rfl
theorem b_pickt (x y : AV) (l) : opick (.b true) x y k l = k x := _root_.id rfl
theorem b_pickf (x y : AV) (l) : opick (.b false) x y k l = k y := _root_.id rfl
theorem b_pickb (x y : Bool) (c : Bool) (l) : opick (.b c) (.b x) (.b y) k l = k (.b (cond c x y)) := by cases c <;> rfl
theorem b_min (l) : omin (.i c a) (.i c b) k l = k (.i c (if b < a then b else a)) := _root_.id rfl
theorem b_max (l) : omax (.i c a) (.i c b) k l = k (.i c (if a < b then b else a)) := _root_.id rfl
/-! memory -/
theorem m_kg0 (e : Option Ent) (K : KS) : kg (e :: K) 0 = e := _root_.id rfl
theorem m_kgs (e : Option Ent) (K : KS) (j : Nat) : kg (e :: K) (j + 1) = kg K j := _root_.id rfl
theorem m_set0 {α : Type} (e e' : α) (K : List α) : (e :: K).set 0 e' = e' :: K := _root_.id rfl
theorem m_sets {α : Type} (e e' : α) (K : List α) (j : Nat) : (e :: K).set (j + 1) e' = e :: K.set j e' := _root_.id rfl
theorem m_app {α : Type} (e : α) (K L : List α) : (e :: K) ++ L = e :: (K ++ L) := _root_.id rfl
theorem m_app0 {α : Type} (L : List α) : [] ++ L = L := _root_.id rfl
theorem m_len0 {α : Type} : ([] : List α).length = 0 := _root_.id rfl
theorem m_lens {α : Type} (e : α) (K : List α) : (e :: K).length = K.length + 1 := _root_.id rfl
theorem m_drop0 {α : Type} (K : List α) : K.drop 0 = K := _root_.id rfl
theorem m_drops {α : Type} (e : α) (K : List α) (n : Nat) : (e :: K).drop (n + 1) = K.drop n := _root_.id rfl
theorem m_take0 {α : Type} (K : List α) : K.take 0 = [] := by simp
theorem m_takes {α : Type} (e : α) (K : List α) (n : Nat) : (e :: K).take (n + 1) = e :: K.take n := _root_.id rfl
def lnR (r : List (List AV)) : Int := r.length
theorem m_lenimm (K e m n r l) : olen K (.sl e m) (.imm n r) k l = k (.i .i64 (lnR r)) := _root_.id rfl
theorem m_isn (n r) (k : AV → Option β) (l) : oisnil .eql (.imm n r) k l = oemp r.isEmpty (k (.b true)) (k (.b false)) := _root_.id rfl
theorem m_isnn (n r) (k : AV → Option β) (l) : oisnil .neq (.imm n r) k l = oemp r.isEmpty (k (.b false)) (k (.b true)) := _root_.id rfl
theorem m_empS (x : Option β) (b) : oemp b x x = x := by cases b <;> simp [oemp, oeq]
theorem m_empO (n : Nat) (R : List (List AV)) (b : Nat) (m) : oemp R.isEmpty (some (AV.own n [])) (need (decide (R.length * b ≤ 140737488355328)) (some (AV.own n R)) m) = need (decide (R.length * b ≤ 140737488355328)) (some (AV.own n R)) () := by
  cases R with
  | nil => simp [oemp, oeq, need]
  | cons r R => rfl
theorem m_lennil (K e m l) : olen K (.sl e m) .nil k l = k (.i .i64 0) := _root_.id rfl
def olenE (e : Option Ent) (k : AV → Option β) (_ : Lk k) : Option β := match e with | some e => k (.i .i64 (lnR e.rows)) | none => none
theorem m_cvi' (c d a l) : oconv (.int c) (.i d a) k l = k (.i c (c.wrap a)) := _root_.id rfl
def obstrS (o : Option (List UInt8)) (k : AV → Option β) (_ : Lk k) : Option β := match o with | some s => k (.s s) | none => none
def obstrE (e : Option Ent) (k : AV → Option β) (_ : Lk k) : Option β := match e with | some (.lst 1 rows) => obstrS (bytesOf rows) k () | _ => none
theorem m_bst (K j l) : obstr K .str (.sl j) k l = obstrE (kg K j) k () := _root_.id rfl
theorem m_bstl (r l) : obstrE (some (.lst 1 r)) k l = obstrS (bytesOf r) k () := _root_.id rfl
theorem m_bsts (s l) : obstrS (some s) k l = k (.s s) := _root_.id rfl
theorem bo_nil : bytesOf [] = some [] := _root_.id rfl
theorem bo_cons (n r) : bytesOf ([.i .u8 n] :: r) = (bytesOf r).map (UInt8.ofNat n.toNat :: ·) := by
  show (match byteOf [.i .u8 n], bytesOf r with | some x, some xs => some (x :: xs) | _, _ => none) = _
  simp only [byteOf]
  cases bytesOf r <;> rfl
theorem m_lensl (K e m j l) : olen K (.sl e m) (.sl j) k l = olenE (kg K j) k () := _root_.id rfl
theorem m_lenlst (n r l) : olenE (some (.lst n r)) k l = k (.i .i64 (lnR r)) := _root_.id rfl
theorem m_lenstr (K x l) : olen K .str (.s x) k l = k (.i .i64 (ln x)) := _root_.id rfl
theorem m_addi (K n r i p o t l) : oadd K (.iptr n r i p) (some (o, t)) k l = k (.iptr n r i (p + o)) := _root_.id rfl
def oaddE (e : Option Ent) (v : AV) (k : AV → Option β) (_ : Lk k) : Option β := match e with | some _ => k v | none => none
theorem m_add (K j i p o t l) : oadd K (.ptr j i p) (some (o, t)) k l = oaddE (kg K j) (.ptr j i (p + o)) k () := _root_.id rfl
theorem m_addE (e v l) : oaddE (some e) v k l = k v := _root_.id rfl
theorem m_idxi (K e m r kd i l) : oidx K (.sl e m) (.imm m r) (.i kd i) k l = need (inb r i) (k (.iptr m r i.toNat 0)) () := by simp [oidx]
def oidxE (e : Option Ent) (m : Nat) (j : Nat) (i : Int) (k : AV → Option β) (_ : Lk k) : Option β := match e with | some e => if m = e.n then need (inb e.rows i) (k (.ptr j i.toNat 0)) () else none | none => none
theorem m_idx (K e m j kd i l) : oidx K (.sl e m) (.sl j) (.i kd i) k l = oidxE (kg K j) m j i k () := _root_.id rfl
theorem m_idxE (m r j i l) : oidxE (some (.lst m r)) m j i k l = need (inb r i) (k (.ptr j i.toNat 0)) () := by simp [oidxE, Ent.n, Ent.rows]
def oidxA (e : Option Ent) (n : Nat) (i : Int) (p : AV) (k : AV → Option β) (_ : Lk k) : Option β := match e with | some _ => need (inbK n i) (k p) () | none => none
theorem m_idxa (K e n m j r o kd i l) : oidx K (.arr n e m) (.ptr j r o) (.i kd i) k l = oidxA (kg K j) n i (.ptr j r (o + i.toNat * m)) k () := _root_.id rfl
theorem m_idxA (e n i p l) : oidxA (some e) n i p k l = need (inbK n i) (k p) () := _root_.id rfl
theorem m_slc1 (e m r h c l) : oslc (.sl e m) (.imm m r) none (some (.i c h)) k l = need (slB 0 h (lnR r)) (k (.imm m (cut r 0 h))) () := by simp [oslc, bd, lnR]
theorem m_slc2 (e m r h c l) : oslc (.sl e m) (.imm m r) (some (.i c h)) none k l = need (slB h (lnR r) (lnR r)) (k (.imm m (cut r h (lnR r)))) () := by simp [oslc, bd, lnR]
theorem m_slc3 (e m r h h' c c' l) : oslc (.sl e m) (.imm m r) (some (.i c h)) (some (.i c' h')) k l = need (slB h h' (lnR r)) (k (.imm m (cut r h h'))) () := by simp [oslc, bd, lnR]
theorem m_sls1 (r h c l) : oslc .str (.s r) none (some (.i c h)) k l = need (slB 0 h (ln r)) (k (.s (cut r 0 h))) () := by simp [oslc, bd, ln]
theorem m_sls2 (r h c l) : oslc .str (.s r) (some (.i c h)) none k l = need (slB h (ln r) (ln r)) (k (.s (cut r h (ln r)))) () := by simp [oslc, bd, ln]
theorem m_sls3 (r h h' c c' l) : oslc .str (.s r) (some (.i c h)) (some (.i c' h')) k l = need (slB h h' (ln r)) (k (.s (cut r h h'))) () := by simp [oslc, bd, ln]
theorem m_six (r i c l) : osix .str (.s r) (.i c i) k l = need (inb r i) (k (.i .u8 ((gt r i).toNat : Int))) () := _root_.id rfl
/-- Cells that are all strings. -/
class Strs (cs : List AV) (xs : outParam (List (List UInt8))) : Prop where
  eq : cs = xs.map AV.s
instance : Strs [] [] := ⟨rfl⟩
instance (x cs xs) [h : Strs cs xs] : Strs (.s x :: cs) (x :: xs) := ⟨by rw [h.eq]; rfl⟩
theorem m_arrs {cs : List AV} {xs : List (List UInt8)} [h : Strs cs xs] (i : Int) (hi : inbK cs.length i = true) (l) : oload .one (cs.drop (0 + i.toNat * 1)) k l = k (.s (gt xs i)) := by
  have hcs := h.eq
  subst hcs
  simp [inbK] at hi
  have h2 : i.toNat < xs.length := by omega
  rw [Nat.zero_add, Nat.mul_one, List.drop_eq_getElem_cons (by simpa using h2)]
  simp [oload, gt, List.getD_eq_getElem?_getD, h2]
theorem m_ci (K n r i o) : cellsAt K (.iptr n r i o) = ((rowOf r i).drop o).map ld := _root_.id rfl
def cellsE (e : Option Ent) (i o : Nat) : List AV := match e with | some (.box cs) => if i = 0 then cs.drop o else [] | some (.lst _ rows) => ((rowOf rows i).drop o).map ld | none => []
theorem m_c (K j i o) : cellsAt K (.ptr j i o) = cellsE (kg K j) i o := _root_.id rfl
theorem m_cbox (cs o) : cellsE (some (.box cs)) 0 o = cs.drop o := _root_.id rfl
theorem m_clst (n r i o) : cellsE (some (.lst n r)) i o = ((rowOf r i).drop o).map ld := _root_.id rfl
theorem m_map0 {α γ : Type} (g : α → γ) : [].map g = [] := _root_.id rfl
theorem m_maps {α γ : Type} (g : α → γ) (x l) : (x :: l).map g = g x :: l.map g := _root_.id rfl
theorem m_ldb (x) : ld (.b x) = .b x := _root_.id rfl
theorem m_ldi (c x) : ld (.i c x) = .i c x := _root_.id rfl
theorem m_lds (x) : ld (.s x) = .s x := _root_.id rfl
theorem m_ldimm (n x) : ld (.imm n x) = .imm n x := _root_.id rfl
theorem m_ldnil : ld .nil = .nil := _root_.id rfl
theorem m_ldown (n x) : ld (.own n x) = .u := _root_.id rfl
theorem m_load1 (c cs l) : oload .one (c :: cs) k l = k c := _root_.id rfl
def oloadA (b : Bool) (v : AV) (k : AV → Option β) (_ : Lk k) : Option β := cond b (k v) none
theorem m_loada (m cs l) : oload (.agg m) cs k l = oloadA (Nat.blt 0 m && Nat.ble m cs.length) (.agg (cs.take m)) k () :=
  cond_of (by simp only [Bool.and_eq_true, blt_iff, ble_iff]) _ _
theorem m_loadA (v l) : oloadA true v k l = k v := _root_.id rfl
theorem m_alloc (K cs) (k : AV → KS → Option β) (l) : oalloc K (some cs) k l = oletK (K ++ [some (.box cs)]) (fun K' => k (.ptr K.length 0 0) K') () := _root_.id rfl
def okB (b : Bool) (x : Option β) (_ : Lk x) : Option β := cond b x none
theorem m_ok (x : Option β) (l) : okB true x l = x := _root_.id rfl
theorem m_boxa (K cs) (k : AV → KS → Option β) (l) : obox K (.agg cs) k l = okB (cs.all (cellK K)) (oletK (K ++ [some (.box cs)]) (fun K' => k (.ptr K.length 0 0) K') ()) () := by
  simp only [obox, okB]; cases cs.all (cellK K) <;> rfl
theorem m_boxi (K c x) (k : AV → KS → Option β) (l) : obox K (.i c x) k l = oletK (K ++ [some (.box [.i c x])]) (fun K' => k (.ptr K.length 0 0) K') () := _root_.id rfl
theorem m_all0 {α : Type} (p : α → Bool) : [].all p = true := _root_.id rfl
theorem m_alls {α : Type} (p : α → Bool) (x l) : (x :: l).all p = (p x && l.all p) := _root_.id rfl
theorem m_ckb (K x) : cellK K (.b x) = true := _root_.id rfl
theorem m_cki (K c x) : cellK K (.i c x) = true := _root_.id rfl
theorem m_cks (K x) : cellK K (.s x) = true := _root_.id rfl
theorem m_ckn (K) : cellK K .nil = true := _root_.id rfl
theorem m_ckimm (K n r) : cellK K (.imm n r) = true := _root_.id rfl
theorem m_ckclo (K n r) : cellK K (.clo n r) = true := _root_.id rfl
theorem m_cksl (K j) : cellK K (.sl j) = (kg K j).isSome := _root_.id rfl
theorem m_ckptr (K j i o) : cellK K (.ptr j i o) = (kg K j).isSome := _root_.id rfl
theorem m_is {α : Type} (x : α) : (some x).isSome = true := _root_.id rfl
theorem m_clb (x) : AV.closed (.b x) = true := _root_.id rfl
theorem m_cli (c x) : AV.closed (.i c x) = true := _root_.id rfl
theorem m_cls (x) : AV.closed (.s x) = true := _root_.id rfl
theorem m_cln : AV.closed .nil = true := _root_.id rfl
theorem m_climm (n r) : AV.closed (.imm n r) = true := _root_.id rfl
theorem m_and0 (x : Bool) : (false && x) = false := _root_.id rfl
theorem m_and (x : Bool) : (true && x) = x := _root_.id rfl
def ostoreE (fl : Bool) (ns : List Nat) (K : KS) (e : Option Ent) (t : TK) (j i o : Nat) (v : AV) (k : KS → Option β) (_ : Lk k) : Option β :=
  match e with
    | some (.box cs) => if i = 0 then oput cs o t v (cellK K) (fun cs => oletK (K.set j (some (.box cs))) k ()) () else none
    | some (.lst n rows) => if (cellsV v).all clq = true then (if i < rows.length then oput (rowOf rows i) o t v AV.closed (fun r => oletK (K.set j (some (.lst n (rows.set i r)))) k ()) () else none) else if fl = false then ostoreA ns K t j i o n rows v k () else none
    | none => none
theorem m_store (fl ns K t j i o v) (k : KS → Option β) (l) : ostoreX fl ns K t (.ptr j i o) v k l = ostoreE fl ns K (kg K j) t j i o v k () := by
  show (match kg K j with | some (.lst n rows) => _ | _ => _) = _
  cases h : kg K j with
  | none => simp [ostoreE, ostore, h]
  | some e => cases e <;> simp [ostoreE, ostore, h]
theorem m_storeb (fl ns K cs t j o v) (k : KS → Option β) (l) : ostoreE fl ns K (some (.box cs)) t j 0 o v k l = oput cs o t v (cellK K) (fun cs => oletK (K.set j (some (.box cs))) k ()) () := _root_.id rfl
def ostoreC (b fl : Bool) (ns : List Nat) (K : KS) (n : Nat) (r : List (List AV)) (t : TK) (j i o : Nat) (v : AV) (k : KS → Option β) (_ : Lk k) : Option β :=
  cond b (if i < r.length then oput (rowOf r i) o t v AV.closed (fun r' => oletK (K.set j (some (.lst n (r.set i r')))) k ()) () else none) (if fl = false then ostoreA ns K t j i o n r v k () else none)
theorem m_storel (fl ns K n r t j i o v) (k : KS → Option β) (l) : ostoreE fl ns K (some (.lst n r)) t j i o v k l = ostoreC ((cellsV v).all clq) fl ns K n r t j i o v k () := by
  simp only [ostoreE, ostoreC]
  cases (cellsV v).all clq <;> rfl
theorem m_cva (ds) : cellsV (.agg ds) = ds := _root_.id rfl
theorem m_cvi (c x) : cellsV (.i c x) = [.i c x] := _root_.id rfl
theorem m_cvb (x) : cellsV (.b x) = [.b x] := _root_.id rfl
theorem m_cvs (x) : cellsV (.s x) = [.s x] := _root_.id rfl
theorem m_cvn : cellsV .nil = [.nil] := _root_.id rfl
theorem m_cvm (n r) : cellsV (.imm n r) = [.imm n r] := _root_.id rfl
theorem m_cvl (j) : cellsV (.sl j) = [.sl j] := _root_.id rfl
theorem m_clsl (j) : clq (.sl j) = false := _root_.id rfl
theorem m_cqb (x) : clq (.b x) = true := _root_.id rfl
theorem m_cqi (c x) : clq (.i c x) = true := _root_.id rfl
theorem m_cqs (x) : clq (.s x) = true := _root_.id rfl
theorem m_cqn : clq .nil = false := _root_.id rfl
theorem m_cqm (n r) : clq (.imm n r) = true := _root_.id rfl
theorem nz_0 (cs) : nz [] cs = cs := by cases cs <;> rfl
theorem nz_n (ns) : nz ns [] = [] := by cases ns <;> rfl
theorem nz_c (n ns c cs) : nz (n :: ns) (c :: cs) = nzc n c :: nz ns cs := _root_.id rfl
theorem nz_b (n x) : nzc n (.b x) = .b x := _root_.id rfl
theorem nz_i (n c x) : nzc n (.i c x) = .i c x := _root_.id rfl
theorem nz_s (n x) : nzc n (.s x) = .s x := _root_.id rfl
theorem nz_l (n) : nzc n .nil = .own n [] := _root_.id rfl
theorem nz_o (n m r) : nzc n (.own m r) = .own m r := _root_.id rfl
theorem nz_m (n m r) : nzc n (.imm m r) = .imm m r := _root_.id rfl
theorem fx_z (k v) : fix1 (.z k) v = nzc k v := _root_.id rfl
theorem fx_n (v) : fix1 .n v = v := _root_.id rfl
theorem fx_a (ns cs) : fix1 (.a ns) (.agg cs) = .agg (nz ns cs) := _root_.id rfl
theorem fx_0 (v) : fixR [] v = v := _root_.id rfl
theorem fx_1 (s v) : fixR [s] v = fix1 s v := _root_.id rfl
theorem fx_2 (s s' ss vs) : fixR (s :: s' :: ss) (.tup vs) = .tup (fixZ (s :: s' :: ss) vs) := _root_.id rfl
theorem fx_Z (s ss v vs) : fixZ (s :: ss) (v :: vs) = fix1 s v :: fixZ ss vs := _root_.id rfl
theorem fx_Z0 (vs) : fixZ [] vs = vs := _root_.id rfl
theorem m_fta (m ds l) : fitV (.agg m) (.agg ds) l = (m == l) := _root_.id rfl
theorem m_ftl (j l) : fitV .one (.sl j) l = (l == 1) := _root_.id rfl
def ostoreB (ns : List Nat) (K : KS) (a : Option (KS × List AV)) (t : TK) (j o n i : Nat) (r : List (List AV)) (v : AV) (k : KS → Option β) (_ : Lk k) : Option β :=
  match a with
    | some (K1, ds) => if (kg K1 j).isSome = true ∧ fitV t v ds.length = true ∧ o + ds.length ≤ (rowOf r i).length then oletK (K1.set j (some (.lst n (r.set i (putCells (rowOf r i) o (nz ns ds)))))) k () else none
    | none => none
theorem m_ab (ns K K1 ds t j o n i r v) (k : KS → Option β) (l) : ostoreB ns K (some (K1, ds)) t j o n i r v k l = okB ((kg K1 j).isSome && (fitV t v ds.length && Nat.ble (o + ds.length) (rowOf r i).length)) (oletK (K1.set j (some (.lst n (r.set i (putCells (rowOf r i) o (nz ns ds)))))) k ()) () :=
  cond_of (by simp only [Bool.and_eq_true, ble_iff]) _ _
def inbN (r : List (List AV)) (i : Nat) : Bool := Nat.blt i r.length
theorem w_n (D : Orc) (f : Fr) (K : KS) (j i o q r v m rs) (k : AV → KS → Option β) (l) : onr D f K j i o q r (v, [some (.lst m rs)]) k l = need (v.flat && inbN r i) (oletK (K.set j (some (.lst q (r.set i (putCells (rowOf r i) o [.own m rs])))) ++ [none]) (fun K' => k v K') ()) () := _root_.id rfl
theorem m_inb0 (x r) : inbN (x :: r) 0 = true := by simp [inbN, Nat.blt_eq]
theorem m_inbs (x r i) : inbN (x :: r) (i + 1) = inbN r i := by
  unfold inbN; rw [Bool.eq_iff_iff, Nat.blt_eq, Nat.blt_eq]; simp
theorem m_stC1 (fl ns K n r t j i o v) (k : KS → Option β) (l) : ostoreC true fl ns K n r t j i o v k l = okB (inbN r i) (oput (rowOf r i) o t v AV.closed (fun r' => oletK (K.set j (some (.lst n (r.set i r')))) k ()) ()) () :=
  cond_of blt_iff _ _
theorem m_stC0 (ns K n r t j i o v) (k : KS → Option β) (l) : ostoreC false false ns K n r t j i o v k l = okB (inbN r i) (ostoreB ns K (absorb K (cellsV v)) t j o n i r v k ()) () :=
  cond_of blt_iff _ _
theorem m_puta (cs o m ds ok) (k : List AV → Option β) (l) : oput cs o (.agg m) (.agg ds) ok k l = okB ((m == ds.length) && (Nat.ble (o + m) cs.length && ds.all ok)) (k (putCells cs o ds)) () :=
  cond_of (by simp only [Bool.and_eq_true, beq_iff_eq, ble_iff]) _ _
theorem put1 (cs : List AV) (o : Nat) (v : AV) (ok : AV → Bool) (k : List AV → Option β) : (if o < cs.length ∧ ok v = true then k (cs.set o v) else none) = okB (Nat.blt o cs.length && ok v) (k (cs.set o v)) () :=
  cond_of (by simp only [Bool.and_eq_true, blt_iff]) _ _
theorem m_putb (cs o x ok) (k : List AV → Option β) (l) : oput cs o .one (.b x) ok k l = okB (Nat.blt o cs.length && ok (.b x)) (k (cs.set o (.b x))) () := put1 ..
theorem m_puti (cs o c x ok) (k : List AV → Option β) (l) : oput cs o .one (.i c x) ok k l = okB (Nat.blt o cs.length && ok (.i c x)) (k (cs.set o (.i c x))) () := put1 ..
theorem m_puts (cs o x ok) (k : List AV → Option β) (l) : oput cs o .one (.s x) ok k l = okB (Nat.blt o cs.length && ok (.s x)) (k (cs.set o (.s x))) () := put1 ..
theorem m_putn (cs o ok) (k : List AV → Option β) (l) : oput cs o .one .nil ok k l = okB (Nat.blt o cs.length && ok .nil) (k (cs.set o .nil)) () := put1 ..
theorem m_putsl (cs o j ok) (k : List AV → Option β) (l) : oput cs o .one (.sl j) ok k l = okB (Nat.blt o cs.length && ok (.sl j)) (k (cs.set o (.sl j))) () := put1 ..
theorem m_putimm (cs o n r ok) (k : List AV → Option β) (l) : oput cs o .one (.imm n r) ok k l = okB (Nat.blt o cs.length && ok (.imm n r)) (k (cs.set o (.imm n r))) () := put1 ..
theorem m_pc (cs o ds) : putCells cs o ds = cs.take o ++ ds ++ cs.drop (o + ds.length) := _root_.id rfl
/-! results, loops' states -/
theorem r_fA_n (P z nr S rs f K) : ofinA P z nr S rs .normal f K = ofinN P z S rs nr f K () := _root_.id rfl
theorem r_fA_r (P z nr S rs f K) : ofinA P z nr S rs .ret f K = ofinN P z S rs nr f K () := _root_.id rfl
theorem r_fN0 (P z S rs f K l) : ofinN P z S rs none f K l = obind (oress f K P rs) (fun vs => need (rok (tkl z K).length (one1 vs) && (allC (tkl z K) && Nat.ble z.length (tkl z K).length)) (some (one1 vs, tkl z K)) ()) () := _root_.id rfl
theorem r_fN1 (P z S rs r f K l) : ofinN P z S rs (some r) f K l = obind (oress f K P rs) (fun vs => onorm z [S] r (up f S (one1 vs)) K (fun f K => olet (f S) (fun v => need (rok K.length v && (allC K && Nat.ble z.length K.length)) (some (v, K)) ()) ()) ()) () := _root_.id rfl
theorem e_is0 {α : Type} : (none : Option α).isSome = false := _root_.id rfl
theorem e_is1 {α : Type} (x : α) : (some x).isSome = true := _root_.id rfl
theorem r_tk0 (K) : tkl [] K = [] := by cases K <;> rfl
theorem r_tks (x z e K) : tkl (x :: z) (e :: K) = e :: tkl z K := _root_.id rfl
theorem r_fin_n (P sh rs f K) : ofin P sh rs .normal f K = obind (oress f K P rs) (fun vs => (expo K (one1 vs)).map fun p => fixR sh p.2) () := _root_.id rfl
theorem r_fin_r (P sh rs f K) : ofin P sh rs .ret f K = obind (oress f K P rs) (fun vs => (expo K (one1 vs)).map fun p => fixR sh p.2) () := _root_.id rfl
theorem r_nil (f K P) : oress f K P [] = some [] := _root_.id rfl
theorem r_tmp (f K P t rs) : oress f K P (.tmp t :: rs) = (oress f K P rs).map (f t :: ·) := _root_.id rfl
theorem r_cell (f K P x t rs) : oress f K P (.cell x t :: rs) = obind (oload (tk P t) (cellsAt K (f x)) some ()) (fun v => (oress f K P rs).map (v :: ·)) () := _root_.id rfl
theorem r_map_some {α γ : Type} (g : α → γ) (x : α) : (some x).map g = some (g x) := _root_.id rfl
theorem r_map_none {α γ : Type} (g : α → γ) : (none : Option α).map g = none := _root_.id rfl
theorem r_one (v) : one1 [v] = v := _root_.id rfl
theorem r_two (v w vs) : one1 (v :: w :: vs) = .tup (v :: w :: vs) := _root_.id rfl
theorem r_none : one1 [] = .tup [] := _root_.id rfl
theorem x_b (K x) : expo K (.b x) = some (K, .b x) := _root_.id rfl
theorem x_i (K c x) : expo K (.i c x) = some (K, .i c x) := _root_.id rfl
theorem x_s (K x) : expo K (.s x) = some (K, .s x) := _root_.id rfl
theorem x_nil (K) : expo K .nil = some (K, .nil) := _root_.id rfl
theorem x_imm (K n r) : expo K (.imm n r) = none := by simp [expo]
theorem x_agg (K cs) : expo K (.agg cs) = (expos K cs).map fun p => (p.1, .agg p.2) := by simp [expo]
theorem x_tup (K cs) : expo K (.tup cs) = (expos K cs).map fun p => (p.1, .tup p.2) := by simp [expo]
def expoE (K : KS) (e : Option Ent) (j : Nat) : Option (KS × AV) := match e with | some (.lst n rows) => if cleanRows rows = true then some (K.set j none, .own n rows) else none | _ => none
theorem x_sl (K j) : expo K (.sl j) = expoE K (kg K j) j := by rw [expo]; rfl
theorem x_lst (K n r j) : expoE K (some (.lst n r)) j = cond (cleanRows r) (some (K.set j none, .own n r)) none := cond_of Iff.rfl _ _
theorem x_snil (K) : expos K [] = some (K, []) := by simp [expos]
def exposE (e : Option (KS × AV)) (cs : List AV) : Option (KS × List AV) := match e with | some (K1, c') => (expos K1 cs).map fun p => (p.1, c' :: p.2) | none => none
theorem x_scons (K c cs) : expos K (c :: cs) = exposE (expo K c) cs := by rw [expos]; rfl
theorem x_sE (K c cs) : exposE (some (K, c)) cs = (expos K cs).map fun p => (p.1, c :: p.2) := _root_.id rfl
theorem x_sN (cs) : exposE none cs = none := _root_.id rfl
theorem n_norm (z sl rg f K) (k : Fr → KS → Option β) (l) : onorm z sl rg f K k l = onorm1 rg f K [] (fun f K π => need (ndB π) (onz z π (oletK (kren K π) (fun K' => k (fren f π sl) K') ()) ()) ()) () := _root_.id rfl
theorem n_z0 (π) (q : Option β) (l) : onz [] π q l = q := _root_.id rfl
theorem n_zs (x z π) (q : Option β) (l) : onz (x :: z) π q l = need (pfx (x :: z) π) q () := _root_.id rfl
theorem n_p0 (π) : pfx [] π = true := _root_.id rfl
theorem n_ps (x z y π) : pfx (x :: z) (y :: π) = ((x == y) && pfx z π) := by rw [← beq_eq]; rfl
theorem n_c0 (x : Nat) : ([] : List Nat).contains x = false := _root_.id rfl
theorem n_cs (x y : Nat) (l : List Nat) : (y :: l).contains x = ((x == y) || l.contains x) := List.contains_cons
theorem n_o0 (b : Bool) : (false || b) = b := by cases b <;> rfl
theorem n_o1 (b : Bool) : (true || b) = true := by cases b <;> rfl
theorem n_nil (f K π) (k : Fr → KS → List Nat → Option β) (l) : onorm1 [] f K π k l = k f K π := _root_.id rfl
theorem n_r (i r f K π) (k : Fr → KS → List Nat → Option β) (l) : onorm1 (.r i :: r) f K π k l = onorm1 r f K (π ++ [i]) k () := _root_.id rfl
def onormS (v : AV) (t n : Nat) (r : List Pt) (f : Fr) (K : KS) (π : List Nat) (k : Fr → KS → List Nat → Option β) (_ : Lk (f, k)) : Option β := match v with
    | .sl j => onorm1 r f K (π ++ [j]) k ()
    | .ptr j _ _ => onorm1 r f K (π ++ [j]) k ()
    | .nil => onorm1 r (up f t (.sl K.length)) (K ++ [some (.lst n [])]) (π ++ [K.length]) k ()
    | _ => none
theorem n_s (t n r f K π) (k : Fr → KS → List Nat → Option β) (l) : onorm1 (.s t n :: r) f K π k l = onormS (f t) t n r f K π k () := by simp only [onorm1, onormS]; rfl
theorem n_ssl (j t n r f K π) (k : Fr → KS → List Nat → Option β) (l) : onormS (.sl j) t n r f K π k l = onorm1 r f K (π ++ [j]) k () := _root_.id rfl
theorem n_sptr (j i o t n r f K π) (k : Fr → KS → List Nat → Option β) (l) : onormS (.ptr j i o) t n r f K π k l = onorm1 r f K (π ++ [j]) k () := _root_.id rfl
theorem n_snil (t n r f K π) (k : Fr → KS → List Nat → Option β) (l) : onormS .nil t n r f K π k l = onorm1 r (up f t (.sl K.length)) (K ++ [some (.lst n [])]) (π ++ [K.length]) k () := _root_.id rfl
def onormC (c : Option AV) (r : List Pt) (f : Fr) (K : KS) (π : List Nat) (k : Fr → KS → List Nat → Option β) (_ : Lk (f, k)) : Option β := match c with
    | some (.sl i) => onorm1 r f K (π ++ [i]) k ()
    | some (.ptr i _ _) => onorm1 r f K (π ++ [i]) k ()
    | _ => none
def onormB (e : Option Ent) (o : Nat) (r : List Pt) (f : Fr) (K : KS) (π : List Nat) (k : Fr → KS → List Nat → Option β) (_ : Lk (f, k)) : Option β := match e with
    | some (.box cs) => onormC (cs[o]?) r f K π k ()
    | _ => none
def onormQ (q : Option Nat) (o : Nat) (r : List Pt) (f : Fr) (K : KS) (π : List Nat) (k : Fr → KS → List Nat → Option β) (_ : Lk (f, k)) : Option β := match q with
    | some j => onormB (kg K j) o r f K π k ()
    | none => none
theorem n_c (q o n r f K π) (k : Fr → KS → List Nat → Option β) (l) : onorm1 (.c q o n :: r) f K π k l = onormQ (π[q]?) o r f K π k () := by
  simp only [onorm1, onormQ, onormB, onormC]
  cases π[q]? with
  | none => rfl
  | some j =>
    simp only
    cases kg K j with
    | none => rfl
    | some e =>
      cases e with
      | box cs =>
        simp only
        cases cs[o]? with
        | none => rfl
        | some c => cases c <;> rfl
      | lst _ _ => rfl
theorem n_cQ (j o r f K π) (k : Fr → KS → List Nat → Option β) (l) : onormQ (some j) o r f K π k l = onormB (kg K j) o r f K π k () := _root_.id rfl
theorem n_cB (cs o r f K π) (k : Fr → KS → List Nat → Option β) (l) : onormB (some (.box cs)) o r f K π k l = onormC (cs[o]?) r f K π k () := _root_.id rfl
theorem n_cS (i r f K π) (k : Fr → KS → List Nat → Option β) (l) : onormC (some (.sl i)) r f K π k l = onorm1 r f K (π ++ [i]) k () := _root_.id rfl
theorem n_cP (i a b r f K π) (k : Fr → KS → List Nat → Option β) (l) : onormC (some (.ptr i a b)) r f K π k l = onorm1 r f K (π ++ [i]) k () := _root_.id rfl
def onormH (c : Option AV) (cs : List AV) (t o n : Nat) (r : List Pt) (f : Fr) (K : KS) (π : List Nat) (k : Fr → KS → List Nat → Option β) (_ : Lk (f, k)) : Option β := match c with
    | some (.sl j) => onorm1 r f K (π ++ [j]) k ()
    | some .nil => onorm1 r (up f t (.agg (cs.set o (.sl K.length)))) (K ++ [some (.lst n [])]) (π ++ [K.length]) k ()
    | _ => none
def onormG (v : AV) (t o n : Nat) (r : List Pt) (f : Fr) (K : KS) (π : List Nat) (k : Fr → KS → List Nat → Option β) (_ : Lk (f, k)) : Option β := match v with
    | .agg cs => onormH (cs[o]?) cs t o n r f K π k ()
    | _ => none
theorem n_g (t o n r f K π) (k : Fr → KS → List Nat → Option β) (l) : onorm1 (.g t o n :: r) f K π k l = onormG (f t) t o n r f K π k () := by
  simp only [onorm1, onormG, onormH]
  cases f t with
  | agg cs =>
    simp only
    cases cs[o]? with
    | none => rfl
    | some c => cases c <;> rfl
  | _ => rfl
theorem n_gA (cs t o n r f K π) (k : Fr → KS → List Nat → Option β) (l) : onormG (.agg cs) t o n r f K π k l = onormH (cs[o]?) cs t o n r f K π k () := _root_.id rfl
theorem n_gS (j cs t o n r f K π) (k : Fr → KS → List Nat → Option β) (l) : onormH (some (.sl j)) cs t o n r f K π k l = onorm1 r f K (π ++ [j]) k () := _root_.id rfl
theorem n_gN (cs t o n r f K π) (k : Fr → KS → List Nat → Option β) (l) : onormH (some .nil) cs t o n r f K π k l = onorm1 r (up f t (.agg (cs.set o (.sl K.length)))) (K ++ [some (.lst n [])]) (π ++ [K.length]) k () := _root_.id rfl
theorem n_nd0 : ndB [] = true := _root_.id rfl
theorem n_nds (x l) : ndB (x :: l) = (!l.contains x && ndB l) := _root_.id rfl
theorem n_kr0 (K) : kren K [] = [] := _root_.id rfl
def krn (K : KS) (π : List Nat) (l : List Nat) : KS := l.map fun j => (kg K j).map (renE π)
theorem n_kr (K π) : kren K π = krn K π π := _root_.id rfl
theorem n_krn0 (K π) : krn K π [] = [] := _root_.id rfl
theorem n_krns (K π j l) : krn K π (j :: l) = (kg K j).map (renE π) :: krn K π l := _root_.id rfl
theorem n_reb (π cs) : renE π (.box cs) = .box (rens π cs) := _root_.id rfl
theorem n_rel (π n r) : renE π (.lst n r) = .lst n r := _root_.id rfl
theorem n_rs0 (π) : rens π [] = [] := by simp [rens]
theorem n_rss (π c cs) : rens π (c :: cs) = ren π c :: rens π cs := by simp [rens]
def slO : Option Nat → AV | some i => .sl i | none => .u
def ptrO (i o : Nat) : Option Nat → AV | some j => .ptr j i o | none => .u
theorem n_slO (i) : slO (some i) = .sl i := _root_.id rfl
theorem n_slN : slO none = .u := _root_.id rfl
theorem n_ptrO (i o j) : ptrO i o (some j) = .ptr j i o := _root_.id rfl
theorem n_ptrN (i o) : ptrO i o none = .u := _root_.id rfl
theorem n_resl (π j) : ren π (.sl j) = slO (posn π j) := by simp only [ren]; rfl
theorem n_reptr (π j i o) : ren π (.ptr j i o) = ptrO i o (posn π j) := by simp only [ren]; rfl
theorem n_reagg (π cs) : ren π (.agg cs) = .agg (rens π cs) := by simp [ren]
theorem n_retup (π cs) : ren π (.tup cs) = .tup (rens π cs) := by simp [ren]
theorem n_reclo (π g cs) : ren π (.clo g cs) = .clo g (rens π cs) := by simp [ren]
theorem n_reb' (π x) : ren π (.b x) = .b x := by simp [ren]
theorem n_rei (π c x) : ren π (.i c x) = .i c x := by simp [ren]
theorem n_res (π x) : ren π (.s x) = .s x := by simp [ren]
theorem n_ren (π) : ren π .nil = .nil := by simp [ren]
theorem n_reu (π) : ren π .u = .u := by simp [ren]
theorem n_reimm (π n r) : ren π (.imm n r) = .imm n r := by simp [ren]
theorem n_reiptr (π n r i o) : ren π (.iptr n r i o) = .iptr n r i o := by simp [ren]
theorem n_pos0 (j) : posn [] j = none := _root_.id rfl
theorem n_poss (x l j) : posn (x :: l) j = sel (x == j) (some 0) ((posn l j).map (· + 1)) () := by
  rw [posn]; exact cond_of (by simp) _ _
theorem n_fren (f π l) : fren f π l = frm (frl f π l) := _root_.id rfl
theorem n_frl0 (f π) : frl f π [] = [] := _root_.id rfl
theorem n_frls (f π t l) : frl f π (t :: l) = (t, ren π (f t)) :: frl f π l := _root_.id rfl
theorem n_cn (z la rt f K) : contL z la rt .normal f K = onorm z la.sl la.rg f K (fun f K => some (.inl (f, K))) () := _root_.id rfl
theorem n_cr (z la rt f K) : contL z la rt .ret f K = onorm z rt.sl rt.rg f K (fun f K => some (.inr (.ret, f, K))) () := _root_.id rfl
theorem n_ce (z la rt i f K) : contL z la rt (.exit i) f K = onorm z la.xs la.xr f K (fun f K => some (.inr (.exit i, f, K))) () := _root_.id rfl
theorem f_seq (t x y) : findLoop t (.seq x y) = (findLoop t x).or (findLoop t y) := _root_.id rfl
theorem f_cond (t c x y) : findLoop t (.cond c x y) = (findLoop t x).or (findLoop t y) := _root_.id rfl
theorem f_block (t i x) : findLoop t (.block i x) = findLoop t x := _root_.id rfl
theorem f_loop (t x) : findLoop t (.loop x) = sel (tag x == t) (some x) (findLoop t x) () := _root_.id rfl
theorem f_region (t i o d) : findLoop t (.region i o d) = none := _root_.id rfl
theorem f_skip (t) : findLoop t .skip = none := _root_.id rfl
theorem f_ret (t) : findLoop t .ret = none := _root_.id rfl
theorem f_exit (t i) : findLoop t (.exit i) = none := _root_.id rfl
theorem f_or0 (x : Option Code) : (none : Option Code).or x = x := by cases x <;> rfl
theorem f_ors (x : Code) (y : Option Code) : (some x).or y = some x := _root_.id rfl
/-! arguments lent, results taken over -/
theorem l_0 (K) : lends K [] = [] := by simp [lends]
theorem l_s (K c cs) : lends K (c :: cs) = lend K c :: lends K cs := by simp [lends]
def lendE (e : Option Ent) : AV := match e with | some (.lst n rows) => .imm n (lendRows rows) | _ => .u
theorem l_sl (K j) : lend K (.sl j) = lendE (kg K j) := by simp only [lend]; rfl
theorem l_lst (n r) : lendE (some (.lst n r)) = .imm n (lendRows r) := _root_.id rfl
theorem l_sl' (K j) : lendS K j = lendE (kg K j) := _root_.id rfl
def lendPE (K : KS) (e : Option Ent) (i o : Nat) : AV := match e with
  | some (.lst n rows) => .iptr n (lendRows rows) i o
  | some (.box cs) => .iptr cs.length [cs.map (lendB K)] i o
  | none => .u
theorem l_ptr (K j i o) : lend K (.ptr j i o) = lendPE K (kg K j) i o := by simp only [lend]; rfl
theorem l_pbox (K cs i o) : lendPE K (some (.box cs)) i o = .iptr cs.length [cs.map (lendB K)] i o := _root_.id rfl
theorem l_plst (K n r i o) : lendPE K (some (.lst n r)) i o = .iptr n (lendRows r) i o := _root_.id rfl
theorem l_iptr (K n r i o) : lend K (.iptr n r i o) = .iptr n r i o := by simp [lend]
theorem l_Bsl (K j) : lendB K (.sl j) = lendS K j := _root_.id rfl
theorem l_Bb (K x) : lendB K (.b x) = .b x := _root_.id rfl
theorem l_Bi (K c x) : lendB K (.i c x) = .i c x := _root_.id rfl
theorem l_Bs (K x) : lendB K (.s x) = .s x := _root_.id rfl
theorem l_Bn (K) : lendB K .nil = .nil := _root_.id rfl
theorem l_Bm (K n r) : lendB K (.imm n r) = .imm n r := _root_.id rfl
theorem m_row0 (r : List AV) (rs) : rowOf (r :: rs) 0 = r := _root_.id rfl
theorem l_agg (K cs) : lend K (.agg cs) = .agg (lends K cs) := by simp [lend]
theorem l_tup (K cs) : lend K (.tup cs) = .tup (lends K cs) := by simp [lend]
theorem l_clo (K g cs) : lend K (.clo g cs) = .clo g (lends K cs) := by simp [lend]
theorem l_b (K x) : lend K (.b x) = .b x := by simp [lend]
theorem l_i (K c x) : lend K (.i c x) = .i c x := by simp [lend]
theorem l_st (K x) : lend K (.s x) = .s x := by simp [lend]
theorem l_n (K) : lend K .nil = .nil := by simp [lend]
theorem l_imm (K n r) : lend K (.imm n r) = .imm n r := by simp [lend]
theorem l_rows0 : lendRows [] = [] := by simp [lendRows]
theorem l_rowss (r rs) : lendRows (r :: rs) = lendRow r :: lendRows rs := by simp [lendRows]
theorem l_row0 : lendRow [] = [] := by simp [lendRow]
theorem l_rows (c cs) : lendRow (c :: cs) = lendc c :: lendRow cs := by simp [lendRow]
theorem l_cb (x) : lendc (.b x) = .b x := by simp [lendc]
theorem l_ci (c x) : lendc (.i c x) = .i c x := by simp [lendc]
theorem l_cs (x) : lendc (.s x) = .s x := by simp [lendc]
theorem l_cn : lendc .nil = .nil := by simp [lendc]
theorem l_cimm (n r) : lendc (.imm n r) = .imm n r := by simp [lendc]
theorem l_cown (n r) : lendc (.own n r) = .imm n (lendRows r) := by simp [lendc]
theorem i_own (m n r) : impo m (.own n r) = (.sl m, [some (.lst n r)]) := by simp [impo]
theorem i_agg (m cs) : impo m (.agg cs) = (.agg (impos m cs).1, (impos m cs).2) := by simp [impo]
theorem i_tup (m cs) : impo m (.tup cs) = (.tup (impos m cs).1, (impos m cs).2) := by simp [impo]
theorem i_b (m x) : impo m (.b x) = (.b x, []) := by simp [impo]
theorem i_i (m c x) : impo m (.i c x) = (.i c x, []) := by simp [impo]
theorem i_st (m x) : impo m (.s x) = (.s x, []) := by simp [impo]
theorem i_n (m) : impo m .nil = (.nil, []) := by simp [impo]
theorem i_s0 (m) : impos m [] = ([], []) := by simp [impos]
theorem i_ss (m c cs) : impos m (c :: cs) = ((impo m c).1 :: (impos (m + (impo m c).2.length) cs).1, (impo m c).2 ++ (impos (m + (impo m c).2.length) cs).2) := by simp [impos]
theorem i_fst {α γ : Type} (x : α) (y : γ) : (x, y).1 = x := _root_.id rfl
theorem i_snd {α γ : Type} (x : α) (y : γ) : (x, y).2 = y := _root_.id rfl
/-! slices made -/
def obuild1 (e : Option (List AV)) (k : AV → Option β) (_ : Lk k) : Option β := match e with | some cs => k (.agg cs) | none => none
theorem s_bst (K z p ps l) : obuild K (.st z p) ps k l = obuild1 (xfill K (p[·]?) z ps) k () := _root_.id rfl
theorem s_barr (K z m ps l) : obuild K (.arr z m) ps k l = obuild1 (xfill K (fun i => some (i * m, m)) z ps) k () := _root_.id rfl
theorem s_b1s (cs l) : obuild1 (some cs) k l = k (.agg cs) := _root_.id rfl
def obsl1 (fl : Bool) (ns : List Nat) (e : Option (List AV)) (K : KS) (len m : Nat) (k : AV → KS → Option β) (_ : Lk k) : Option β := match e with
    | some cs => cond (yB fl cs) (match absorb K cs with
      | some (K1, cs) => oletK (K1 ++ [some (.lst m ((rowsOf m len cs).map (nz ns)))]) (fun K' => k (.sl K.length) K') ()
      | none => none) none
    | none => none
theorem s_b0 (fl ns K e m z) (k : AV → KS → Option β) (l) : obslice fl ns K (some (e, m, z)) 0 [] k l = oletK (K ++ [some (.lst m [])]) (fun K' => k (.sl K.length) K') () := _root_.id rfl
theorem s_b (fl ns K e m z len ps) (k : AV → KS → Option β) (l) : obslice fl ns K (some (e, m, z)) (len + 1) ps k l = okB (Nat.ble ((len + 1) * m) 16777216) (obsl1 fl ns (xfill K (fun i => some (i * m, m)) (zeros (len + 1) z) ps) K (len + 1) m k ()) () :=
  cond_of ble_iff _ _
def obsl2 (ns : List Nat) (e : Option (KS × List AV)) (n len m : Nat) (k : AV → KS → Option β) (_ : Lk k) : Option β := match e with
      | some (K1, cs) => oletK (K1 ++ [some (.lst m ((rowsOf m len cs).map (nz ns)))]) (fun K' => k (.sl n) K') ()
      | none => none
theorem s_b1 (fl ns K cs len m) (k : AV → KS → Option β) (l) : obsl1 fl ns (some cs) K len m k l = cond (yB fl cs) (obsl2 ns (absorb K cs) K.length len m k ()) none := _root_.id rfl
theorem y_z0 : zB [] = true := _root_.id rfl
theorem y_zs (l : List Nat) : zB (0 :: l) = zB l := _root_.id rfl
theorem y_zn (n : Nat) (l : List Nat) : zB ((n + 1) :: l) = false := _root_.id rfl
theorem y_B0 (cs) : yB false cs = true := _root_.id rfl
theorem y_B1 (cs) : yB true cs = noS cs := _root_.id rfl
theorem y_n0 : noS [] = true := _root_.id rfl
theorem y_ni (c n l) : noS (.i c n :: l) = noS l := _root_.id rfl
theorem y_nb (x l) : noS (.b x :: l) = noS l := _root_.id rfl
theorem y_ns (x l) : noS (.s x :: l) = noS l := _root_.id rfl
theorem y_nn (l) : noS (.nil :: l) = noS l := _root_.id rfl
theorem y_nm (n r l) : noS (.imm n r :: l) = noS l := _root_.id rfl
theorem y_nl (j l) : noS (.sl j :: l) = false := _root_.id rfl
theorem s_b2 (ns K1 cs n len m) (k : AV → KS → Option β) (l) : obsl2 ns (some (K1, cs)) n len m k l = oletK (K1 ++ [some (.lst m ((rowsOf m len cs).map (nz ns)))]) (fun K' => k (.sl n) K') () := _root_.id rfl
theorem s_f0 (K p cs) : xfill K p cs [] = some cs := _root_.id rfl
def xfill1 (K : KS) (place : Nat → Option (Nat × Nat)) (cs : List AV) (p : Option (Nat × Nat)) (d : Option (List AV)) (rest : List (Nat × AV)) : Option (List AV) := match p, d with
    | some (o, m), some ds => if ds.length = m ∧ o + m ≤ cs.length then xfill K place (putCells cs o ds) rest else none
    | _, _ => none
theorem s_fs (K p cs i v r) : xfill K p cs ((i, v) :: r) = xfill1 K p cs (p i) (acells K v) r := by simp only [xfill]; rfl
theorem s_f1 (K p cs o m ds r) : xfill1 K p cs (some (o, m)) (some ds) r = cond ((ds.length == m) && Nat.ble (o + m) cs.length) (xfill K p (putCells cs o ds) r) none :=
  cond_of (by simp only [Bool.and_eq_true, beq_iff_eq, ble_iff]) _ _
theorem s_aa (K cs) : acells K (.agg cs) = some cs := _root_.id rfl
theorem s_ab (K x) : acells K (.b x) = some [.b x] := _root_.id rfl
theorem s_ai (K c x) : acells K (.i c x) = some [.i c x] := _root_.id rfl
theorem s_as (K x) : acells K (.s x) = some [.s x] := _root_.id rfl
theorem s_an (K) : acells K .nil = some [.nil] := _root_.id rfl
theorem s_aimm (K n r) : acells K (.imm n r) = some [.imm n r] := _root_.id rfl
theorem s_asl (K j) : acells K (.sl j) = cond (kg K j).isSome (some [.sl j]) none := by
  show (if cellK K (.sl j) = true then some [AV.sl j] else none) = _; exact cond_of Iff.rfl _ _
theorem s_z0 (z) : zeros 0 z = [] := by simp [zeros]
theorem s_zs (n z) : zeros (n + 1) z = z ++ zeros n z := by simp [zeros, List.replicate_succ]
theorem s_ab0 (K) : absorb K [] = some (K, []) := _root_.id rfl
theorem s_abb (K x cs) : absorb K (.b x :: cs) = (absorb K cs).map fun p => (p.1, .b x :: p.2) := by simp [absorb, AV.closed]
theorem s_abi (K c x cs) : absorb K (.i c x :: cs) = (absorb K cs).map fun p => (p.1, .i c x :: p.2) := by simp [absorb, AV.closed]
theorem s_abs (K x cs) : absorb K (.s x :: cs) = (absorb K cs).map fun p => (p.1, .s x :: p.2) := by simp [absorb, AV.closed]
theorem s_abn (K cs) : absorb K (.nil :: cs) = (absorb K cs).map fun p => (p.1, .nil :: p.2) := by simp [absorb, AV.closed]
theorem s_abimm (K n r cs) : absorb K (.imm n r :: cs) = (absorb K cs).map fun p => (p.1, .imm n r :: p.2) := by simp [absorb, AV.closed]
def absE (e : Option Ent) (K : KS) (j : Nat) (cs : List AV) : Option (KS × List AV) := match e with
    | some (.lst n rows) => (absorb (K.set j none) cs).map fun p => (p.1, .own n rows :: p.2)
    | _ => none
theorem s_absl (K j cs) : absorb K (.sl j :: cs) = absE (kg K j) K j cs := by simp only [absorb]; rfl
theorem s_abE (K n r j cs) : absE (some (.lst n r)) K j cs = (absorb (K.set j none) cs).map fun p => (p.1, .own n r :: p.2) := _root_.id rfl
theorem s_ro0 (m cs) : rowsOf m 0 cs = [] := _root_.id rfl
theorem s_ros (m l cs) : rowsOf m (l + 1) cs = cs.take m :: rowsOf m l (cs.drop m) := _root_.id rfl
def oapp1 (e : Option (List (List AV) × KS)) (n m b : Nat) (s : AV) (k : AV → KS → Option β) (_ : Lk k) : Option β := match e with
    | some (rows', K1) => match s with
      | .sl j => match kg K1 j with
        | some (.lst n' rows) => if n' = m then need (decide ((rows.length + rows'.length) * (b + 1) ≤ 140737488355328)) (oletK (K1.set j none ++ [some (.lst m (rows ++ rows'))]) (fun K' => k (.sl n) K') ()) () else none
        | _ => none
      | .nil => need (decide (rows'.length * (b + 1) ≤ 140737488355328)) (oletK (K1 ++ [some (.lst m rows')]) (fun K' => k (.sl n) K') ()) ()
      | _ => none
    | none => none
def oapp2 (e : Option Ent) (r : List (List AV)) (K1 : KS) (n m b j : Nat) (k : AV → KS → Option β) (_ : Lk k) : Option β := match e with
        | some (.lst n' rows) => if n' = m then need (decide ((rows.length + r.length) * (b + 1) ≤ 140737488355328)) (oletK (K1.set j none ++ [some (.lst m (rows ++ r))]) (fun K' => k (.sl n) K') ()) () else none
        | _ => none
def oapp (K : KS) (t : Option (TypeId × Nat × List AV)) (bytes : Option Nat) (s x : AV) (k : AV → KS → Option β) (_ : Lk k) : Option β := oappend K t bytes s x k ()
def bndT (P : Program) (t : Option (TypeId × Nat × List AV)) : Option Nat := t.bind fun q => tb P q.1
theorem a_app {P : Program} {D : Orc} {f : Fr} {K : KS} (s x t tx ts) (k : AV → KS → Option β) (l) : oop P D (.call ⟨.builtin .append, List.toArray [s, x], List.toArray (t :: tx :: ts)⟩) f K k l = okB (tnoint P tx && !(isNilC s && isSlA (ev f x))) (oapp K (tse P t) (bndT P (tse P t)) (ev f s) (ev f x) k ()) () := by
  simp only [oop, okB, oapp, bndT]; cases tnoint P tx <;> cases (isNilC s && isSlA (ev f x)) <;> rfl
theorem ai_T (d) : isNilC (.tmp d) = false := _root_.id rfl
theorem ai_N : isNilC (.const (.slice none 0 0)) = true := _root_.id rfl
theorem ai_m (n r) : isSlA (.imm n r) = false := _root_.id rfl
theorem ai_n : isSlA .nil = false := _root_.id rfl
theorem ai_s (j) : isSlA (.sl j) = true := _root_.id rfl
def omakeE (ns : List Nat) (K : KS) (t : Option (TypeId × Nat × List AV)) (bytes : Option Nat) (l c : AV) (k : AV → KS → Option β) (_ : Lk k) : Option β := omake ns K t bytes l c k ()
theorem a_mk {P : Program} {D : Orc} {f : Fr} {K : KS} (t x c) (k : AV → KS → Option β) (l) : oop P D (.makeSlice t x c) f K k l = omakeE (slzE P t) K (tse P t) (bndT P (tse P t)) (ev f x) (ev f c) k () := _root_.id rfl
theorem a_mk1 (ns K e m z b i c) (k : AV → KS → Option β) (l) : omakeE ns K (some (e, m, z)) (some (b + 1)) (.i .i64 i) (.i .i64 c) k l = need (decide (i = c)) (need (mkB i (b + 1)) (oletK (K ++ [some (.lst m (List.replicate i.toNat (nz ns z)))]) (fun K' => k (.sl K.length) K') ()) ()) () := _root_.id rfl
theorem a_eq (i : Int) : (i = i) = True := by simp
theorem a_bnd (P e m z) : bndT P (some (e, m, z)) = tb P e := _root_.id rfl
theorem a_1 (K e m z b s x) (k : AV → KS → Option β) (l) : oapp K (some (e, m, z)) (some (b + 1)) s x k l = oapp1 (srcRows K m x) K.length m b s k () := _root_.id rfl
theorem a_2 (r K1 n m b j) (k : AV → KS → Option β) (l) : oapp1 (some (r, K1)) n m b (.sl j) k l = oapp2 (kg K1 j) r K1 n m b j k () := _root_.id rfl
theorem a_3 (r K1 n m b) (k : AV → KS → Option β) (l) : oapp1 (some (r, K1)) n m b .nil k l = need (rm r.length (b + 1)) (oletK (K1 ++ [some (.lst m r)]) (fun K' => k (.sl n) K') ()) () := by
  simp [oapp1, rm]
theorem a_4 (r' r K1 n m b j) (k : AV → KS → Option β) (l) : oapp2 (some (.lst m r')) r K1 n m b j k l = need (rm (r'.length + r.length) (b + 1)) (oletK (K1.set j none ++ [some (.lst m (r' ++ r))]) (fun K' => k (.sl n) K') ()) () := by
  simp [oapp2, rm]
theorem a_s0 (K m) : srcRows K m .nil = some ([], K) := _root_.id rfl
theorem a_si (K m r) : srcRows K m (.imm m r) = some (r, K) := by simp [srcRows]
def srcE (e : Option Ent) (K : KS) (m k : Nat) : Option (List (List AV) × KS) := match e with
    | some (.lst n rows) => if n = m then some (rows, K.set k none) else none
    | _ => none
theorem a_ss (K m j) : srcRows K m (.sl j) = srcE (kg K j) K m j := _root_.id rfl
theorem a_sE (K m j r) : srcE (some (.lst m r)) K m j = some (r, K.set j none) := by simp [srcE]
end
section
variable (T : Tld)
theorem orc_w (n h) : (orc T (n + 1) h).w = T.wt := _root_.id rfl
theorem orc_z (n h g) : (orc T n h).z g = (lk T.pz g).getD [] := by cases n <;> rfl
theorem orc_v (n h) : (orc T (n + 1) h).v = T.vt := _root_.id rfl
theorem orc_m (n h) : (orc T n h).m = CM T n := by cases n <;> rfl
theorem orc_a (n h) : (orc T n h).a = CA T n := by cases n <;> rfl
theorem orc_q (n h) : (orc T (n + 1) h).q = T.qt := _root_.id rfl
theorem orc_s (n h) : (orc T (n + 1) h).s = T.st := _root_.id rfl
theorem orc_p (n h) : (orc T n h).p = CP T n := by cases n <;> rfl
theorem orc_l (n h) : (orc T n h).l = LP T n h := _root_.id rfl
noncomputable def cpF (T : Tld) (n g : Nat) (fn : Option Func) (a : Option Ann) (args : List AV) : Option AV := match a with
  | some a => match fn with
    | some f => cond (Nat.ble args.length f.ntmps) (ocode T.P (orc T n g) a (f.body.getD .skip) (ofin T.P a.sh f.results.toList) (argsAt args) [] ()) none
    | none => cond (Nat.ble args.length 0) (ocode T.P (orc T n g) a .skip (ofin T.P a.sh []) (argsAt args) [] ()) none
  | none => T.xt g args
noncomputable def caF (T : Tld) (n g : Nat) (fn : Option Func) (a : Option Ann) (K : KS) (args : List AV) : Option (AV × KS) := match a with
  | some a => match fn with
    | some f => cond (a.wr && (Nat.beq K.length a.ak.length && Nat.ble args.length f.ntmps)) (ocode T.P (orc T n g) a (f.body.getD .skip) (ofinA T.P a.ak a.nr f.ntmps f.results.toList) (argsAt args) K ()) none
    | none => cond (a.wr && (Nat.beq K.length a.ak.length && Nat.ble args.length 0)) (ocode T.P (orc T n g) a .skip (ofinA T.P a.ak a.nr 0 []) (argsAt args) K ()) none
  | none => none
theorem CA_eq (n g K args) : CA T (n + 1) g K args = caF T n g (T.P.funcs[g]?) (T.at g) K args := by
  show (match T.at g with | some a => cond _ _ _ | none => none) = _
  unfold caF body resv ntm
  cases T.at g with
  | none => rfl
  | some a => cases T.P.funcs[g]? <;> rfl
theorem caF_eq (n g K args a) (x1 x2 x3 x4 x5 x6 m) (rs : List ResultVar) (c x7 x8 x9 x10 x11 x12 x13) : caF T n g (some ⟨x1, x2, x3, x4, x5, x6, m, List.toArray rs, some c, x7, x8, x9, x10, x11, x12, x13⟩) (some a) K args = cond ((a.nr.isSome || !a.ak.isEmpty) && ((K.length == a.ak.length) && Nat.ble args.length m)) (ocode T.P (orc T n g) a c (ofinA T.P a.ak a.nr m rs) (argsAt args) K ()) none := by rw [← beq_eq]; rfl
theorem e_empc {α : Type} (x : α) (l : List α) : (x :: l).isEmpty = false := _root_.id rfl
theorem e_nf : (!false) = true := _root_.id rfl
noncomputable def cmF (T : Tld) (n g : Nat) (fn : Option Func) (a : Option Ann) (K : KS) (args : List AV) : Option AV := match a with
  | some a => cond (Nat.ble args.length (match fn with | some f => f.ntmps | none => 0)) (ocode T.P (orc T n g) a (match fn with | some f => f.body.getD .skip | none => .skip) (ofin T.P a.sh (match fn with | some f => f.results.toList | none => [])) (argsAt args) K ()) none
  | none => T.mt g K args
theorem CM_eq (n g K args) : CM T (n + 1) g K args = cmF T n g (T.P.funcs[g]?) (T.at g) K args := by
  show (match T.at g with | some a => _ | none => _) = _
  unfold cmF body resv ntm
  cases T.at g with
  | none => rfl
  | some a => cases T.P.funcs[g]? <;> rfl
theorem CM_x (n g K args) (h : T.at g = none) : CM T (n + 1) g K args = T.mt g K args := by rw [CM_eq, h]; rfl
theorem cmF_eq (n g K args a) (x1 x2 x3 x4 x5 x6 m) (rs : List ResultVar) (c x7 x8 x9 x10 x11 x12 x13) : cmF T n g (some ⟨x1, x2, x3, x4, x5, x6, m, List.toArray rs, some c, x7, x8, x9, x10, x11, x12, x13⟩) (some a) K args = cond (Nat.ble args.length m) (ocode T.P (orc T n g) a c (ofin T.P a.sh rs) (argsAt args) K ()) none := _root_.id rfl
theorem CP_eq (n g args) : CP T (n + 1) g args = cpF T n g (T.P.funcs[g]?) (T.at g) args := by
  show (match T.at g with | some a => cond _ _ _ | none => T.xt g args) = _
  unfold cpF body resv ntm
  cases T.at g with
  | none => rfl
  | some a => cases T.P.funcs[g]? <;> rfl
theorem CP_x (n g args) (h : T.at g = none) : CP T (n + 1) g args = T.xt g args := by rw [CP_eq, h]; rfl
theorem cpF_eq (n g args a) (x1 x2 x3 x4 x5 x6 m) (rs : List ResultVar) (c x7 x8 x9 x10 x11 x12 x13) : cpF T n g (some ⟨x1, x2, x3, x4, x5, x6, m, List.toArray rs, some c, x7, x8, x9, x10, x11, x12, x13⟩) (some a) args = cond (Nat.ble args.length m) (ocode T.P (orc T n g) a c (ofin T.P a.sh rs) (argsAt args) [] ()) none := _root_.id rfl
noncomputable def lpG (T : Tld) (n h : Nat) (a : Ann) (c : Option Code) (la : Option LA) (f : Fr) (K : KS) : Option (XE × Fr × KS) := match c, la with
        | some c, some la => run (fun s => ocode T.P (orc T n h) a c (contL a.ak la a.rt) s.1 s.2 ()) (f, K)
        | _, _ => none
noncomputable def lpF (T : Tld) (n h t : Nat) (fn : Option Func) (a : Option Ann) (f : Fr) (K : KS) : Option (XE × Fr × KS) := match a with
  | some a => lpG T n h a (findLoop t (match fn with | some f => f.body.getD .skip | none => .skip)) (lk a.lp t) f K
  | none => none
theorem LP_eq (n h t f K) : LP T (n + 1) h t f K = lpF T n h t (T.P.funcs[h]?) (T.at h) f K := by
  show (match T.at h with | some a => _ | none => none) = _
  unfold lpF
  cases T.at h <;> rfl
theorem lpF_eq (n h t a f K) (x1 x2 x3 x4 x5 x6 m rs c x7 x8 x9 x10 x11 x12 x13) : lpF T n h t (some ⟨x1, x2, x3, x4, x5, x6, m, rs, some c, x7, x8, x9, x10, x11, x12, x13⟩) (some a) f K = lpG T n h a (findLoop t c) (lk a.lp t) f K := _root_.id rfl
theorem lpG_eq (n h a c la f K) : lpG T n h a (some c) (some la) f K = run (fun s => ocode T.P (orc T n h) a c (contL a.ak la a.rt) s.1 s.2 ()) (f, K) := _root_.id rfl
theorem at_eq (g) : T.at g = lk T.ann g := _root_.id rfl
theorem getD_some {α : Type} (x d : α) : (some x).getD d = x := _root_.id rfl
theorem getD_none {α : Type} (d : α) : (none : Option α).getD d = d := _root_.id rfl
end
end Go.Proofs.YtkbilciipmijjaaGreatDoor.Am

/- An evaluator over the abstract machine's values: typed words, and the bundles by which simp runs it. No condition. -/
namespace Go.Proofs.YtkbilciipmijjaaGreatDoor.Am
open Go
set_option linter.unusedVariables false
set_option linter.unusedSimpArgs false

section
variable {α β γ : Type} {c : α → List AV}
theorem t_inb (xs : List α) (i) : inb (xs.map c) i = inb xs i := by simp [inb]
theorem t_ln (xs : List α) : lnR (xs.map c) = ln xs := by simp [lnR, ln]
theorem t_row [Inhabited α] (xs : List α) (i : Int) (h : inb xs i = true) : rowOf (xs.map c) i.toNat = c (gt xs i) := by
  obtain ⟨h0, h1⟩ := inb_iff.1 h
  have h2 : i.toNat < xs.length := by omega
  simp [rowOf, gt, List.getD_eq_getElem?_getD, h2]
theorem t_blt (xs : List α) (i : Int) (h : inb xs i = true) : inbN (xs.map c) i.toNat = true := by
  unfold inbN
  obtain ⟨h0, h1⟩ := inb_iff.1 h
  rw [Nat.blt_eq]; simp; omega
theorem t_set (xs : List α) (i : Int) (x : α) : (xs.map c).set i.toNat (c x) = (xs.set i.toNat x).map c := by rw [List.map_set]
theorem t_cut (xs : List α) (l h : Int) : cut (xs.map c) l h = (cut xs l h).map c := by simp [cut, List.map_take, List.map_drop]
theorem t_insB (xs : List α) (i : Int) (ys : List α) (b : Nat) : insB (xs.map c) i (ys.map c) b = insB xs i ys b := by simp [insB]
theorem t_insL (xs : List α) (i : Int) (ys : List α) : insL (xs.map c) i (ys.map c) = (insL xs i ys).map c := by simp [insL, List.map_take, List.map_drop]
theorem t_app (xs ys : List α) : xs.map c ++ ys.map c = (xs ++ ys).map c := by simp
theorem t_len (xs : List α) : (xs.map c).length = xs.length := by simp
theorem t_inbset (xs : List α) (n : Nat) (x : α) (i : Int) : inb (xs.set n x) i = inb xs i := by simp [inb]
theorem t_gtset [Inhabited α] (xs : List α) (x : α) (i : Int) (h : inb xs i = true) : gt (xs.set i.toNat x) i = x := by
  obtain ⟨h0, h1⟩ := inb_iff.1 h
  have h2 : i.toNat < xs.length := by omega
  simp [gt, List.getD_eq_getElem?_getD, h2]
theorem t_setset (xs : List α) (n : Nat) (x y : α) : (xs.set n x).set n y = xs.set n y := by simp
theorem t_bindmap (o : Option α) (g : β → γ) (f : α → Option β) : (o.bind f).map g = o.bind fun x => (f x).map g := by cases o <;> rfl
theorem t_needmap (b : Bool) (o : Option β) (g : β → γ) (l) : (need b o l).map g = need b (o.map g) () := by cases b <;> rfl
theorem t_condmap (b : Bool) (x y : Option β) (g : β → γ) : (cond b x y).map g = cond b (x.map g) (y.map g) := by cases b <;> rfl
theorem t_evomap {ρ δ : Type} (p : ρ → Option β) (q : δ → Option β) (x) (g : β → γ) : (evO p q x).map g = evO (fun r => (p r).map g) (fun r => (q r).map g) x := by cases x <;> rfl
theorem t_bind_some (x : α) (f : α → Option β) : (some x).bind f = f x := _root_.id rfl
theorem t_bind_bind (o : Option α) (f : α → Option β) (g : β → Option γ) : (o.bind f).bind g = o.bind fun x => (f x).bind g := by cases o <;> rfl
theorem t_sum_l {α' β' : Type} (f : α → α') (g : β → β') (x) : Sum.map f g (.inl x) = .inl (f x) := _root_.id rfl
theorem t_sum_r {α' β' : Type} (f : α → α') (g : β → β') (x) : Sum.map f g (.inr x) = .inr (g x) := _root_.id rfl
end
/-- xs, told as rows. -/
class EncR {α : Type} (c : α → List AV) (r : List AV) (x : outParam α) : Prop where
  eq : r = c x
class EncL {α : Type} (c : α → List AV) (R : List (List AV)) (xs : outParam (List α)) : Prop where
  eq : R = xs.map c
instance {α : Type} (c : α → List AV) (x : α) : EncR c (c x) x := ⟨rfl⟩
instance {α : Type} (c : α → List AV) (xs : List α) : EncL c (xs.map c) xs := ⟨rfl⟩
instance {α : Type} (c : α → List AV) : EncL c [] [] := ⟨rfl⟩
instance {α : Type} (c : α → List AV) (r R x xs) [h : EncR c r x] [H : EncL c R xs] : EncL c (r :: R) (x :: xs) := ⟨by rw [h.eq, H.eq]; rfl⟩
instance {α : Type} (c : α → List AV) (R S xs ys) [h : EncL c R xs] [H : EncL c S ys] : EncL c (R ++ S) (xs ++ ys) := ⟨by rw [h.eq, H.eq]; simp⟩
instance {α : Type} (c : α → List AV) (R xs) (i : Nat) (r x) [h : EncL c R xs] [H : EncR c r x] : EncL c (R.set i r) (xs.set i x) := ⟨by rw [h.eq, H.eq, List.map_set]⟩
instance {α : Type} (c : α → List AV) (n : Nat) (r x) [H : EncR c r x] : EncL c (List.replicate n r) (List.replicate n x) := ⟨by rw [H.eq, List.map_replicate]⟩
theorem t_apps {α : Type} {c : α → List AV} (xs : List α) (R) {ys} [h : EncL c R ys] : xs.map c ++ R = (xs ++ ys).map c := by rw [h.eq]; simp
theorem t_setR {α : Type} {c : α → List AV} (xs : List α) (n : Nat) (R) {x} [h : EncR c R x] : (xs.map c).set n R = (xs.set n x).map c := by rw [h.eq, List.map_set]
theorem t_clean {α : Type} {c : α → List AV} (h : ∀ x, cleans (c x) = true) (xs : List α) : cleanRows (xs.map c) = true := by
  induction xs with
  | nil => simp [cleanRows]
  | cons x xs ih => simp [cleanRows, h, ih]
theorem t_flat {α : Type} {c : α → List AV} (h : ∀ x, (c x).all AV.scal = true) (xs : List α) : flatRows (xs.map c) = true := by
  induction xs with
  | nil => rfl
  | cons x xs ih => unfold flatRows at ih ⊢; rw [List.map_cons, List.all_cons, h, ih]; rfl
theorem t_lend {α : Type} {c c' : α → List AV} (h : ∀ x, lendRow (c x) = c' x) (xs : List α) : lendRows (xs.map c) = xs.map c' := by
  induction xs with
  | nil => simp [lendRows]
  | cons x xs ih => simp [lendRows, h, ih]

theorem t_empO {α : Type} {c : α → List AV} (xs : List α) (n b : Nat) (m) : oemp (xs.map c).isEmpty (some (AV.own n [])) (need (rm (0 + xs.length) b) (some (AV.own n (xs.map c))) m) = need (rm (0 + xs.length) b) (some (AV.own n (xs.map c))) () := by
  cases xs with
  | nil => simp [oemp, oeq, need, rm]
  | cons r R => rfl
/-! the bundles -/
set_option linter.defProp false
set_option maxRecDepth 100000
def evA := aI @c_U0 <| aI @c_U1 <| aI @b_done <| aI @b_one <| aI @b_one1 <| aI @b_alt <| aI @c_F0 <| aI @c_F1 <| aI @c_nilB <| aI @c_consB <| aI @c_consBn <| aI @c_gB <| aI @c_gnB <| aI @oB_o <| aI @oB_c <| aI @vc_call <| aI @vc_bi <| aI @vc_move <| aI @vc_asg <| aI @vc_load <| aI @vc_store <| aI @vc_fa <| aI @vc_ia <| aI @vc_ext <| aI @vc_bin <| aI @vc_nil <| aI @vc_un <| aI @vc_pick <| aI @vc_build <| aI @vc_bs <| aI @vc_alloc <| aI @vc_box <| aI @vc_slc <| aI @vc_six <| aI @vc_cv <| aI @c_D0 <| aI @c_D1 <| aI @c_J0 <| aI @oA_build <| aI @oA_bslice <| aI @oA_nil <| aI @oA_un <| aI @oA_pick <| aI @oA_alloc <| aI @oA_slc <| aI @oA_six <| aI @oA_bi <| aI @oA_cv <| aI @s_v <| aI @v_j <| aI @v_s <| aI @v_n0 <| aI @v_ns <| aI @cmF_eq <| aI @m_obind <| aI @n_c <| aI @n_cQ <| aI @n_cB <| aI @n_cS <| aI @n_cP <| aI @n_g <| aI @n_gA <| aI @n_gS <| aI @n_gN <| aI @c_skip <| aI @c_ret <| aI @c_exit <| aI @c_seq <| aI @c_cond <| aI @c_block <| aI @c_region <| aI @c_regN0 <| aI @c_regN1 <| aI @c_regA0 <| aI @c_regA1 <| aI @c_Ns <| aI @c_Nt <| aI @w_set <| aI @n_z0 <| aI @n_zs <| aI @r_fA_n <| aI @r_fA_r <| aI @c_nilA <| aI @c_consA <| aI @c_consAn <| aI @oA_move <| aI @oA_assign <| aI @oA_load <| aI @oA_store <| aI @oA_fa <| aI @oA_ia <| aI @oA_ext <| aI @oA_bin <| aI @oA_box <|  aI @oA_call <| aI @oA_bslice <| aI @o_mki <| aI @o_pan <| aI @c_drawn <| aI @c_E0 <| aI @c_E1 <| aI @c_drT0 <| aI @c_drT1 <| aI @t_done <| aI @t_one <| aI @t_one1 <| aI @t_alt <| aI @c_reg <|
  aI @c_reg0 <| aI @c_reg1 <| aI @c_loop <| aI @c_loop1 <| aI @c_then_n <| aI @c_then_r <| aI @c_then_e <| aI @c_blk_n <| aI @c_blk_r <| aI @c_blk_e <|
  aI @c_nil <| aI @c_cons <| aI @c_consn <| aI @c_g <| aI @c_gn <| aI @c_gd1 <| aI @c_gd0 <| aI @c_gdu <|
  aI @c_tag_region <| aI @c_tag_seq <| aI @c_tag_cond <| aI @c_tag_block <| aI @c_tag_loop <|
  aI @o_move <| aI @o_assign <| aI @o_pick <| aI @o_alloc <| aI @o_box <| aI @o_build <| aI @o_bslice <| aI @o_load <| aI @o_store <| aI @o_bin <| aI @o_bini <| aI @o_binb <| aI @o_bins <| aI @o_binn <| aI @o_mkf <| aI @o_cvb <| aI @o_cvt <| aI @o_slc <| aI @o_six <| aI @o_nil <| aI @b_nil1 <| aI @b_nil2 <| aI @b_nil3 <| aI @o_un <|
  aI @o_fa <| aI @o_ia <| aI @o_ext <| aI @o_len <| aI @o_min <| aI @o_max <| aI @o_call <| aI @o_ocall <| aI @a_app <| aI @a_mk <|
  aI @e_up <| aI @e_wipe <| aI @e_frm_nil <| aI @e_frm_cons <| aI @e_args_nil <| aI @e_args_zero <| aI @e_args_succ <| aI @e_ev_tmp <| aI @e_ev_const <| aI @e_ev_func <|
  aI @e_cond_t <| aI @e_cond_f <| aI @e_need_t <| aI @e_obind_some <| aI @e_lk_nil <| aI @e_lk_cons <|
  aI @r_fin_n <| aI @r_fin_r <| aI @n_norm <| aI @n_nil <| aI @n_r <| aI @n_s <| aI @n_cn <| aI @n_cr <| aI @n_ce <|
  aI @f_seq <| aI @f_cond <| aI @f_block <| aI @f_loop <| aI @f_region <| aI @f_skip <| aI @f_ret <| aI @f_exit <| aI @f_or0 <| aI @f_ors <|
  aI @getD_some <| aI @getD_none <| aI @cpF_eq <| aI @caF_eq <| aI @lpF_eq @i_fst
def evB := aI @e_obind_need <| aI @e_obind_none <| aI @c_Z0 <| aI @c_Z1 <| aI @c_Zn <| aI @c_Zs <| aI @c_Zv <| aI @c_Ze <| aI @y_z0 <| aI @y_zs <| aI @y_zn <| aI @y_B0 <| aI @y_B1 <| aI @y_n0 <| aI @y_ni <| aI @y_nb <| aI @y_ns <| aI @y_nn <| aI @y_nm <| aI @y_nl <| aI @c_U0 <| aI @c_U1 <| aI @b_done <| aI @b_one <| aI @b_one1 <| aI @b_alt <| aI @c_F0 <| aI @c_F1 <| aI @c_D0 <| aI @c_D1 <| aI @c_J0 <| aI @c_J1 <| aI @c_K <| aI @oB_c <| aI @x_imm <| aI @x_sN <| aI @s_v <| aI @v_j <| aI @v_s <| aI @v_n0 <| aI @v_ns <| aI @cmF_eq <| aI @p_0 <| aI @p_e <| aI @p_s <| aI @p_n <| aI @p_z <| aI @p_a <| aI @p_i0 <| aI @p_is <| aI @p_nn <| aI @p_n0 <| aI @p_ni <| aI @p_nb <| aI @p_ns <| aI @p_nm <| aI @orc_z <| aI @e_lk_nil <| aI @e_lk_cons <| aI @getD_none <| aI @getD_some <| aI @n_c <| aI @n_cQ <| aI @n_cB <| aI @n_cS <| aI @n_cP <| aI @n_g <| aI @n_gA <| aI @n_gS <| aI @n_gN <| aI @n_nil <| aI @n_r <| aI @n_s <| aI @c_jbind <| aI @e_sel_t <| aI @e_sel_f <| aI @e_cond_t <| aI @e_cond_f <| aI @e_need_t <| aI @e_obind_some <| aI @c_reg0 <| aI @c_reg1 <| aI @c_loop1 <| aI @c_gd1 <| aI @c_gd0 <| aI @f_or0 <| aI @f_ors <| aI @getD_some <| aI @getD_none <| aI @c_drT0 <| aI @c_drT1 <| aI @t_one1 <| aI @t_done <| aI @oeq_self <| aI @c_E0 <| aI @c_E1 <| aI @c_M <| aI @ai_T <| aI @ai_N <| aI @ai_m <| aI @ai_n <| aI @ai_s <| aI @nB_bs <| aI @nB_bS <| aI @nB_app <| aI @nB_len <| aI @nB_call <| aI @nB_move <| aI @nB_asg <| aI @nB_load <| aI @nB_store <| aI @nB_fa <| aI @nB_ia <| aI @nB_build <| aI @nB_bin <| aI @nB_nil <| aI @nB_un <| aI @nB_ext <| aI @nB_box <| aI @nB_alloc <| aI @nB_slice <| aI @c_regN0 <| aI @c_regN1 <| aI @n_z0 <| aI @n_zs <| aI @n_p0 <| aI @n_ps <| aI @n_c0 <| aI @n_cs <| aI @n_o0 <| aI @n_o1 <| aI @s_w <| aI @w_j <| aI @w_s <| aI @w_r0 <| aI @w_rs <| aI @w_rsl <| aI @w_ragg <| aI @w_ri <| aI @w_rb <| aI @w_rst <| aI @w_rn <| aI @w_rm <| aI @w_a0 <| aI @w_as <| aI @w_asl <| aI @w_aagg <| aI @w_ai <| aI @w_ab <| aI @w_ast <| aI @w_an <| aI @w_am <| aI @w_ac <| aI @w_rc <| aI @w_ix <| aI @w_k0 <| aI @w_ks <| aI @w_p0 <| aI @w_ps <| aI @v_l0 <| aI @v_ls <| aI @w_rpt <| aI @w_apt <| aI @w_pB <| aI @w_d0 <| aI @w_ds <| aI @w_x0 <| aI @w_x1 <| aI @w_x3 <| aI @w_x4 <| aI @w_x5 <| aI @w_x6 <| aI @w_x7 <| aI @w_x8 <| aI @w_x9 <| aI @w_ci <| aI @w_cb <| aI @w_cs <| aI @w_cn <| aI @w_cm <| aI @w_csl <| aI @w_cpt <| aI @w_cag <| aI @w_ctu <| aI @w_c0 <| aI @w_cc <| aI @w_oi <| aI @w_ob <| aI @w_os <| aI @w_on <| aI @w_om <| aI @w_osl <| aI @w_opt <| aI @w_oag <| aI @w_otu <| aI @w_o0 <| aI @w_oc <| aI @w_li <| aI @w_lb <| aI @w_lst <| aI @w_ln <| aI @w_lm <| aI @w_lc0 <| aI @w_lcs <| aI @w_l0 <| aI @w_ls <| aI @w_lbx <| aI @r_fN0 <| aI @r_fN1 <| aI @e_is0 <| aI @e_is1 <| aI @Bool.true_or <| aI @Bool.false_or <| aI @w_si <| aI @w_sb <| aI @w_ss <| aI @w_fi <| aI @w_fb <| aI @w_fs <| aI @w_ft <| aI @w_o1 <| aI @w_p <| aI @w_jl <| aI @w_x <| aI @w_n <| aI @w_set <| aI @r_tk0 <| aI @r_tks <| aI @caF_eq <| aI @e_empc <| aI @e_nf <| aI @c_regA0 <| aI @c_regA1 <| aI @s_t <| aI @s_q <| aI @s_f <| aI @q_sl <| aI @q_lst <| aI @q_some <| aI @s_sl <| aI @s_lst <| aI @s_some <| aI @s_ints <| aI @c_ord0 <| aI @c_ord1 <| aI @c_pk0 <| aI @c_pks <| aI @c_pkO <| aI @c_ordP <| aI @m_at0 <| aI @m_ats <| aI @m_atA <| aI @m_obind <| aI @cpF_eq <| aI @lpF_eq <| aI @e_lk_nil <| aI @c_tag_region <|
  aI @e_ble <| aI @e_blt <| aI @e_dt <| aI @e_df <| aI @m_inb0 <| aI @m_inbs <| aI @e_olet <| aI @e_oletK <| aI @e_cv_bool <| aI @e_cv_int <| aI @e_cv_str <| aI @e_cv_nil <| aI @e_obind_map <| aI @c_cnd <| aI @c_asB <| aI @c_gd <| aI @o_who <|
  aI @b_and <| aI @b_bor <| aI @b_xor <| aI @b_shl <| aI @b_shr <| aI @b_add <| aI @b_sub <| aI @b_mul <| aI @b_quo <| aI @b_rem <| aI @b_eql <| aI @b_neq <| aI @b_lss <| aI @b_leq <| aI @b_gtr <| aI @b_geq <| aI @b_not <| aI @b_neg <|
  aI @b_eqa <| aI @b_nea <| aI @b_eqE <| aI @b_eqb <| aI @b_neb <| aI @m_and0 <| aI @b_sadd <| aI @b_seql <| aI @b_sneq <| aI @m_tup <| aI @m_tupE <| aI @b_ce0 <| aI @b_cei <| aI @b_ceb <| aI @b_ces <| aI @m_idxa <| aI @m_idxA <| aI @m_slc1 <| aI @m_slc2 <| aI @m_slc3 <| aI @m_sls1 <| aI @m_sls2 <| aI @m_sls3 <| aI @m_six <| aI @m_arrs <|
  aI @b_pickb <| aI @b_pickt <| aI @b_pickf <| aI @c_jbs <| aI @c_jcond <| aI @c_and <| aI @c_or <| aI @c_nand <| aI @e_obind_lmap <| aI @b_min <| aI @b_max <|
  aI @m_kg0 <| aI @m_kgs <| aI @m_set0 <| aI @m_sets <| aI @m_app <| aI @m_app0 <| aI @m_len0 <| aI @m_lens <| aI @m_drop0 <| aI @m_drops <| aI @m_take0 <| aI @m_takes <|
  aI @m_cvi' <| aI @m_bst <| aI @m_bstl <| aI @m_bsts <| aI @bo_nil <| aI @bo_cons <| aI @m_isn <| aI @m_isnn <| aI @m_empS <| aI @m_empO <| aI @m_lenimm <| aI @m_lennil <| aI @m_lensl <| aI @m_lenlst <| aI @m_lenstr <| aI @m_addi <| aI @m_add <| aI @m_addE <| aI @m_idxi <| aI @m_idx <| aI @m_idxE <|
  aI @m_ci <| aI @m_c <| aI @m_cbox <| aI @m_clst <| aI @m_map0 <| aI @m_maps <| aI @m_ldb <| aI @m_ldi <| aI @m_lds <| aI @m_ldimm <| aI @m_ldnil <| aI @m_ldown <|
  aI @m_load1 <| aI @m_loada <| aI @m_loadA <| aI @m_alloc <| aI @m_ok <| aI @m_boxa <| aI @m_boxi <| aI @m_all0 <| aI @m_alls <|
  aI @m_ckb <| aI @m_cki <| aI @m_cks <| aI @m_ckn <| aI @m_ckimm <| aI @m_ckclo <| aI @m_cksl <| aI @m_ckptr <| aI @m_is <| aI @m_clb <| aI @m_cli <| aI @m_cls <| aI @m_cln <| aI @m_climm <| aI @m_and <|
  aI @m_store <| aI @m_storeb <| aI @m_storel <| aI @m_stC1 <| aI @m_stC0 <| aI @m_ab <| aI @m_cva <| aI @m_cvi <| aI @m_cvb <| aI @m_cvs <| aI @m_cvn <| aI @m_cvm <| aI @m_cvl <| aI @m_clsl <| aI @m_cqb <| aI @m_cqi <| aI @m_cqs <| aI @m_cqn <| aI @m_cqm <| aI @nz_0 <| aI @nz_n <| aI @nz_c <| aI @nz_b <| aI @nz_i <| aI @nz_s <| aI @nz_l <| aI @nz_o <| aI @nz_m <| aI @fx_z <| aI @fx_n <| aI @fx_a <| aI @fx_0 <| aI @fx_1 <| aI @fx_2 <| aI @fx_Z <| aI @fx_Z0 <| aI @m_fta <| aI @m_ftl <| aI @m_puta <| aI @m_putb <| aI @m_puti <| aI @m_puts <| aI @m_putn <| aI @m_putsl <| aI @m_putimm <| aI @m_pc <|
  aI @r_nil <| aI @r_tmp <| aI @r_cell <| aI @r_map_some <| aI @r_map_none <| aI @r_one <| aI @r_two <| aI @r_none <| aI @x_b <| aI @x_i <| aI @x_s <| aI @x_nil <| aI @x_agg <| aI @x_tup <| aI @x_sl <| aI @x_lst <| aI @x_snil <| aI @x_scons <| aI @x_sE <|
  aI @n_ssl <| aI @n_sptr <| aI @n_snil <| aI @n_nd0 <| aI @n_nds <| aI @n_kr <| aI @n_krn0 <| aI @n_krns <| aI @n_reb <| aI @n_rel <| aI @n_rs0 <| aI @n_rss <| aI @n_slO <| aI @n_slN <| aI @n_ptrO <| aI @n_ptrN <|
  aI @n_resl <| aI @n_reptr <| aI @n_reagg <| aI @n_retup <| aI @n_reclo <| aI @n_reb' <| aI @n_rei <| aI @n_res <| aI @n_ren <| aI @n_reu <| aI @n_reimm <| aI @n_reiptr <| aI @n_pos0 <| aI @n_poss <| aI @n_fren <| aI @n_frl0 <| aI @n_frls <|
  aI @l_0 <| aI @l_s <| aI @l_sl <| aI @l_lst <| aI @l_sl' <| aI @l_ptr <| aI @l_pbox <| aI @l_plst <| aI @l_iptr <| aI @l_Bsl <| aI @l_Bb <| aI @l_Bi <| aI @l_Bs <| aI @l_Bn <| aI @l_Bm <| aI @m_row0 <| aI @l_agg <| aI @l_tup <| aI @l_clo <| aI @l_b <| aI @l_i <| aI @l_st <| aI @l_n <| aI @l_imm <| aI @l_rows0 <| aI @l_rowss <| aI @l_row0 <| aI @l_rows <| aI @l_cb <| aI @l_ci <| aI @l_cs <| aI @l_cn <| aI @l_cimm <| aI @l_cown <|
  aI @i_own <| aI @i_agg <| aI @i_tup <| aI @i_b <| aI @i_i <| aI @i_st <| aI @i_n <| aI @i_s0 <| aI @i_ss <| aI @i_fst <| aI @i_snd <|
  aI @s_bst <| aI @s_barr <| aI @s_b1s <| aI @s_b0 <| aI @s_b <| aI @s_b1 <| aI @s_b2 <| aI @s_f0 <| aI @s_fs <| aI @s_f1 <| aI @s_aa <| aI @s_ab <| aI @s_ai <| aI @s_as <| aI @s_an <| aI @s_aimm <| aI @s_asl <| aI @s_z0 <| aI @s_zs <|
  aI @s_ab0 <| aI @s_abb <| aI @s_abi <| aI @s_abs <| aI @s_abn <| aI @s_abimm <| aI @s_absl <| aI @s_abE <| aI @s_ro0 <| aI @s_ros <|
  aI @a_bnd <| aI @a_mk1 <| aI @a_eq <| aI @c_gdu <| aI @a_1 <| aI @a_2 <| aI @a_3 <| aI @a_4 <| aI @a_s0 <| aI @a_si <| aI @a_ss @a_sE
def evT := aI @t_inb <| aI @t_empO <| aI @t_cut <| aI @t_ln <| aI @t_row <| aI @t_blt <| aI @t_setR <| aI @t_apps <| aI @w64_eq <| aI @t_len <| aI @t_inbset <| aI @t_gtset <| aI @t_setset <| aI @evO_r <| aI @evO_b <| aI @t_bindmap <| aI @t_needmap <| aI @t_condmap <| aI @t_bind_some <| aI @t_evomap <| aI @t_bind_bind <| aI @t_sum_l @t_sum_r
/-- What a condition asked twice needs. -/
def evN := aI @e_need_t <| aI @List.contains_nil <| aI @Bool.not_false <| aI @Bool.and_true <| aI @List.length_append <| aI @List.length_cons <| aI @List.length_nil <| aI @Nat.zero_add <| aI @need_comm <| @oeq_self
end Go.Proofs.YtkbilciipmijjaaGreatDoor.Am
