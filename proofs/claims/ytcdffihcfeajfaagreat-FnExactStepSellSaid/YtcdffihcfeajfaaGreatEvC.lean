import Derived.Test.YtcdffihcfeajfaaGreatEvA
namespace Go.Proofs.YtcdffihcfeajfaaGreat.Am
open Go
set_option linter.unusedVariables false
set_option linter.unusedSimpArgs false
section
variable {β : Type} {r : β}
theorem Q6 {b : Bool} {q : Option β} {l} (h : Q8 b q l = some r) : b = true ∧ q = some r := by
 cases b with
 | false => cases h
 | true => exact ⟨rfl, h⟩
theorem Qsf {b : Bool} {p q : Option β} (h : cond b p q = some r) : (b = true → p = some r) ∧ (b = false → q = some r) := by
 cases b with
 | false => exact ⟨fun h' => by (cases h'), fun _ => h⟩
 | true => exact ⟨fun _ => h, fun h' => by cases h'⟩
theorem VE {p : Prop} [Decidable p] {q : Option β} (h : (if p then q else none) = some r) : p ∧ q = some r := by
 by_cases hp : p
 ·rw [if_pos hp] at h; exact ⟨hp, h⟩
 ·rw [if_neg hp] at h; cases h
theorem JY {p : Prop} [Decidable p] {q : Prop} (hp : p) (hq : q) : (if p then q else False) := by rw [if_pos hp]; exact hq
theorem Qxd (a b : Int) : (a == b) = decide (a = b) := by by_cases h : a = b <;> simp [h]
theorem QvU (a b : Int) : (a != b) = !decide (a = b) := by by_cases h : a = b <;> simp [h]
theorem QvR (a b : List UInt8) : (a == b) = decide (a = b) := by by_cases h : a = b <;> simp [h]
theorem QvX (a b : List UInt8) : (a != b) = !decide (a = b) := by by_cases h : a = b <;> simp [h]
theorem QrG {te : Option (List CK)} {xs ys : List AV} {k : Bool → Option β} {l} (h : Qxy te xs ys k l = some r) : QnN te xs ys (fun v => k v = some r) () := by
 unfold Qxy at h
 unfold QnN
 split at h
 ·split at h
  ·rename_i hb; simp only [hb]; exact h
  ·cases h
 ·cases h
theorem Qxx {t : TI} {x : AV} {lo hi : Option AV} {k : AV → Option β} {l} (h : QfJ t x lo hi k l = some r) : QoK t x lo hi (fun v => k v = some r) () := by
 unfold QfJ at h
 unfold QoK
 split at h
 ·obtain ⟨hm, h⟩ := VE h
  simp only
  rw [if_pos hm]
  split at h
  ·rename_i h1 h2
   simp only [h1, h2]
   obtain ⟨h3, h4⟩ := Q6 h
   exact ⟨by simpa [slB] using h3, h4⟩
  ·cases h
 ·simp only
  split at h
  ·rename_i h1 h2
   simp only [h1, h2]
   obtain ⟨h3, h4⟩ := Q6 h
   exact ⟨by simpa [slB] using h3, h4⟩
  ·cases h
 ·cases h
theorem Qvu {t : TI} {x i : AV} {k : AV → Option β} {l} (h : Qun t x i k l = some r) : Qol t x i (fun v => k v = some r) () := by
 unfold Qun at h
 unfold Qol
 split at h
 ·obtain ⟨h3, h4⟩ := Q6 h
  exact ⟨Qea.1 h3, h4⟩
 ·cases h
theorem QwH {te : Option (List CK)} {op : BinOp} {x y : AV} {k : AV → Option β} {l} (h : Zr te op x y k l = some r) : QpC te op x y (fun v => k v = some r) () := by
 unfold Zr at h
 unfold QpC
 split at h
 ·simp only
  split at h
  ·exact QrG h
  ·exact QrG h
  ·cases h
 ·simp only
  split at h
  ·exact h
  ·exact h
  ·cases h
 ·simp only
  obtain ⟨hc, h⟩ := VE h
  rw [if_pos hc]
  split at h <;> simp only <;> first
   | exact h
   | (rw [Qxd]; exact h)
   | (rw [QvU]; exact h)
   | (obtain ⟨h1, h2⟩ := Q6 h; exact ⟨by simpa using h1, h2⟩)
   | cases h
 ·simp only
  split at h <;> simp only <;> first
   | (rw [QvR]; exact h)
   | (rw [QvX]; exact h)
   | (obtain ⟨h1, h2⟩ := Q6 h; exact ⟨by simpa using h1, h2⟩)
   | cases h
 ·cases h
theorem QzO {op : UnOp} {x : AV} {k : AV → Option β} {l} (h : oun op x k l = some r) : xun op x (fun v => k v = some r) () := by
 unfold oun at h
 unfold xun
 split at h
 ·exact h
 ·exact h
 ·cases h
theorem Quu {c x y : AV} {k : AV → Option β} {l} (h : QiS c x y k l = some r) : QiQ c x y (fun v => k v = some r) () := by
 unfold QiS at h
 unfold QiQ
 split at h
 ·rename_i b
  cases b with
  | true => exact h
  | false => exact h
 ·cases h
variable {K : KS}
theorem Qxb {t : TI} {x : AV} {k : AV → Option β} {l} (h : Qpx K t x k l = some r) : QoQ K t x (fun v => k v = some r) () := by
 unfold Qpx at h
 unfold QoQ
 split at h
 ·exact h
 ·exact h
 ·split at h
  ·rename_i e he; simp only [he]; exact h
  ·cases h
 ·exact h
 ·exact h
 ·cases h
theorem Qvz {x : AV} {o : Option (Nat × TK)} {k : AV → Option β} {l} (h : Qsu K x o k l = some r) : QoP K x o (fun v => k v = some r) () := by
 unfold Qsu at h
 unfold QoP
 split at h
 ·split at h
  ·rename_i e he; simp only [he]; exact h
  ·cases h
 ·exact h
 ·cases h
theorem QxG {t : TI} {x i : AV} {k : AV → Option β} {l} (h : QoH K t x i k l = some r) : QpD K t x i (fun v => k v = some r) () := by
 unfold QoH at h
 unfold QpD
 split at h
 ·obtain ⟨hm, h⟩ := VE h
  obtain ⟨h1, h2⟩ := Q6 h
  exact JY hm ⟨Qea.1 h1, h2⟩
 ·split at h
  ·rename_i e he
   obtain ⟨hm, h⟩ := VE h
   simp only [he]
   obtain ⟨h1, h2⟩ := Q6 h
   exact JY hm ⟨Qea.1 h1, h2⟩
  ·cases h
 ·split at h
  ·rename_i e he
   simp only [he]
   obtain ⟨h1, h2⟩ := Q6 h
   exact ⟨by simpa [QsP] using h1, h2⟩
  ·cases h
 ·cases h
theorem QoC {t : TK} {cs : List AV} {k : AV → Option β} {l} (h : Qf7 t cs k l = some r) : Qep t cs (fun v => k v = some r) () := by
 unfold Qf7 at h
 unfold Qep
 split at h
 ·split at h
  ·exact h
  ·cases h
 ·obtain ⟨hm, h⟩ := VE h
  exact JY hm (h)
 ·cases h
theorem Qq1 {cs : List AV} {o : Nat} {t : TK} {v : AV} {ok : AV → Bool} {k : List AV → Option β} {l} (h : QfU cs o t v ok k l = some r) : Qn6 cs o t v ok (fun v => k v = some r) () := by
 unfold QfU at h
 unfold Qn6
 split at h
 ·obtain ⟨hm, h⟩ := VE h
  exact JY hm (h)
 ·obtain ⟨hm, h⟩ := VE h
  exact JY hm (h)
 ·cases h
theorem QiN {t : TK} {p v : AV} {k : KS → Option β} {l} (h : QiM K t p v k l = some r) : Qd7 K t p v (fun K => k K = some r) () := by
 unfold QiM at h
 unfold Qd7
 split at h
 ·split at h
  ·rename_i cs hj
   simp only [hj]
   obtain ⟨hm, h⟩ := VE h
   exact JY hm (Qq1 h)
  ·rename_i n rows hj
   simp only [hj]
   obtain ⟨hm, h⟩ := VE h
   exact JY hm (Qq1 h)
  ·cases h
 ·cases h
theorem QpZ {t : TK} {j i o n : Nat} {rows : List (List AV)} {v : AV} {k : KS → Option β} {l} {ns : List Nat} (h : Qhb ns K t j i o n rows v k l = some r) : Qdk ns K t j i o n rows v (fun K => k K = some r) () := by
 unfold Qhb at h
 unfold Qdk
 obtain ⟨hm, h⟩ := VE h
 rw [if_pos hm]
 split at h
 ·rename_i K1 ds hab
  obtain ⟨hc, h⟩ := VE h
  simp only [hab]
  exact JY hc h
 ·cases h
theorem Qqr {fl : Bool} {t : TK} {p v : AV} {k : KS → Option β} {l} {ns : List Nat} (h : Qg4 fl ns K t p v k l = some r) : JX fl ns K t p v (fun K => k K = some r) () := by
 unfold Qg4 at h
 unfold JX
 split at h
 ·split at h
  ·rename_i n rows hj
   simp only [hj]
   split at h
   ·rename_i hc; rw [if_pos hc]; exact QiN h
   ·rename_i hc
    rw [if_neg hc]
    obtain ⟨hf, h⟩ := VE h
    exact JY hf (QpZ h)
  ·rename_i hj
   cases hk : kg K _ with
   | none => simp only [hk]; exact QiN h
   | some e =>
    cases e with
    | box cs => simp only [hk]; exact QiN h
    | lst n rows => exact absurd hk (hj n rows)
 ·cases h
theorem QwJ {v : AV} {k : AV → KS → Option β} {l} (h : QpU K v k l = some r) : QsJ K v (fun v K => k v K = some r) () := by
 unfold QpU at h
 unfold QsJ
 split at h
 ·obtain ⟨hm, h⟩ := VE h
  exact JY hm h
 ·rename_i hn
  obtain ⟨hm, h⟩ := VE h
  cases v with
  | agg cs => exact absurd rfl (hn cs)
  | _ => exact JY hm h
theorem Qsg {z : Option (List AV)} {k : AV → KS → Option β} {l} (h : QjZ K z k l = some r) : Qio K z (fun v K => k v K = some r) () := by
 unfold QjZ at h
 unfold Qio
 split at h
 ·exact h
 ·cases h
theorem Qsn {t : TB} {parts : List (Nat × AV)} {k : AV → Option β} {l} (h : Qh7 K t parts k l = some r) : Qfd K t parts (fun v => k v = some r) () := by
 unfold Qh7 at h
 unfold Qfd
 split at h
 ·split at h
  ·rename_i cs hc; simp only [hc]; exact h
  ·cases h
 ·split at h
  ·rename_i cs hc; simp only [hc]; exact h
  ·cases h
 ·cases h
theorem QqM {t : Option (TypeId × Nat × List AV)} {len : Nat} {parts : List (Nat × AV)} {k : AV → KS → Option β} {l} {fl : Bool} {ns : List Nat} (h : Qfs fl ns K t len parts k l = some r) : (fl = true → Qpf K t len parts = true) ∧ QaZ ns K t len parts (fun v K => k v K = some r) () := by
 unfold Qfs at h
 unfold QaZ Qpf
 cases t with
 | none => cases h
 | some q =>
  obtain ⟨e, m, z⟩ := q
  simp only at h ⊢
  by_cases h0 : len = 0
  ·rw [if_pos h0] at h ⊢
   subst h0
   cases parts with
   | nil => exact ⟨fun _ => by simp [ZB, QcB, noS], h⟩
   | cons _ _ => cases h
  ·rw [if_neg h0] at h ⊢
   obtain ⟨hm, h⟩ := VE h
   rw [if_pos hm]
   cases hx : ZB K (fun i => some (i * m, m)) (QcB len z) parts with
   | none => rw [hx] at h; cases h
   | some cs =>
    rw [hx] at h
    simp only at h ⊢
    cases hf : yB fl cs with
    | false => rw [hf] at h; cases h
    | true =>
     rw [hf] at h
     simp only [cond_true] at h
     refine ⟨fun hfl => ?_, ?_⟩
     ·rw [hfl] at hf; exact hf
     ·cases ha : Vb K cs with
      | none => rw [ha] at h; cases h
      | some q =>
       obtain ⟨K1, ds⟩ := q
       rw [ha] at h
       exact h
theorem QwV {v : AV} {i : Nat} {k : AV → Option β} {l} (h : Qtq v i k l = some r) : QpA v i (fun v => k v = some r) () := by
 unfold Qtq at h
 unfold QpA
 split at h
 ·split at h
  ·rename_i c hc; simp only [hc]; exact h
  ·cases h
 ·cases h
theorem Qp8 {t : Option (TypeId × Nat × List AV)} {b : Option Nat} {s x : AV} {k : AV → KS → Option β} {l} (h : QjI K t b s x k l = some r) : QcT K t b s x (fun v K => k v K = some r) () := by
 unfold QjI at h
 unfold QcT
 split at h
 ·simp only
  split at h
  ·rename_i rows K1 hs
   simp only [hs]
   split at h
   ·split at h
    ·rename_i n rows hj
     simp only [hj]
     obtain ⟨hm, h⟩ := VE h
     obtain ⟨h1, h2⟩ := Q6 h
     exact JY hm ⟨by simpa using h1, h2⟩
    ·cases h
   ·obtain ⟨h1, h2⟩ := Q6 h
    exact ⟨by simpa using h1, h2⟩
   ·cases h
  ·cases h
 ·cases h
theorem Qxa {x y : AV} {k : AV → Option β} {l} (h : QtM x y k l = some r) : Qpq x y (fun v => k v = some r) () := by
 unfold QtM at h
 unfold Qpq
 split at h
 ·exact h
 ·cases h
theorem Qxl {x y : AV} {k : AV → Option β} {l} (h : Qtj x y k l = some r) : QoY x y (fun v => k v = some r) () := by
 unfold Qtj at h
 unfold QoY
 split at h
 ·exact h
 ·cases h
theorem QuO {t : TI} {x : AV} {k : AV → Option β} {l} (h : Qof t x k l = some r) : QiP t x (fun v => k v = some r) () := by
 unfold Qof at h
 unfold QiP
 split at h
 ·exact h
 ·cases h
theorem QtQ {K : KS} {t : TI} {x : AV} {k : AV → Option β} {l} (h : Qps K t x k l = some r) : Qhc K t x (fun v => k v = some r) () := by
 unfold Qps at h
 unfold Qhc
 split at h
 ·split at h
  ·rename_i h1
   split at h
   ·rename_i h2; simp only [h1, h2]; exact h
   ·cases h
  ·cases h
 ·cases h
theorem QrY {op : BinOp} {x : AV} {k : AV → Option β} {l} (h : Qij op x k l = some r) : Qfi op x (fun v => k v = some r) () := by
 have key : ∀ {b : Bool} {x y : Option β}, Qjq b x y = some r → (b = true → x = some r) ∧ y = some r := by
  intro b x y h
  unfold Qjq at h
  cases b with
  | false => exact ⟨fun h => (by cases h), h⟩
  | true =>
   simp only [cond_true, oeq] at h
   split at h
   ·rename_i he; exact ⟨fun _ => h, by rw [← he]; exact h⟩
   ·cases h
 unfold Qij at h
 unfold Qfi
 split at h
 ·exact key h
 ·exact key h
 ·cases h
theorem QuY {t : Option (TypeId × Nat × List AV)} {b : Option Nat} {x c : AV} {k : AV → KS → Option β} {l} {ns : List Nat} (h : QrR ns K t b x c k l = some r) : Qms ns K t b x c (fun v K => k v K = some r) () := by
 unfold QrR at h
 unfold Qms
 split at h
 ·simp only
  obtain ⟨h1, h2⟩ := Q6 h
  obtain ⟨h3, h4⟩ := Q6 h2
  rw [if_pos (by simpa using h1)]
  exact ⟨by simpa [mkB] using h3, h4⟩
 ·cases h
def SortP [Wd] (P : Program) (g : FuncId) : Prop := ∀ (K : KS) (j : Nat) (rows : List (List AV)) (xs : List Int), kg K j = some (.lst 1 rows) → QbM rows = some xs → xs.length < 4611686018427387904 →
 AC P g K [.sl j] (fun x K' => x = .tup [] ∧ K' = K.set j (some (.lst 1 ((QaD xs).map cI))))
def CompP [Wd] (P : Program) (g : FuncId) : Prop := ∀ (K : KS) (j : Nat) (rows : List (List AV)) (xs : List Int), kg K j = some (.lst 1 rows) → QbM rows = some xs → xs.length < 4611686018427387904 →
 AC P g K [.sl j] (fun x K' => x = .sl K.length ∧ K' = K.set j none ++ [some (.lst 1 ((XY xs).map cI))])
theorem QdN : ∀ {l : List Nat}, ndB l = true → l.Nodup
 | [], _ => by simp
 | x :: l, h => by
  simp only [ndB, Bool.and_eq_true, Bool.not_eq_true'] at h
  rw [List.nodup_cons]
  exact ⟨by simpa using h.1, QdN h.2⟩
def ArP [Wd] (P : Program) (D : Orc) : Prop := ∀ g K args x, D.a g K args = some x → AC P g K args (fun v K' => (v = x.1 ∧ K'.take K.length = x.2) ∧ x.1.flat = true ∧ (∀ e ∈ x.2, Qdh e = true) ∧ x.2.length = K.length)
def MrP [Wd] (P : Program) (D : Orc) : Prop := ∀ g K args x, D.m g K args = some x → MC P g K args (· = x)
def QeO [Wd] (P : Program) (D : Orc) : Prop := (∀ g args x, D.p g args = some x → PC P g args (· = x)) ∧ (∀ g, D.s g = true → SortP P g) ∧ (∀ g, D.q g = true → CompP P g) ∧ ArP P D ∧ MrP P D
theorem QjM : ∀ {K : KS}, Qjs K = true → ∀ e ∈ K, Qdh e = true
 | [], _, e, he => by cases he
 | some (.lst n rows) :: K, h, e, he => by
  rcases List.mem_cons.1 he with rfl | he
  ·rfl
  ·exact QjM (K := K) h e he
 | none :: K, h, e, he => by cases h
 | some (.box cs) :: K, h, e, he => by cases h
theorem Qwq {s : Operand} (hs : QaG s = true) (f : Fr) : QdH (ev f s) = false := by
 cases s with
 | const v =>
  cases v <;> first | (cases hs; done) | skip
  rename_i a l c
  cases a <;> cases l <;> cases c <;> first | rfl | cases hs
 | _ => cases hs
theorem QkX [Wd] {P : Program} {D : Orc} (hD : QeO P D) {o : Op} {f : Fr} {k : AV → KS → Option β} {l} (h : oop P D o f K k l = some r) : Qa7 P o f K (fun v K => k v K = some r) () := by
 unfold oop at h
 unfold Qa7
 split at h
 case h_21 x args _ =>
  simp only
  unfold QqC at h
  unfold QnD
  split at h
  ·rename_i g caps hg
   unfold Qel Xg at h
   obtain ⟨x, hx, h⟩ := Option.bind_eq_some_iff.1 h
   simp only [hg]
   exact ⟨_, (hD.1 _ _ _ hx).fix, fun y hy => by rw [hy]; exact h⟩
  ·cases h
 all_goals (simp only; unfold xop; simp only)
 case h_1 => exact h
 case h_2 => exact h
 case h_3 => exact Quu h
 case h_4 => exact Qsg h
 case h_5 => exact QwJ h
 case h_6 => exact Qsn h
 case h_7 => exact QqM h
 case h_8 => exact QoC h
 case h_9 => exact Qqr h
 case h_10 =>
  split at h
  ·rename_i hn
   obtain ⟨hm, h⟩ := VE h
   rw [if_pos hn]
   exact JY hm (QrY h)
  ·rename_i hn
   rw [if_neg hn]
   exact QwH h
 case h_11 => exact QzO h
 case h_12 =>
  split at h
  ·rename_i hb; rw [if_pos hb]; exact QtQ h
  ·rename_i hb
   obtain ⟨hm, h⟩ := VE h
   rw [if_neg hb]
   exact JY hm (QuO h)
 case h_13 =>
  obtain ⟨hm, h⟩ := VE h
  exact JY hm (h)
 case h_14 => exact Qvz h
 case h_15 => exact QxG h
 case h_16 => exact QwV h
 case h_17 =>
  split at h
  ·rename_i h1 h2; simp only [h1, h2]; exact Qxb h
  ·cases h
 case h_18 =>
  split at h
  ·rename_i h1 h2
   obtain ⟨⟨hm, hn⟩, h⟩ := VE h
   simp only [h1, h2]
   refine ⟨fun hc => ?_, JY hm (Qp8 h)⟩
   rename_i s x _ _ _ _
   have hs : QaG s = true := hc
   rw [hs] at hn
   have hs2 : QdH (ev f s) = false := Qwq hs f
   have hx2 : QdH (ev f x) = false := hn
   simp [hs2, hx2]
  ·cases h
 case h_19 =>
  split at h
  ·rename_i h1; simp only [h1]; exact Qxa h
  ·cases h
 case h_20 =>
  split at h
  ·rename_i h1; simp only [h1]; exact Qxl h
  ·cases h
 case h_22 => exact QuY h
 case h_23 => exact Qxx h
 case h_24 => exact Qvu h
 case h_25 => cases h
theorem Qrn [Wd] {P : Program} {D : Orc} (hD : QeO P D) {o : Op} {f : Fr} {K : KS} {k : AV → KS → Option β} {k' : AV → KS → Prop} {l} (h : Qcg P D o f K k l = some r) (hk : ∀ v K, k v K = some r → k' v K) : xop P o f K k' () := by
 unfold Qcg at h
 split at h
 ·rename_i x args ts _
  show QnD (ev f x) (fun g caps => Qi2 P g K (args.toList.map (ev f) ++ caps) k' ()) ()
  unfold QqC at h
  unfold QnD
  split at h
  ·rename_i g caps hg
   simp only [hg]
   simp only at h
   cases hs : D.s g with
   | false =>
    rw [hs] at h
    have h : cond (D.q g) (Qk3 K (args.toList.map (ev f) ++ caps) k ()) (cond (D.w g) (QiL D g K (args.toList.map (ev f) ++ caps) k ()) (cond (D.v g) (QgE D g K (args.toList.map (ev f) ++ caps) k ()) (Qel D g K (args.toList.map (ev f) ++ caps) k ()))) = some r := h
    cases hq : D.q g with
    | false =>
     rw [hq] at h
     have h : cond (D.w g) (QiL D g K (args.toList.map (ev f) ++ caps) k ()) (cond (D.v g) (QgE D g K (args.toList.map (ev f) ++ caps) k ()) (Qel D g K (args.toList.map (ev f) ++ caps) k ())) = some r := h
     cases hw : D.w g with
     | false =>
      rw [hw] at h
      have h : cond (D.v g) (QgE D g K (args.toList.map (ev f) ++ caps) k ()) (Qel D g K (args.toList.map (ev f) ++ caps) k ()) = some r := h
      cases hv : D.v g with
      | false =>
       rw [hv] at h
       have h' : Qel D g K (args.toList.map (ev f) ++ caps) k () = some r := h
       unfold Qel Xg at h'
       obtain ⟨x, hx, h'⟩ := Option.bind_eq_some_iff.1 h'
       exact .inl ⟨_, (hD.1 _ _ _ hx).fix, fun y hy => by rw [hy]; exact hk _ _ h'⟩
      | true =>
       rw [hv] at h
       have h' : QgE D g K (args.toList.map (ev f) ++ caps) k () = some r := h
       unfold QgE QjL at h'
       obtain ⟨h1, h2⟩ := Q6 h'
       unfold QjR at h2
       split at h2
       ·rename_i cs hcs
        obtain ⟨h3, h4⟩ := Q6 h2
        unfold Xg at h4
        obtain ⟨x, hx, h5⟩ := Option.bind_eq_some_iff.1 h4
        have hls : ∀ j ∈ Qdv (args.toList.map (ev f) ++ caps), Qdh (kg K j) = true := fun j hj => QjM h3 _ (by unfold Ji; exact List.mem_map_of_mem hj)
        exact .inr ⟨_, MC.sub (QdN h1) hls (hD.2.2.2.2 _ _ _ _ hx) hcs, fun v K' ⟨hv, hK⟩ => by rw [hv, hK]; exact hk _ _ h5⟩
       ·cases h2
     | true =>
      rw [hw] at h
      have h' : QiL D g K (args.toList.map (ev f) ++ caps) k () = some r := h
      unfold QiL QjU at h'
      obtain ⟨h1, h2⟩ := Q6 h'
      unfold QjN at h2
      split at h2
      ·rename_i cs hcs
       obtain ⟨h3, h4⟩ := Q6 h2
       unfold Xg at h4
       obtain ⟨x, hx, h5⟩ := Option.bind_eq_some_iff.1 h4
       have x4 := hD.2.2.2.1 _ _ _ _ hx
       have hlen : (Ji K (Qdv (args.toList.map (ev f) ++ caps))).length = (Qdv (args.toList.map (ev f) ++ caps)).length := by simp [Ji]
       rw [hlen] at x4
       have hls : ∀ j ∈ Qdv (args.toList.map (ev f) ++ caps), Qdh (kg K j) = true := fun j hj => QjM h3 _ (by unfold Ji; exact List.mem_map_of_mem hj)
       exact .inr ⟨_, AC.sub (QdN h1) hls x4 hcs, fun v K' ⟨hv, hK⟩ => by rw [hv, hK]; exact hk _ _ h5⟩
      ·cases h2
    | true =>
     rw [hq] at h
     have h' : Qk3 K (args.toList.map (ev f) ++ caps) k () = some r := h
     unfold Qk3 at h'
     split at h'
     ·rename_i j hv
      rw [hv]
      split at h'
      ·rename_i rows hj
       split at h'
       ·rename_i xs hxs
        obtain ⟨h1, h2⟩ := Q6 h'
        exact .inr ⟨_, hD.2.2.1 g hq K j rows xs hj hxs (by simpa using h1), fun x K' ⟨hx, hK⟩ => by rw [hx, hK]; exact hk _ _ h2⟩
       ·cases h'
      ·cases h'
     ·cases h'
   | true =>
    rw [hs] at h
    have h' : QmW K (args.toList.map (ev f) ++ caps) k () = some r := h
    unfold QmW at h'
    split at h'
    ·rename_i j hv
     rw [hv]
     split at h'
     ·rename_i rows hj
      split at h'
      ·rename_i xs hxs
       obtain ⟨h1, h2⟩ := Q6 h'
       exact .inr ⟨_, hD.2.1 g hs K j rows xs hj hxs (by simpa using h1), fun x K' ⟨hx, hK⟩ => by rw [hx, hK]; exact hk _ _ h2⟩
      ·cases h'
     ·cases h'
    ·cases h'
  ·cases h
 ·exact QdS (J2 (QkX hD h) hk)
theorem Qfa [Wd] {P : Program} {D : Orc} (hD : QeO P D) {ops : Array Oper} : ∀ (l : List Oper) {f : Fr} {K : KS} {k : Fr → KS → Option β}, Qem P D ops l f K k () = some r → QfM P ops l f K (fun f K => k f K = some r) ()
 | [], f, K, k, h => h
 | o :: l, f, K, k, h => by
  unfold Qem at h
  unfold QfM
  split at h
  ·rename_i hg
   simp only [hg]
   refine Qrn hD h fun v K' h => ?_
   unfold QdT at h
   unfold Qa8
   split at h
   ·rename_i d hd; simp only [hd]; exact Qfa hD l h
   ·rename_i hd; simp only [hd]; exact Qfa hD l h
  ·cases h
theorem Qre {α : Type} : ∀ {l : List α} {o : Nat} {c : α} {cs : List α}, l.drop o = c :: cs → l[o]? = some c
 | [], o, c, cs, h => by simp at h
 | x :: l, 0, c, cs, h => by simp at h; simp [h.1]
 | x :: l, o + 1, c, cs, h => by simp at h; simpa using Qre h
theorem Qz7 [Wd] {P : Program} {D : Orc} (hD : QeO P D) {f : Fr} {K : KS} {p x : AV} {g : FuncId} {k : AV → KS → Option β} {l} (h : onp D f K p x g k l = some r) :
  ∃ j i o q m m' rows rs rs' rv, p = .ptr j i o ∧ kg K j = some (.lst q rows) ∧ (QF rows i)[o]? = some (.own m rs) ∧ x.scal = true ∧
   AC P g [some (.lst m rs)] [.sl 0, x] (fun v K' => (v = rv ∧ K'.take 1 = [some (.lst m' rs')]) ∧ rv.flat = true) ∧ k rv (QmL K j i o q m' rows rs') = some r := by
 unfold onp at h
 split at h
 ·rename_i j i o
  unfold onj at h
  split at h
  ·rename_i q rows hj
   unfold onx at h
   split at h
   ·rename_i m rs cs hcs
    obtain ⟨h1, h2⟩ := Q6 h
    unfold Xg at h2
    obtain ⟨y, hy, h3⟩ := Option.bind_eq_some_iff.1 h2
    unfold onr at h3
    split at h3
    ·rename_i m' rs' hy2
     obtain ⟨h4, h5⟩ := Q6 h3
     have y4 := hD.2.2.2.1 _ _ _ _ hy
     rw [hy2] at y4
     exact ⟨j, i, o, q, m, m', rows, rs, rs', y.1, rfl, hj, Qre hcs, h1, y4.mono fun v K' ⟨z1, z2, _⟩ => ⟨z1, z2⟩, h5⟩
    ·cases h3
   ·cases h
  ·cases h
 ·cases h
theorem Qk2 [Wd] {P : Program} {D : Orc} (hD : QeO P D) {ops : Array Oper} : ∀ (us : List Nat) (l : List Oper) {f : Fr} {K : KS} {k : Fr → KS → Option β}, Qf8 P D ops us l f K k () = some r → Qf5 P ops us l f K (fun f K => k f K = some r)
 | _ :: us, o :: l, f, K, k, h => by
  unfold Qf8 at h
  unfold Qf5
  split at h
  ·rename_i hg
   refine ⟨hg, QdS (J2 (QkX hD h) fun v K' h => ?_)⟩
   unfold QdT at h
   unfold Qa8
   split at h
   ·rename_i d hd; simp only [hd]; exact Qk2 hD us l h
   ·rename_i hd; simp only [hd]; exact Qk2 hD us l h
  ·cases h
 | _ :: _, [], f, K, k, h => by unfold Qf8 at h; cases h
 | [], l, f, K, k, h => by
  unfold Qf8 at h
  split at h
  ·rename_i he; cases he
  ·rename_i _ _ d t p _ _ _ e x _ _ _ dst g args ts _ _ _ l' _
   split at h
   ·rename_i d' e' hargs
    obtain ⟨h1, h2⟩ := Q6 h
    simp only [Bool.and_eq_true, Bool.not_eq_true'] at h1
    obtain ⟨ht, hd', he', hde⟩ := h1
    obtain ⟨j, i, o, q, m, m', rows, rs, rs', rv, q1, q2, q3, q4, q6, q7⟩ := Qz7 hD h2
    have e1 : d = d' := Nat.eq_of_beq_eq_true hd'
    have e2 : e = e' := Nat.eq_of_beq_eq_true he'
    subst e1 e2
    have ea : args = #[.tmp d, .tmp e] := Array.toList_inj.1 hargs
    subst ea
    unfold Qf5
    refine ⟨d, e, t, p, x, g, ts, j, i, o, q, m, m', rows, rs, rs', rv, ⟨rfl, rfl, rfl⟩, ⟨rfl, rfl, rfl⟩, ⟨rfl, rfl⟩, (fun hh => by subst hh; rw [Nat.beq_refl] at hde; cases hde), ?_, q1, q2, q3, q4, q6, ?_⟩
    ·revert ht
     cases tk P t <;> intro ht <;> first | rfl | cases ht
    ·unfold QdT at q7
     unfold Qa8
     split at q7
     ·exact Qfa hD _ q7
     ·exact Qfa hD _ q7
   ·cases h
  ·cases h
theorem Qg5 [Wd] {P : Program} {D : Orc} (hD : QeO P D) {ops : Array Oper} : ∀ (l : List Oper) {f : Fr} {K : KS} {k : Fr → KS → Option β}, Qcf P D ops l f K k () = some r → Qd1 P ops l f K (fun f K => k f K = some r)
 | [], f, K, k, h => h
 | o :: l, f, K, k, h => by
  unfold Qcf at h
  unfold Qd1
  refine JG.2 ?_
  have yes : ∀ {f}, oop P D o.op f K (fun v K' => QdT o.dst v f (fun f => Qcf P D ops l f K' k ()) ()) () = some r → Qa7 P o.op f K (fun v K' => Qd1 P ops l (XO f o.dst v) K' (fun f K => k f K = some r)) () := fun {f} h =>
   J2 (QkX hD h) fun v K' h => Qg5 hD l (by
    unfold QdT at h
    unfold XO
    cases hd : o.dst with
    | none => simp only [hd] at h; exact h
    | some d => simp only [hd] at h; exact h)
  have no : ∀ {f}, QdT o.dst (.tup []) f (fun f => Qcf P D ops l f K k ()) () = some r → Qd1 P ops l (XO f o.dst (.tup [])) K (fun f K => k f K = some r) := fun {f} h => Qg5 hD l (by
    unfold QdT at h
    unfold XO
    cases hd : o.dst with
    | none => simp only [hd] at h; exact h
    | some d => simp only [hd] at h; exact h)
  unfold gd
  split at h
  ·rename_i hg; simp only [hg]; exact yes h
  ·rename_i j want hg
   simp only [hg]
   unfold ogd at h
   split at h
   ·rename_i d hj
    simp only [hj]
    split at h
    ·rename_i b hb
     simp only [hb]
     have e1 : up f d (.b b) = f := Qn2 f d _ hb
     cases b <;> cases want <;> simp at h ⊢ <;> rw [e1] at h
     ·exact yes h
     ·exact no h
     ·exact no h
     ·exact yes h
    ·rename_i hb
     simp only [hb]
     exact no h
    ·cases h
   ·cases h
theorem Qwi [Wd] {vs : List Nat} {P : Program} {D : Orc} (hD : QeO P D) {o : Op} {f : Fr} {K : KS} {k : AV → KS → Option β} {k' : AV → KS → Prop} {l} (h : Qjz vs P D o f K k l = some r) (hk : ∀ v K, k v K = some r → k' v K) : QgP vs P o f K k' := by
 have key : (∃ g args ts, o = .call ⟨.value (.func g), args, ts⟩) ∨ (vOp vs o = false ∧ Qjz vs P D o f K k l = oop P D o f K k ()) := by
  cases o with
  | call c =>
   obtain ⟨cal, args, ts⟩ := c
   cases cal with
   | value x =>
    cases x with
    | func g => exact .inl ⟨g, args, ts, rfl⟩
    | _ => exact .inr ⟨rfl, rfl⟩
   | _ => exact .inr ⟨rfl, rfl⟩
  | _ => exact .inr ⟨rfl, rfl⟩
 unfold QgP
 rcases key with ⟨g, args, ts, rfl⟩ | ⟨hv, he⟩
 ·have h : cond (vs.contains g) (Qcg P D (.call ⟨.value (.func g), args, ts⟩) f K k ()) (oop P D (.call ⟨.value (.func g), args, ts⟩) f K k ()) = some r := h
  have hv : vOp vs (.call ⟨.value (.func g), args, ts⟩) = vs.contains g := rfl
  rw [hv]
  cases hc : vs.contains g with
  | true =>
   rw [hc] at h
   rw [if_pos rfl]
   exact Qrn (l := ()) hD h hk
  | false =>
   rw [hc] at h
   rw [if_neg (by simp)]
   exact J2 (QkX (l := ()) hD h) hk
 ·rw [he] at h
  rw [hv, if_neg (by simp)]
  exact J2 (QkX (l := ()) hD h) hk
theorem Qfj [Wd] {vs : List Nat} {P : Program} {D : Orc} (hD : QeO P D) {ops : Array Oper} : ∀ (l : List Oper) {f : Fr} {K : KS} {k : Fr → KS → Option β}, JU vs P D ops l f K k () = some r → Qg6 vs P ops l f K (fun f K => k f K = some r)
 | [], f, K, k, h => h
 | o :: l, f, K, k, h => by
  unfold JU at h
  unfold Qg6 Qb8
  have yes : ∀ {f}, Qjz vs P D o.op f K (fun v K' => QdT o.dst v f (fun f => JU vs P D ops l f K' k ()) ()) () = some r → QgP vs P o.op f K (fun v K' => Qg6 vs P ops l (XO f o.dst v) K' (fun f K => k f K = some r)) := fun {f} h =>
   Qwi hD h fun v K' h => Qfj hD l (by
    unfold QdT at h
    unfold XO
    cases hd : o.dst with
    | none => simp only [hd] at h; exact h
    | some d => simp only [hd] at h; exact h)
  have no : ∀ {f}, QdT o.dst (.tup []) f (fun f => JU vs P D ops l f K k ()) () = some r → Qg6 vs P ops l (XO f o.dst (.tup [])) K (fun f K => k f K = some r) := fun {f} h => Qfj hD l (by
    unfold QdT at h
    unfold XO
    cases hd : o.dst with
    | none => simp only [hd] at h; exact h
    | some d => simp only [hd] at h; exact h)
  unfold gd
  split at h
  ·rename_i hg; simp only [hg]; exact yes h
  ·rename_i j want hg
   simp only [hg]
   unfold ogd at h
   split at h
   ·rename_i d hj
    simp only [hj]
    split at h
    ·rename_i b hb
     simp only [hb]
     have e1 : up f d (.b b) = f := Qn2 f d _ hb
     cases b <;> cases want <;> simp at h ⊢ <;> rw [e1] at h
     ·exact yes h
     ·exact no h
     ·exact no h
     ·exact yes h
    ·rename_i hb
     simp only [hb]
     exact no h
    ·cases h
   ·cases h
theorem QoX [Wd] {P : Program} {ops : Array Oper} : ∀ (l : List Oper) {f : Fr} {K : KS} {k : Fr → KS → Prop}, Qd1 P ops l f K k → QfM P ops l f K k ()
 | [], f, K, k, h => h
 | o :: l, f, K, k, h => by
  unfold Qd1 Qbl at h
  unfold QfM
  have st : ∀ {f : Fr} {K : KS} {d : Option Tmp} {v : AV}, Qa8 d v f (fun f => Qd1 P ops l f K k) () → Qa8 d v f (fun f => QfM P ops l f K k ()) () := fun {f K d v} h => by
   rw [QgS] at h ⊢; exact QoX l h
  have yes : ∀ {f}, Qa7 P o.op f K (fun v K' => Qa8 o.dst v f (fun f => Qd1 P ops l f K' k) ()) () → xop P o.op f K (fun v K' => Qa8 o.dst v f (fun f => QfM P ops l f K' k ()) ()) () := fun {f} h =>
   QdS (J2 h fun v K' h => st h)
  split at h
  ·rename_i hg; try simp only [hg]
   exact yes h
  ·rename_i j want hg
   try simp only [hg]
   unfold xgd at h ⊢
   split at h
   ·rename_i d hj
    try simp only [hj]
    split at h
    ·rename_i b hb
     unfold XBr at h ⊢
     refine ⟨fun hx => ?_, fun hx => ?_⟩
     ·have := h.1 hx
      cases want
      ·exact st this
      ·exact yes this
     ·have := h.2 hx
      cases want
      ·exact yes this
      ·exact st this
    ·rename_i hb
     exact st h
    ·exact h.elim
   ·exact h.elim
end
end Go.Proofs.YtcdffihcfeajfaaGreat.Am
