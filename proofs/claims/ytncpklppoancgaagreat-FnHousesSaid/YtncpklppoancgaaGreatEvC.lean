import Derived.Test.YtncpklppoancgaaGreatEvA
namespace Go.Proofs.YtncpklppoancgaaGreat.Am
open Go
set_option linter.unusedVariables false
set_option linter.unusedSimpArgs false
section
variable {β : Type} {r : β}
theorem QS {b : Bool} {q : Option β} {l} (h : Q1 b q l = some r) : b = true ∧ q = some r := by
 cases b with
 | false => cases h
 | true => exact ⟨rfl, h⟩
theorem Qrz {b : Bool} {p q : Option β} (h : cond b p q = some r) : (b = true → p = some r) ∧ (b = false → q = some r) := by
 cases b with
 | false => exact ⟨fun h' => by (cases h'), fun _ => h⟩
 | true => exact ⟨fun _ => h, fun h' => by cases h'⟩
theorem VE {p : Prop} [Decidable p] {q : Option β} (h : (if p then q else none) = some r) : p ∧ q = some r := by
 by_cases hp : p
 ·rw [if_pos hp] at h; exact ⟨hp, h⟩
 ·rw [if_neg hp] at h; cases h
theorem JJ {p : Prop} [Decidable p] {q : Prop} (hp : p) (hq : q) : (if p then q else False) := by rw [if_pos hp]; exact hq
theorem Qwy (a b : Int) : (a == b) = decide (a = b) := by by_cases h : a = b <;> simp [h]
theorem Qwb (a b : Int) : (a != b) = !decide (a = b) := by by_cases h : a = b <;> simp [h]
theorem Qvl (a b : List UInt8) : (a == b) = decide (a = b) := by by_cases h : a = b <;> simp [h]
theorem QwO (a b : List UInt8) : (a != b) = !decide (a = b) := by by_cases h : a = b <;> simp [h]
theorem QpO {te : Option (List CK)} {xs ys : List AV} {k : Bool → Option β} {l} (h : Qwu te xs ys k l = some r) : Qkz te xs ys (fun v => k v = some r) () := by
 unfold Qwu at h
 unfold Qkz
 split at h
 ·split at h
  ·rename_i hb; simp only [hb]; exact h
  ·cases h
 ·cases h
theorem QuM {t : TI} {x : AV} {lo hi : Option AV} {k : AV → Option β} {l} (h : Qev t x lo hi k l = some r) : QlH t x lo hi (fun v => k v = some r) () := by
 unfold Qev at h
 unfold QlH
 split at h
 ·obtain ⟨hm, h⟩ := VE h
  simp only
  rw [if_pos hm]
  split at h
  ·rename_i h1 h2
   simp only [h1, h2]
   obtain ⟨h3, h4⟩ := QS h
   exact ⟨by simpa [slB] using h3, h4⟩
  ·cases h
 ·simp only
  split at h
  ·rename_i h1 h2
   simp only [h1, h2]
   obtain ⟨h3, h4⟩ := QS h
   exact ⟨by simpa [slB] using h3, h4⟩
  ·cases h
 ·cases h
theorem Qwl {t : TI} {x i : AV} {k : AV → Option β} {l} (h : Qr2 t x i k l = some r) : Qmn t x i (fun v => k v = some r) () := by
 unfold Qr2 at h
 unfold Qmn
 split at h
 ·obtain ⟨h3, h4⟩ := QS h
  exact ⟨XC.1 h3, h4⟩
 ·cases h
theorem QuN {te : Option (List CK)} {op : BinOp} {x y : AV} {k : AV → Option β} {l} (h : XF te op x y k l = some r) : Qmv te op x y (fun v => k v = some r) () := by
 unfold XF at h
 unfold Qmv
 split at h
 ·simp only
  split at h
  ·exact QpO h
  ·exact QpO h
  ·cases h
 ·simp only
  split at h
  ·exact h
  ·exact h
  ·cases h
 ·simp only
  split at h
  ·rename_i hs
   rw [if_pos hs]
   obtain ⟨h1, h2⟩ := QS h
   exact ⟨by simpa using h1, h2⟩
  rename_i hs
  rw [if_neg hs]
  obtain ⟨hc, h⟩ := VE h
  rw [if_pos hc]
  split at h <;> simp only <;> first
   | exact h
   | (rw [Qwy]; exact h)
   | (rw [Qwb]; exact h)
   | (obtain ⟨h1, h2⟩ := QS h; exact ⟨by simpa using h1, h2⟩)
   | cases h
 ·simp only
  split at h <;> simp only <;> first
   | (rw [Qvl]; exact h)
   | (rw [QwO]; exact h)
   | (obtain ⟨h1, h2⟩ := QS h; exact ⟨by simpa using h1, h2⟩)
   | cases h
 ·cases h
theorem QAf {op : UnOp} {x : AV} {k : AV → Option β} {l} (h : oun op x k l = some r) : xun op x (fun v => k v = some r) () := by
 unfold oun at h
 unfold xun
 split at h
 ·exact h
 ·exact h
 ·cases h
theorem Qsx {c x y : AV} {k : AV → Option β} {l} (h : QhQ c x y k l = some r) : Qg5 c x y (fun v => k v = some r) () := by
 unfold QhQ at h
 unfold Qg5
 split at h
 ·rename_i b
  cases b with
  | true => exact h
  | false => exact h
 ·cases h
variable {K : KS}
theorem Qxl {t : TI} {x : AV} {k : AV → Option β} {l} (h : Ql4 K t x k l = some r) : QmA K t x (fun v => k v = some r) () := by
 unfold Ql4 at h
 unfold QmA
 split at h
 ·exact h
 ·exact h
 ·split at h
  ·rename_i e he; simp only [he]; exact h
  ·cases h
 ·exact h
 ·exact h
 ·cases h
theorem Qvg {x : AV} {o : Option (Nat × TK)} {k : AV → Option β} {l} (h : QqG K x o k l = some r) : QmH K x o (fun v => k v = some r) () := by
 unfold QqG at h
 unfold QmH
 split at h
 ·split at h
  ·rename_i e he; simp only [he]; exact h
  ·cases h
 ·exact h
 ·cases h
theorem QuE {t : TI} {x i : AV} {k : AV → Option β} {l} (h : QlJ K t x i k l = some r) : QmP K t x i (fun v => k v = some r) () := by
 unfold QlJ at h
 unfold QmP
 split at h
 ·obtain ⟨hm, h⟩ := VE h
  obtain ⟨h1, h2⟩ := QS h
  exact JJ hm ⟨XC.1 h1, h2⟩
 ·split at h
  ·rename_i e he
   obtain ⟨hm, h⟩ := VE h
   simp only [he]
   obtain ⟨h1, h2⟩ := QS h
   exact JJ hm ⟨XC.1 h1, h2⟩
  ·cases h
 ·split at h
  ·rename_i e he
   simp only [he]
   obtain ⟨h1, h2⟩ := QS h
   exact ⟨by simpa [QqD] using h1, h2⟩
  ·cases h
 ·cases h
theorem Qia {t : TK} {cs : List AV} {k : AV → Option β} {l} (h : Qdc t cs k l = some r) : Qcy t cs (fun v => k v = some r) () := by
 unfold Qdc at h
 unfold Qcy
 split at h
 ·split at h
  ·exact h
  ·cases h
 ·obtain ⟨hm, h⟩ := VE h
  exact JJ hm (h)
 ·cases h
theorem Qqk {cs : List AV} {o : Nat} {t : TK} {v : AV} {ok : AV → Bool} {k : List AV → Option β} {l} (h : Qek cs o t v ok k l = some r) : Qlo cs o t v ok (fun v => k v = some r) () := by
 unfold Qek at h
 unfold Qlo
 split at h
 ·obtain ⟨hm, h⟩ := VE h
  exact JJ hm (h)
 ·obtain ⟨hm, h⟩ := VE h
  exact JJ hm (h)
 ·cases h
theorem QgS {t : TK} {p v : AV} {k : KS → Option β} {l} (h : QgW K t p v k l = some r) : QcV K t p v (fun K => k K = some r) () := by
 unfold QgW at h
 unfold QcV
 split at h
 ·split at h
  ·rename_i cs hj
   simp only [hj]
   obtain ⟨hm, h⟩ := VE h
   exact JJ hm (Qqk h)
  ·rename_i n rows hj
   simp only [hj]
   obtain ⟨hm, h⟩ := VE h
   exact JJ hm (Qqk h)
  ·cases h
 ·cases h
theorem Qok {t : TK} {j i o n : Nat} {rows : List (List AV)} {v : AV} {k : KS → Option β} {l} {ns : List Nat} (h : Qfw ns K t j i o n rows v k l = some r) : Qb4 ns K t j i o n rows v (fun K => k K = some r) () := by
 unfold Qfw at h
 unfold Qb4
 obtain ⟨hm, h⟩ := VE h
 rw [if_pos hm]
 split at h
 ·rename_i K1 ds hab
  obtain ⟨hc, h⟩ := VE h
  simp only [hab]
  exact JJ hc h
 ·cases h
theorem QoW {fl : Bool} {t : TK} {p v : AV} {k : KS → Option β} {l} {ns : List Nat} (h : Qfx fl ns K t p v k l = some r) : JI fl ns K t p v (fun K => k K = some r) () := by
 unfold Qfx at h
 unfold JI
 split at h
 ·split at h
  ·rename_i n rows hj
   simp only [hj]
   split at h
   ·rename_i hc; rw [if_pos hc]; exact QgS h
   ·rename_i hc
    rw [if_neg hc]
    obtain ⟨hf, h⟩ := VE h
    exact JJ hf (Qok h)
  ·rename_i hj
   cases hk : kg K _ with
   | none => simp only [hk]; exact QgS h
   | some e =>
    cases e with
    | box cs => simp only [hk]; exact QgS h
    | lst n rows => exact absurd hk (hj n rows)
 ·cases h
theorem Qwn {v : AV} {k : AV → KS → Option β} {l} (h : QoG K v k l = some r) : QqE K v (fun v K => k v K = some r) () := by
 unfold QoG at h
 unfold QqE
 split at h
 ·obtain ⟨hm, h⟩ := VE h
  exact JJ hm h
 ·rename_i hn
  obtain ⟨hm, h⟩ := VE h
  cases v with
  | agg cs => exact absurd rfl (hn cs)
  | _ => exact JJ hm h
theorem QqI {z : Option (List AV)} {k : AV → KS → Option β} {l} (h : Qh3 K z k l = some r) : QgO K z (fun v K => k v K = some r) () := by
 unfold Qh3 at h
 unfold QgO
 split at h
 ·exact h
 ·cases h
theorem Qq9 {t : TB} {parts : List (Nat × AV)} {k : AV → Option β} {l} (h : QgA K t parts k l = some r) : QdC K t parts (fun v => k v = some r) () := by
 unfold QgA at h
 unfold QdC
 split at h
 ·split at h
  ·rename_i cs hc; simp only [hc]; exact h
  ·cases h
 ·split at h
  ·rename_i cs hc; simp only [hc]; exact h
  ·cases h
 ·cases h
theorem QoT {t : Option (TypeId × Nat × List AV)} {len : Nat} {parts : List (Nat × AV)} {k : AV → KS → Option β} {l} {fl : Bool} {ns : List Nat} (h : Qee fl ns K t len parts k l = some r) : (fl = true → QnJ K t len parts = true) ∧ Qac ns K t len parts (fun v K => k v K = some r) () := by
 unfold Qee at h
 unfold Qac QnJ
 cases t with
 | none => cases h
 | some q =>
  obtain ⟨e, m, z⟩ := q
  simp only at h ⊢
  by_cases h0 : len = 0
  ·rw [if_pos h0] at h ⊢
   subst h0
   cases parts with
   | nil => exact ⟨fun _ => by simp [Ze, Qbf, noS], h⟩
   | cons _ _ => cases h
  ·rw [if_neg h0] at h ⊢
   obtain ⟨hm, h⟩ := VE h
   rw [if_pos hm]
   cases hx : Ze K (fun i => some (i * m, m)) (Qbf len z) parts with
   | none => rw [hx] at h; cases h
   | some cs =>
    rw [hx] at h
    simp only at h ⊢
    cases hf : yB fl cs with
    | false => rw [hf] at h; cases h
    | true =>
     rw [hf] at h
     simp only [cond_true] at h
     refine ⟨fun hfl => ?_, ?_⟩
     ·rw [hfl] at hf; exact hf
     ·cases ha : Q3 K cs with
      | none => rw [ha] at h; cases h
      | some q =>
       obtain ⟨K1, ds⟩ := q
       rw [ha] at h
       exact h
theorem QwR {v : AV} {i : Nat} {k : AV → Option β} {l} (h : QtT v i k l = some r) : QmD v i (fun v => k v = some r) () := by
 unfold QtT at h
 unfold QmD
 split at h
 ·split at h
  ·rename_i c hc; simp only [hc]; exact h
  ·cases h
 ·cases h
theorem Qxj {o : Option (Nat × TK)} {x : AV} {k : AV → Option β} {l} (h : Qtr o x k l = some r) : Qlw o x (fun v => k v = some r) () := by
 unfold Qtr at h
 unfold Qlw Qnc
 split at h
 ·exact Qia h
 ·cases h
theorem Qoo {t : Option (TypeId × Nat × List AV)} {b : Option Nat} {s x : AV} {k : AV → KS → Option β} {l} (h : QhM K t b s x k l = some r) : Qbz K t b s x (fun v K => k v K = some r) () := by
 unfold QhM at h
 unfold Qbz
 split at h
 ·simp only
  split at h
  ·rename_i rows K1 hs
   simp only [hs]
   split at h
   ·split at h
    ·rename_i n rows hj
     simp only [hj]
     obtain ⟨hm, h⟩ := VE h
     obtain ⟨h1, h2⟩ := QS h
     exact JJ hm ⟨by simpa using h1, h2⟩
    ·cases h
   ·obtain ⟨h1, h2⟩ := QS h
    exact ⟨by simpa using h1, h2⟩
   ·cases h
  ·cases h
 ·cases h
theorem Qv4 {x y : AV} {k : AV → Option β} {l} (h : QtP x y k l = some r) : QlU x y (fun v => k v = some r) () := by
 unfold QtP at h
 unfold QlU
 split at h
 ·exact h
 ·cases h
theorem Qu4 {x y : AV} {k : AV → Option β} {l} (h : Qtb x y k l = some r) : Qlx x y (fun v => k v = some r) () := by
 unfold Qtb at h
 unfold Qlx
 split at h
 ·exact h
 ·cases h
theorem QrO {t : TI} {x : AV} {k : AV → Option β} {l} (h : Qnj t x k l = some r) : Qg4 t x (fun v => k v = some r) () := by
 unfold Qnj at h
 unfold Qg4
 split at h
 ·exact h
 ·cases h
theorem Qsb {K : KS} {t : TI} {x : AV} {k : AV → Option β} {l} (h : Ql9 K t x k l = some r) : Qfu K t x (fun v => k v = some r) () := by
 unfold Ql9 at h
 unfold Qfu
 split at h
 ·split at h
  ·rename_i h1
   split at h
   ·rename_i h2; simp only [h1, h2]; exact h
   ·cases h
  ·cases h
 ·cases h
theorem QqM {op : BinOp} {x : AV} {k : AV → Option β} {l} (h : QgD op x k l = some r) : QdR op x (fun v => k v = some r) () := by
 have key : ∀ {b : Bool} {x y : Option β}, Qhf b x y = some r → (b = true → x = some r) ∧ y = some r := by
  intro b x y h
  unfold Qhf at h
  cases b with
  | false => exact ⟨fun h => (by cases h), h⟩
  | true =>
   simp only [cond_true, oeq] at h
   split at h
   ·rename_i he; exact ⟨fun _ => h, by rw [← he]; exact h⟩
   ·cases h
 unfold QgD at h
 unfold QdR
 split at h
 ·exact key h
 ·exact key h
 ·cases h
theorem QsP {t : Option (TypeId × Nat × List AV)} {b : Option Nat} {x c : AV} {k : AV → KS → Option β} {l} {ns : List Nat} (h : Qp3 ns K t b x c k l = some r) : Qke ns K t b x c (fun v K => k v K = some r) () := by
 unfold Qp3 at h
 unfold Qke
 split at h
 ·simp only
  obtain ⟨h1, h2⟩ := QS h
  obtain ⟨h3, h4⟩ := QS h2
  rw [if_pos (by simpa using h1)]
  exact ⟨by simpa [mkB] using h3, h4⟩
 ·cases h
def SortP [Wd] (P : Program) (g : FuncId) : Prop := ∀ (K : KS) (j : Nat) (rows : List (List AV)) (xs : List Int), kg K j = some (.lst 1 rows) → QaF rows = some xs → xs.length < 4611686018427387904 →
 AC P g K [.sl j] (fun x K' => x = .tup [] ∧ K' = K.set j (some (.lst 1 ((Z3 xs).map cI))))
def CompP [Wd] (P : Program) (g : FuncId) : Prop := ∀ (K : KS) (j : Nat) (rows : List (List AV)) (xs : List Int), kg K j = some (.lst 1 rows) → QaF rows = some xs → xs.length < 4611686018427387904 →
 AC P g K [.sl j] (fun x K' => x = .sl K.length ∧ K' = K.set j none ++ [some (.lst 1 ((XJ xs).map cI))])
theorem Qch : ∀ {l : List Nat}, ndB l = true → l.Nodup
 | [], _ => by simp
 | x :: l, h => by
  simp only [ndB, Bool.and_eq_true, Bool.not_eq_true'] at h
  rw [List.nodup_cons]
  exact ⟨by simpa using h.1, Qch h.2⟩
def ArP [Wd] (P : Program) (D : Orc) : Prop := ∀ g K args x, D.a g K args = some x → AC P g K args (fun v K' => (v = x.1 ∧ K'.take x.2.length = x.2) ∧ rok x.2.length x.1 = true ∧ (∀ e ∈ x.2, clE e = true) ∧ K.length ≤ x.2.length)
def MrP [Wd] (P : Program) (D : Orc) : Prop := ∀ g K args x, D.m g K args = some x → MC P g K args (· = x)
def QdV [Wd] (P : Program) (D : Orc) : Prop := (∀ g args x, D.p g args = some x → PC P g args (· = x)) ∧ (∀ g, D.s g = true → SortP P g) ∧ (∀ g, D.q g = true → CompP P g) ∧ ArP P D ∧ MrP P D
theorem QpK : ∀ {K : KS}, QoF K = true → ∀ e ∈ K, QeI e = true
 | [], _, e, he => by cases he
 | some (.lst n rows) :: K, h, e, he => by
  rcases List.mem_cons.1 he with rfl | he
  ·rfl
  ·exact QpK (K := K) h e he
 | none :: K, h, e, he => by cases h
 | some (.box cs) :: K, h, e, he => by cases h
theorem Qfq : ∀ {K : KS}, Qfd K = true → ∀ e ∈ K, clE e = true
 | [], _, e, he => by cases he
 | some (.lst n rows) :: K, h, e, he => by
  rcases List.mem_cons.1 he with rfl | he
  ·rfl
  ·exact Qfq (K := K) h e he
 | none :: K, h, e, he => by cases h
 | some (.box cs) :: K, h, e, he => by
  simp only [Qfd, Bool.and_eq_true] at h
  rcases List.mem_cons.1 he with rfl | he
  ·exact h.1
  ·exact Qfq (K := K) h.2 e he
theorem Qu7 {s : Operand} (hs : Z6 s = true) (f : Fr) : Qcx (ev f s) = false := by
 cases s with
 | const v =>
  cases v <;> first | (cases hs; done) | skip
  rename_i a l c
  cases a <;> cases l <;> cases c <;> first | rfl | cases hs
 | _ => cases hs
theorem QiZ [Wd] {P : Program} {D : Orc} (hD : QdV P D) {o : Op} {f : Fr} {k : AV → KS → Option β} {l} (h : oop P D o f K k l = some r) : Qah P o f K (fun v K => k v K = some r) () := by
 unfold oop at h
 unfold Qah
 split at h
 case h_21 x args _ =>
  simp only
  unfold QnP at h
  unfold Qk0
  split at h
  ·rename_i g caps hg
   unfold Qc7 Xg at h
   obtain ⟨x, hx, h⟩ := Option.bind_eq_some_iff.1 h
   simp only [hg]
   exact ⟨_, (hD.1 _ _ _ hx).fix, fun y hy => by rw [hy]; exact h⟩
  ·cases h
 all_goals (simp only; unfold xop; simp only)
 case h_1 => exact h
 case h_2 => exact h
 case h_3 => exact Qsx h
 case h_4 => exact QqI h
 case h_5 => exact Qwn h
 case h_6 => exact Qq9 h
 case h_7 => exact QoT h
 case h_8 => exact Qia h
 case h_9 => exact QoW h
 case h_10 =>
  split at h
  ·rename_i hn
   obtain ⟨hm, h⟩ := VE h
   rw [if_pos hn]
   exact JJ hm (QqM h)
  ·rename_i hn
   rw [if_neg hn]
   exact QuN h
 case h_11 => exact QAf h
 case h_12 =>
  split at h
  ·rename_i hb; rw [if_pos hb]; exact Qsb h
  ·rename_i hb
   obtain ⟨hm, h⟩ := VE h
   rw [if_neg hb]
   exact JJ hm (QrO h)
 case h_13 =>
  obtain ⟨hm, h⟩ := VE h
  exact JJ hm (h)
 case h_14 => exact Qvg h
 case h_15 => exact QuE h
 case h_16 => exact QwR h
 case h_17 =>
  split at h
  ·rename_i h1 h2; simp only [h1, h2]; exact Qxl h
  ·cases h
 case h_18 =>
  split at h
  ·rename_i h1 h2
   obtain ⟨⟨hm, hn⟩, h⟩ := VE h
   simp only [h1, h2]
   refine ⟨fun hc => ?_, JJ hm (Qoo h)⟩
   rename_i s x _ _ _ _
   have hs : Z6 s = true := hc
   rw [hs] at hn
   have hs2 : Qcx (ev f s) = false := Qu7 hs f
   have hx2 : Qcx (ev f x) = false := hn
   simp [hs2, hx2]
  ·cases h
 case h_19 =>
  split at h
  ·rename_i h1; simp only [h1]; exact Qv4 h
  ·cases h
 case h_20 =>
  split at h
  ·rename_i h1; simp only [h1]; exact Qu4 h
  ·cases h
 case h_22 => exact QsP h
 case h_23 => exact QuM h
 case h_24 => exact Qwl h
 case h_25 =>
  unfold QtV at h
  unfold Qvz
  split at h
  ·rename_i hv
   simp only [hv]
   unfold Qp7 at h
   split at h
   ·rename_i hj; simp only [hj]; exact h
   ·cases h
  ·rename_i hv
   simp only [hv]; exact h
  ·cases h
 case h_26 => exact Qxj h
 case h_27 => cases h
theorem Qpk [Wd] {P : Program} {D : Orc} (hD : QdV P D) {o : Op} {f : Fr} {K : KS} {k : AV → KS → Option β} {k' : AV → KS → Prop} {l} (h : QaE P D o f K k l = some r) (hk : ∀ v K, k v K = some r → k' v K) : xop P o f K k' () := by
 unfold QaE at h
 split at h
 ·rename_i x args ts _
  show Qk0 (ev f x) (fun g caps => Qg2 P g K (args.toList.map (ev f) ++ caps) k' ()) ()
  unfold QnP at h
  unfold Qk0
  split at h
  ·rename_i g caps hg
   simp only [hg]
   simp only at h
   cases hs : D.s g with
   | false =>
    rw [hs] at h
    have h : cond (D.q g) (Qi2 K (args.toList.map (ev f) ++ caps) k ()) (cond (D.w g) (Qgy D g K (args.toList.map (ev f) ++ caps) k ()) (cond (D.v g) (QeV D g K (args.toList.map (ev f) ++ caps) k ()) (Qc7 D g K (args.toList.map (ev f) ++ caps) k ()))) = some r := h
    cases hq : D.q g with
    | false =>
     rw [hq] at h
     have h : cond (D.w g) (Qgy D g K (args.toList.map (ev f) ++ caps) k ()) (cond (D.v g) (QeV D g K (args.toList.map (ev f) ++ caps) k ()) (Qc7 D g K (args.toList.map (ev f) ++ caps) k ())) = some r := h
     cases hw : D.w g with
     | false =>
      rw [hw] at h
      have h : cond (D.v g) (QeV D g K (args.toList.map (ev f) ++ caps) k ()) (Qc7 D g K (args.toList.map (ev f) ++ caps) k ()) = some r := h
      cases hv : D.v g with
      | false =>
       rw [hv] at h
       have h' : Qc7 D g K (args.toList.map (ev f) ++ caps) k () = some r := h
       unfold Qc7 Xg at h'
       obtain ⟨x, hx, h'⟩ := Option.bind_eq_some_iff.1 h'
       exact .inl ⟨_, (hD.1 _ _ _ hx).fix, fun y hy => by rw [hy]; exact hk _ _ h'⟩
      | true =>
       rw [hv] at h
       have h' : QeV D g K (args.toList.map (ev f) ++ caps) k () = some r := h
       unfold QeV QhO at h'
       obtain ⟨h1, h2⟩ := QS h'
       unfold Qhz at h2
       split at h2
       ·rename_i cs hcs
        obtain ⟨h3, h4⟩ := QS h2
        unfold Xg at h4
        obtain ⟨x, hx, h5⟩ := Option.bind_eq_some_iff.1 h4
        have hls : ∀ j ∈ Qb6 (args.toList.map (ev f) ++ caps), QeI (kg K j) = true := fun j hj => QpK h3 _ (by unfold Xe; exact List.mem_map_of_mem hj)
        exact .inr ⟨_, MC.sub (Qch h1) hls (hD.2.2.2.2 _ _ _ _ hx) hcs, fun v K' ⟨hv, hK⟩ => by rw [hv, hK]; exact hk _ _ h5⟩
       ·cases h2
     | true =>
      rw [hw] at h
      have h' : Qgy D g K (args.toList.map (ev f) ++ caps) k () = some r := h
      unfold Qgy QhD at h'
      obtain ⟨h1, h2⟩ := QS h'
      unfold QhI at h2
      split at h2
      ·rename_i cs hcs
       obtain ⟨h3, h4⟩ := QS h2
       unfold Xg at h4
       obtain ⟨x, hx, h5⟩ := Option.bind_eq_some_iff.1 h4
       have x4 := hD.2.2.2.1 _ _ _ _ hx
       have hlen : (Xe K (Qb6 (args.toList.map (ev f) ++ caps))).length = (Qb6 (args.toList.map (ev f) ++ caps)).length := by simp [Xe]
       rw [hlen] at x4
       have hls : ∀ j ∈ Qb6 (args.toList.map (ev f) ++ caps), clE (kg K j) = true := fun j hj => Qfq h3 _ (by unfold Xe; exact List.mem_map_of_mem hj)
       exact .inr ⟨_, AC.subB (Qch h1) hls x4 hcs, fun v K' ⟨hv, hK⟩ => by rw [hv, hK]; exact hk _ _ h5⟩
      ·cases h2
    | true =>
     rw [hq] at h
     have h' : Qi2 K (args.toList.map (ev f) ++ caps) k () = some r := h
     unfold Qi2 at h'
     split at h'
     ·rename_i j hv
      rw [hv]
      split at h'
      ·rename_i rows hj
       split at h'
       ·rename_i xs hxs
        obtain ⟨h1, h2⟩ := QS h'
        exact .inr ⟨_, hD.2.2.1 g hq K j rows xs hj hxs (by simpa using h1), fun x K' ⟨hx, hK⟩ => by rw [hx, hK]; exact hk _ _ h2⟩
       ·cases h'
      ·cases h'
     ·cases h'
   | true =>
    rw [hs] at h
    have h' : Qkf K (args.toList.map (ev f) ++ caps) k () = some r := h
    unfold Qkf at h'
    split at h'
    ·rename_i j hv
     rw [hv]
     split at h'
     ·rename_i rows hj
      split at h'
      ·rename_i xs hxs
       obtain ⟨h1, h2⟩ := QS h'
       exact .inr ⟨_, hD.2.1 g hs K j rows xs hj hxs (by simpa using h1), fun x K' ⟨hx, hK⟩ => by rw [hx, hK]; exact hk _ _ h2⟩
      ·cases h'
     ·cases h'
    ·cases h'
  ·cases h
 ·exact Qct (JN (QiZ hD h) hk)
theorem QdA [Wd] {P : Program} {D : Orc} (hD : QdV P D) {ops : Array Oper} : ∀ (l : List Oper) {f : Fr} {K : KS} {k : Fr → KS → Option β}, Qdb P D ops l f K k () = some r → Qeo P ops l f K (fun f K => k f K = some r) ()
 | [], f, K, k, h => h
 | o :: l, f, K, k, h => by
  unfold Qdb at h
  unfold Qeo
  split at h
  ·rename_i hg
   simp only [hg]
   refine Qpk hD h fun v K' h => ?_
   unfold Qcw at h
   unfold Qaj
   split at h
   ·rename_i d hd; simp only [hd]; exact QdA hD l h
   ·rename_i hd; simp only [hd]; exact QdA hD l h
  ·cases h
theorem QpW {α : Type} : ∀ {l : List α} {o : Nat} {c : α} {cs : List α}, l.drop o = c :: cs → l[o]? = some c
 | [], o, c, cs, h => by simp at h
 | x :: l, 0, c, cs, h => by simp at h; simp [h.1]
 | x :: l, o + 1, c, cs, h => by simp at h; simpa using QpW h
theorem QBP [Wd] {P : Program} {D : Orc} (hD : QdV P D) {f : Fr} {K : KS} {p x : AV} {g : FuncId} {k : AV → KS → Option β} {l} (h : onp D f K p x g k l = some r) :
  ∃ j i o q m m' rows rs rs' rv, p = .ptr j i o ∧ kg K j = some (.lst q rows) ∧ (Qx rows i)[o]? = some (.own m rs) ∧ x.scal = true ∧
   AC P g [some (.lst m rs)] [.sl 0, x] (fun v K' => (v = rv ∧ K'.take 1 = [some (.lst m' rs')]) ∧ rv.flat = true) ∧ k rv (Qka K j i o q m' rows rs') = some r := by
 unfold onp at h
 split at h
 ·rename_i j i o
  unfold onj at h
  split at h
  ·rename_i q rows hj
   unfold onx at h
   split at h
   ·rename_i m rs cs hcs
    obtain ⟨h1, h2⟩ := QS h
    unfold Xg at h2
    obtain ⟨y, hy, h3⟩ := Option.bind_eq_some_iff.1 h2
    unfold onr at h3
    split at h3
    ·rename_i m' rs' hy2
     obtain ⟨h4, h5⟩ := QS h3
     have y4 := hD.2.2.2.1 _ _ _ _ hy
     rw [hy2] at y4
     simp only [Bool.and_eq_true] at h4
     exact ⟨j, i, o, q, m, m', rows, rs, rs', y.1, rfl, hj, QpW hcs, h1, y4.mono fun v K' ⟨z1, z2, _⟩ => ⟨z1, h4.1⟩, h5⟩
    ·cases h3
   ·cases h
  ·cases h
 ·cases h
theorem QiW [Wd] {P : Program} {D : Orc} (hD : QdV P D) {ops : Array Oper} : ∀ (us : List Nat) (l : List Oper) {f : Fr} {K : KS} {k : Fr → KS → Option β}, QeH P D ops us l f K k () = some r → QeL P ops us l f K (fun f K => k f K = some r)
 | _ :: us, o :: l, f, K, k, h => by
  unfold QeH at h
  unfold QeL
  split at h
  ·rename_i hg
   refine ⟨hg, Qct (JN (QiZ hD h) fun v K' h => ?_)⟩
   unfold Qcw at h
   unfold Qaj
   split at h
   ·rename_i d hd; simp only [hd]; exact QiW hD us l h
   ·rename_i hd; simp only [hd]; exact QiW hD us l h
  ·cases h
 | _ :: _, [], f, K, k, h => by unfold QeH at h; cases h
 | [], l, f, K, k, h => by
  unfold QeH at h
  split at h
  ·rename_i he; cases he
  ·rename_i _ _ d t p _ _ _ e x _ _ _ dst g args ts _ _ _ l' _
   split at h
   ·rename_i d' e' hargs
    obtain ⟨h1, h2⟩ := QS h
    simp only [Bool.and_eq_true, Bool.not_eq_true'] at h1
    obtain ⟨ht, hd', he', hde⟩ := h1
    obtain ⟨j, i, o, q, m, m', rows, rs, rs', rv, q1, q2, q3, q4, q6, q7⟩ := QBP hD h2
    have e1 : d = d' := Nat.eq_of_beq_eq_true hd'
    have e2 : e = e' := Nat.eq_of_beq_eq_true he'
    subst e1 e2
    have ea : args = #[.tmp d, .tmp e] := Array.toList_inj.1 hargs
    subst ea
    unfold QeL
    refine ⟨d, e, t, p, x, g, ts, j, i, o, q, m, m', rows, rs, rs', rv, ⟨rfl, rfl, rfl⟩, ⟨rfl, rfl, rfl⟩, ⟨rfl, rfl⟩, (fun hh => by subst hh; rw [Nat.beq_refl] at hde; cases hde), ?_, q1, q2, q3, q4, q6, ?_⟩
    ·revert ht
     cases tk P t <;> intro ht <;> first | rfl | cases ht
    ·unfold Qcw at q7
     unfold Qaj
     split at q7
     ·exact QdA hD _ q7
     ·exact QdA hD _ q7
   ·cases h
  ·cases h
theorem QfY [Wd] {P : Program} {D : Orc} (hD : QdV P D) {ops : Array Oper} : ∀ (l : List Oper) {f : Fr} {K : KS} {k : Fr → KS → Option β}, QaV P D ops l f K k () = some r → QcS P ops l f K (fun f K => k f K = some r)
 | [], f, K, k, h => h
 | o :: l, f, K, k, h => by
  unfold QaV at h
  unfold QcS
  refine J5.2 ?_
  have yes : ∀ {f}, oop P D o.op f K (fun v K' => Qcw o.dst v f (fun f => QaV P D ops l f K' k ()) ()) () = some r → Qah P o.op f K (fun v K' => QcS P ops l (XB f o.dst v) K' (fun f K => k f K = some r)) () := fun {f} h =>
   JN (QiZ hD h) fun v K' h => QfY hD l (by
    unfold Qcw at h
    unfold XB
    cases hd : o.dst with
    | none => simp only [hd] at h; exact h
    | some d => simp only [hd] at h; exact h)
  have no : ∀ {f}, Qcw o.dst (.tup []) f (fun f => QaV P D ops l f K k ()) () = some r → QcS P ops l (XB f o.dst (.tup [])) K (fun f K => k f K = some r) := fun {f} h => QfY hD l (by
    unfold Qcw at h
    unfold XB
    cases hd : o.dst with
    | none => simp only [hd] at h; exact h
    | some d => simp only [hd] at h; exact h)
  unfold gd
  split at h
  ·rename_i hg; simp only [hg]; exact yes h
  ·rename_i j want hg
   simp only [hg]
   unfold ogd at h
   split at h
   ·rename_i d hj
    simp only [hj]
    split at h
    ·rename_i b hb
     simp only [hb]
     have e1 : up f d (.b b) = f := Qk3 f d _ hb
     cases b <;> cases want <;> simp at h ⊢ <;> rw [e1] at h
     ·exact yes h
     ·exact no h
     ·exact no h
     ·exact yes h
    ·rename_i hb
     simp only [hb]
     exact no h
    ·cases h
   ·cases h
theorem QwL [Wd] {vs : List Nat} {P : Program} {D : Orc} (hD : QdV P D) {o : Op} {f : Fr} {K : KS} {k : AV → KS → Option β} {k' : AV → KS → Prop} {l} (h : Qhs vs P D o f K k l = some r) (hk : ∀ v K, k v K = some r → k' v K) : QfE vs P o f K k' := by
 have key : (∃ g args ts, o = .call ⟨.value (.func g), args, ts⟩) ∨ (vOp vs o = false ∧ Qhs vs P D o f K k l = oop P D o f K k ()) := by
  cases o with
  | call c =>
   obtain ⟨cal, args, ts⟩ := c
   cases cal with
   | value x =>
    cases x with
    | func g => exact .inl ⟨g, args, ts, rfl⟩
    | _ => exact .inr ⟨rfl, rfl⟩
   | _ => exact .inr ⟨rfl, rfl⟩
  | _ => exact .inr ⟨rfl, rfl⟩
 unfold QfE
 rcases key with ⟨g, args, ts, rfl⟩ | ⟨hv, he⟩
 ·have h : cond (vs.contains g) (QaE P D (.call ⟨.value (.func g), args, ts⟩) f K k ()) (oop P D (.call ⟨.value (.func g), args, ts⟩) f K k ()) = some r := h
  have hv : vOp vs (.call ⟨.value (.func g), args, ts⟩) = vs.contains g := rfl
  rw [hv]
  cases hc : vs.contains g with
  | true =>
   rw [hc] at h
   rw [if_pos rfl]
   exact Qpk (l := ()) hD h hk
  | false =>
   rw [hc] at h
   rw [if_neg (by simp)]
   exact JN (QiZ (l := ()) hD h) hk
 ·rw [he] at h
  rw [hv, if_neg (by simp)]
  exact JN (QiZ (l := ()) hD h) hk
theorem QdS [Wd] {vs : List Nat} {P : Program} {D : Orc} (hD : QdV P D) {ops : Array Oper} : ∀ (l : List Oper) {f : Fr} {K : KS} {k : Fr → KS → Option β}, JF vs P D ops l f K k () = some r → QfW vs P ops l f K (fun f K => k f K = some r)
 | [], f, K, k, h => h
 | o :: l, f, K, k, h => by
  unfold JF at h
  unfold QfW QaR
  have yes : ∀ {f}, Qhs vs P D o.op f K (fun v K' => Qcw o.dst v f (fun f => JF vs P D ops l f K' k ()) ()) () = some r → QfE vs P o.op f K (fun v K' => QfW vs P ops l (XB f o.dst v) K' (fun f K => k f K = some r)) := fun {f} h =>
   QwL hD h fun v K' h => QdS hD l (by
    unfold Qcw at h
    unfold XB
    cases hd : o.dst with
    | none => simp only [hd] at h; exact h
    | some d => simp only [hd] at h; exact h)
  have no : ∀ {f}, Qcw o.dst (.tup []) f (fun f => JF vs P D ops l f K k ()) () = some r → QfW vs P ops l (XB f o.dst (.tup [])) K (fun f K => k f K = some r) := fun {f} h => QdS hD l (by
    unfold Qcw at h
    unfold XB
    cases hd : o.dst with
    | none => simp only [hd] at h; exact h
    | some d => simp only [hd] at h; exact h)
  unfold gd
  split at h
  ·rename_i hg; simp only [hg]; exact yes h
  ·rename_i j want hg
   simp only [hg]
   unfold ogd at h
   split at h
   ·rename_i d hj
    simp only [hj]
    split at h
    ·rename_i b hb
     simp only [hb]
     have e1 : up f d (.b b) = f := Qk3 f d _ hb
     cases b <;> cases want <;> simp at h ⊢ <;> rw [e1] at h
     ·exact yes h
     ·exact no h
     ·exact no h
     ·exact yes h
    ·rename_i hb
     simp only [hb]
     exact no h
    ·cases h
   ·cases h
theorem Qny [Wd] {P : Program} {ops : Array Oper} : ∀ (l : List Oper) {f : Fr} {K : KS} {k : Fr → KS → Prop}, QcS P ops l f K k → Qeo P ops l f K k ()
 | [], f, K, k, h => h
 | o :: l, f, K, k, h => by
  unfold QcS QaP at h
  unfold Qeo
  have st : ∀ {f : Fr} {K : KS} {d : Option Tmp} {v : AV}, Qaj d v f (fun f => QcS P ops l f K k) () → Qaj d v f (fun f => Qeo P ops l f K k ()) () := fun {f K d v} h => by
   rw [QfP] at h ⊢; exact Qny l h
  have yes : ∀ {f}, Qah P o.op f K (fun v K' => Qaj o.dst v f (fun f => QcS P ops l f K' k) ()) () → xop P o.op f K (fun v K' => Qaj o.dst v f (fun f => Qeo P ops l f K' k ()) ()) () := fun {f} h =>
   Qct (JN h fun v K' h => st h)
  split at h
  ·rename_i hg; try simp only [hg]
   exact yes h
  ·rename_i j want hg
   try simp only [hg]
   unfold xgd at h ⊢
   split at h
   ·rename_i d hj
    try simp only [hj]
    split at h
    ·rename_i b hb
     unfold XBr at h ⊢
     refine ⟨fun hx => ?_, fun hx => ?_⟩
     ·have := h.1 hx
      cases want
      ·exact st this
      ·exact yes this
     ·have := h.2 hx
      cases want
      ·exact yes this
      ·exact st this
    ·rename_i hb
     exact st h
    ·exact h.elim
   ·exact h.elim
end
end Go.Proofs.YtncpklppoancgaaGreat.Am
