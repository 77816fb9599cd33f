import Derived.Test.YtkbilciipmijjaaGreatEvA
namespace Go.Proofs.YtkbilciipmijjaaGreat.Am
open Go
set_option linter.unusedVariables false
set_option linter.unusedSimpArgs false
section
variable {β : Type} {r : β}
theorem Q3 {b : Bool} {q : Option β} {l} (h : Q7 b q l = some r) : b = true ∧ q = some r := by
 cases b with
 | false => cases h
 | true => exact ⟨rfl, h⟩
theorem QtT {b : Bool} {p q : Option β} (h : cond b p q = some r) : (b = true → p = some r) ∧ (b = false → q = some r) := by
 cases b with
 | false => exact ⟨fun h' => by (cases h'), fun _ => h⟩
 | true => exact ⟨fun _ => h, fun h' => by cases h'⟩
theorem Xf {p : Prop} [Decidable p] {q : Option β} (h : (if p then q else none) = some r) : p ∧ q = some r := by
 by_cases hp : p
 ·rw [if_pos hp] at h; exact ⟨hp, h⟩
 ·rw [if_neg hp] at h; cases h
theorem ZB {p : Prop} [Decidable p] {q : Prop} (hp : p) (hq : q) : (if p then q else False) := by rw [if_pos hp]; exact hq
theorem Qyj (a b : Int) : (a == b) = decide (a = b) := by by_cases h : a = b <;> simp [h]
theorem Qyx (a b : Int) : (a != b) = !decide (a = b) := by by_cases h : a = b <;> simp [h]
theorem Qxs (a b : List UInt8) : (a == b) = decide (a = b) := by by_cases h : a = b <;> simp [h]
theorem QyX (a b : List UInt8) : (a != b) = !decide (a = b) := by by_cases h : a = b <;> simp [h]
theorem QrN {te : Option (List CK)} {xs ys : List AV} {k : Bool → Option β} {l} (h : Qy1 te xs ys k l = some r) : Qng te xs ys (fun v => k v = some r) () := by
 unfold Qy1 at h
 unfold Qng
 split at h
 ·split at h
  ·rename_i hb; simp only [hb]; exact h
  ·cases h
 ·cases h
theorem Qx0 {t : TI} {x : AV} {lo hi : Option AV} {k : AV → Option β} {l} (h : QgB t x lo hi k l = some r) : Qp0 t x lo hi (fun v => k v = some r) () := by
 unfold QgB at h
 unfold Qp0
 split at h
 ·obtain ⟨hm, h⟩ := Xf h
  simp only
  rw [if_pos hm]
  split at h
  ·rename_i h1 h2
   simp only [h1, h2]
   obtain ⟨h3, h4⟩ := Q3 h
   exact ⟨by simpa [slB] using h3, h4⟩
  ·cases h
 ·simp only
  split at h
  ·rename_i h1 h2
   simp only [h1, h2]
   obtain ⟨h3, h4⟩ := Q3 h
   exact ⟨by simpa [slB] using h3, h4⟩
  ·cases h
 ·cases h
theorem Qzr {t : TI} {x i : AV} {k : AV → Option β} {l} (h : Qus t x i k l = some r) : Qpe t x i (fun v => k v = some r) () := by
 unfold Qus at h
 unfold Qpe
 split at h
 ·obtain ⟨h3, h4⟩ := Q3 h
  exact ⟨Qcx.1 h3, h4⟩
 ·cases h
theorem Qx7 {te : Option (List CK)} {op : BinOp} {x y : AV} {k : AV → Option β} {l} (h : JD te op x y k l = some r) : QpE te op x y (fun v => k v = some r) () := by
 unfold JD at h
 unfold QpE
 split at h
 ·simp only
  split at h
  ·exact QrN h
  ·exact QrN h
  ·cases h
 ·simp only
  split at h
  ·exact h
  ·exact h
  ·cases h
 ·simp only
  split at h
  ·rename_i hs
   rw [if_pos hs]
   obtain ⟨h1, h2⟩ := Q3 h
   exact ⟨by simpa using h1, h2⟩
  rename_i hs
  rw [if_neg hs]
  obtain ⟨hc, h⟩ := Xf h
  rw [if_pos hc]
  split at h <;> simp only <;> first
   | exact h
   | (rw [Qyj]; exact h)
   | (rw [Qyx]; exact h)
   | (obtain ⟨h1, h2⟩ := Q3 h; exact ⟨by simpa using h1, h2⟩)
   | cases h
 ·simp only
  split at h <;> simp only <;> first
   | (rw [Qxs]; exact h)
   | (rw [QyX]; exact h)
   | (obtain ⟨h1, h2⟩ := Q3 h; exact ⟨by simpa using h1, h2⟩)
   | cases h
 ·cases h
theorem QDY {op : UnOp} {x : AV} {k : AV → Option β} {l} (h : oun op x k l = some r) : xun op x (fun v => k v = some r) () := by
 unfold oun at h
 unfold xun
 split at h
 ·exact h
 ·exact h
 ·cases h
theorem QvN {c x y : AV} {k : AV → Option β} {l} (h : QkN c x y k l = some r) : QjJ c x y (fun v => k v = some r) () := by
 unfold QkN at h
 unfold QjJ
 split at h
 ·rename_i b
  cases b with
  | true => exact h
  | false => exact h
 ·cases h
variable {K : KS}
theorem Qx2 {t : TI} {x : AV} {k : AV → Option β} {l} (h : QoL K t x k l = some r) : Qpp K t x (fun v => k v = some r) () := by
 unfold QoL at h
 unfold Qpp
 split at h
 ·exact h
 ·exact h
 ·split at h
  ·rename_i e he; simp only [he]; exact h
  ·cases h
 ·exact h
 ·exact h
 ·cases h
theorem QxT {x : AV} {o : Option (Nat × TK)} {k : AV → Option β} {l} (h : Quj K x o k l = some r) : Qp4 K x o (fun v => k v = some r) () := by
 unfold Quj at h
 unfold Qp4
 split at h
 ·split at h
  ·rename_i e he; simp only [he]; exact h
  ·cases h
 ·exact h
 ·cases h
theorem Qyy {t : TI} {x i : AV} {k : AV → Option β} {l} (h : Qp3 K t x i k l = some r) : Qpc K t x i (fun v => k v = some r) () := by
 unfold Qp3 at h
 unfold Qpc
 split at h
 ·obtain ⟨hm, h⟩ := Xf h
  obtain ⟨h1, h2⟩ := Q3 h
  exact ZB hm ⟨Qcx.1 h1, h2⟩
 ·split at h
  ·rename_i e he
   obtain ⟨hm, h⟩ := Xf h
   simp only [he]
   obtain ⟨h1, h2⟩ := Q3 h
   exact ZB hm ⟨Qcx.1 h1, h2⟩
  ·cases h
 ·split at h
  ·rename_i e he
   simp only [he]
   obtain ⟨h1, h2⟩ := Q3 h
   exact ⟨by simpa [Qth] using h1, h2⟩
  ·cases h
 ·cases h
theorem Qpb {t : TK} {cs : List AV} {k : AV → Option β} {l} (h : QgR t cs k l = some r) : QgX t cs (fun v => k v = some r) () := by
 unfold QgR at h
 unfold QgX
 split at h
 ·split at h
  ·exact h
  ·cases h
 ·obtain ⟨hm, h⟩ := Xf h
  exact ZB hm (h)
 ·cases h
theorem QsH {cs : List AV} {o : Nat} {t : TK} {v : AV} {ok : AV → Bool} {k : List AV → Option β} {l} (h : QgI cs o t v ok k l = some r) : QnT cs o t v ok (fun v => k v = some r) () := by
 unfold QgI at h
 unfold QnT
 split at h
 ·obtain ⟨hm, h⟩ := Xf h
  exact ZB hm (h)
 ·obtain ⟨hm, h⟩ := Xf h
  exact ZB hm (h)
 ·cases h
theorem Qjw {t : TK} {p v : AV} {k : KS → Option β} {l} (h : Qi6 K t p v k l = some r) : Qe2 K t p v (fun K => k K = some r) () := by
 unfold Qi6 at h
 unfold Qe2
 split at h
 ·split at h
  ·rename_i cs hj
   simp only [hj]
   obtain ⟨hm, h⟩ := Xf h
   exact ZB hm (QsH h)
  ·rename_i n rows hj
   simp only [hj]
   obtain ⟨hm, h⟩ := Xf h
   exact ZB hm (QsH h)
  ·cases h
 ·cases h
theorem Qqs {t : TK} {j i o n : Nat} {rows : List (List AV)} {v : AV} {k : KS → Option β} {l} {ns : List Nat} (h : QhY ns K t j i o n rows v k l = some r) : QdI ns K t j i o n rows v (fun K => k K = some r) () := by
 unfold QhY at h
 unfold QdI
 obtain ⟨hm, h⟩ := Xf h
 rw [if_pos hm]
 split at h
 ·rename_i K1 ds hab
  obtain ⟨hc, h⟩ := Xf h
  simp only [hab]
  exact ZB hc h
 ·cases h
theorem Qq0 {fl : Bool} {t : TK} {p v : AV} {k : KS → Option β} {l} {ns : List Nat} (h : QhI fl ns K t p v k l = some r) : ZA fl ns K t p v (fun K => k K = some r) () := by
 unfold QhI at h
 unfold ZA
 split at h
 ·split at h
  ·rename_i n rows hj
   simp only [hj]
   split at h
   ·rename_i hc; rw [if_pos hc]; exact Qjw h
   ·rename_i hc
    rw [if_neg hc]
    obtain ⟨hf, h⟩ := Xf h
    exact ZB hf (Qqs h)
  ·rename_i hj
   cases hk : kg K _ with
   | none => simp only [hk]; exact Qjw h
   | some e =>
    cases e with
    | box cs => simp only [hk]; exact Qjw h
    | lst n rows => exact absurd hk (hj n rows)
 ·cases h
theorem QyE {v : AV} {k : AV → KS → Option β} {l} (h : QqO K v k l = some r) : Qtw K v (fun v K => k v K = some r) () := by
 unfold QqO at h
 unfold Qtw
 split at h
 ·obtain ⟨hm, h⟩ := Xf h
  exact ZB hm h
 ·rename_i hn
  obtain ⟨hm, h⟩ := Xf h
  cases v with
  | agg cs => exact absurd rfl (hn cs)
  | _ => exact ZB hm h
theorem Qts {z : Option (List AV)} {k : AV → KS → Option β} {l} (h : Qlu K z k l = some r) : Qjt K z (fun v K => k v K = some r) () := by
 unfold Qlu at h
 unfold Qjt
 split at h
 ·exact h
 ·cases h
theorem QtS {t : TB} {parts : List (Nat × AV)} {k : AV → Option β} {l} (h : Qi3 K t parts k l = some r) : Qf4 K t parts (fun v => k v = some r) () := by
 unfold Qi3 at h
 unfold Qf4
 split at h
 ·split at h
  ·rename_i cs hc; simp only [hc]; exact h
  ·cases h
 ·split at h
  ·rename_i cs hc; simp only [hc]; exact h
  ·cases h
 ·cases h
theorem QqV {t : Option (TypeId × Nat × List AV)} {len : Nat} {parts : List (Nat × AV)} {k : AV → KS → Option β} {l} {fl : Bool} {ns : List Nat} (h : Qgq fl ns K t len parts k l = some r) : (fl = true → Qpq K t len parts = true) ∧ Qbw ns K t len parts (fun v K => k v K = some r) () := by
 unfold Qgq at h
 unfold Qbw Qpq
 cases t with
 | none => cases h
 | some q =>
  obtain ⟨e, m, z⟩ := q
  simp only at h ⊢
  by_cases h0 : len = 0
  ·rw [if_pos h0] at h ⊢
   subst h0
   cases parts with
   | nil => exact ⟨fun _ => by simp [Qap, QcA, noS], h⟩
   | cons _ _ => cases h
  ·rw [if_neg h0] at h ⊢
   obtain ⟨hm, h⟩ := Xf h
   rw [if_pos hm]
   cases hx : Qap K (fun i => some (i * m, m)) (QcA len z) parts with
   | none => rw [hx] at h; cases h
   | some cs =>
    rw [hx] at h
    simp only at h ⊢
    cases hf : yB fl cs with
    | false => rw [hf] at h; cases h
    | true =>
     rw [hf] at h
     simp only [cond_true] at h
     refine ⟨fun hfl => ?_, ?_⟩
     ·rw [hfl] at hf; exact hf
     ·cases ha : Ve K cs with
      | none => rw [ha] at h; cases h
      | some q =>
       obtain ⟨K1, ds⟩ := q
       rw [ha] at h
       exact h
theorem Qxt {v : AV} {i : Nat} {k : AV → Option β} {l} (h : QuG v i k l = some r) : Qps v i (fun v => k v = some r) () := by
 unfold QuG at h
 unfold Qps
 split at h
 ·split at h
  ·rename_i c hc; simp only [hc]; exact h
  ·cases h
 ·cases h
theorem Qqd {t : Option (TypeId × Nat × List AV)} {b : Option Nat} {s x : AV} {k : AV → KS → Option β} {l} (h : Qkr K t b s x k l = some r) : Qc5 K t b s x (fun v K => k v K = some r) () := by
 unfold Qkr at h
 unfold Qc5
 split at h
 ·simp only
  split at h
  ·rename_i rows K1 hs
   simp only [hs]
   split at h
   ·split at h
    ·rename_i n rows hj
     simp only [hj]
     obtain ⟨hm, h⟩ := Xf h
     obtain ⟨h1, h2⟩ := Q3 h
     exact ZB hm ⟨by simpa using h1, h2⟩
    ·cases h
   ·obtain ⟨h1, h2⟩ := Q3 h
    exact ⟨by simpa using h1, h2⟩
   ·cases h
  ·cases h
 ·cases h
theorem QyJ {x y : AV} {k : AV → Option β} {l} (h : Qxr x y k l = some r) : Qoh x y (fun v => k v = some r) () := by
 unfold Qxr at h
 unfold Qoh
 split at h
 ·exact h
 ·cases h
theorem Qzi {x y : AV} {k : AV → Option β} {l} (h : Quq x y k l = some r) : Qot x y (fun v => k v = some r) () := by
 unfold Quq at h
 unfold Qot
 split at h
 ·exact h
 ·cases h
theorem QvL {t : TI} {x : AV} {k : AV → Option β} {l} (h : QpU t x k l = some r) : QjI t x (fun v => k v = some r) () := by
 unfold QpU at h
 unfold QjI
 split at h
 ·exact h
 ·cases h
theorem QwD {K : KS} {t : TI} {x : AV} {k : AV → Option β} {l} (h : Qow K t x k l = some r) : Qh0 K t x (fun v => k v = some r) () := by
 unfold Qow at h
 unfold Qh0
 split at h
 ·split at h
  ·rename_i h1
   split at h
   ·rename_i h2; simp only [h1, h2]; exact h
   ·cases h
  ·cases h
 ·cases h
theorem Qtm {op : BinOp} {x : AV} {k : AV → Option β} {l} (h : QiM op x k l = some r) : QfR op x (fun v => k v = some r) () := by
 have key : ∀ {b : Bool} {x y : Option β}, QjY b x y = some r → (b = true → x = some r) ∧ y = some r := by
  intro b x y h
  unfold QjY at h
  cases b with
  | false => exact ⟨fun h => (by cases h), h⟩
  | true =>
   simp only [cond_true, oeq] at h
   split at h
   ·rename_i he; exact ⟨fun _ => h, by rw [← he]; exact h⟩
   ·cases h
 unfold QiM at h
 unfold QfR
 split at h
 ·exact key h
 ·exact key h
 ·cases h
theorem Qxl {t : Option (TypeId × Nat × List AV)} {b : Option Nat} {x c : AV} {k : AV → KS → Option β} {l} {ns : List Nat} (h : QsX ns K t b x c k l = some r) : QmI ns K t b x c (fun v K => k v K = some r) () := by
 unfold QsX at h
 unfold QmI
 split at h
 ·simp only
  obtain ⟨h1, h2⟩ := Q3 h
  obtain ⟨h3, h4⟩ := Q3 h2
  rw [if_pos (by simpa using h1)]
  exact ⟨by simpa [mkB] using h3, h4⟩
 ·cases h
def SortP [Wd] (P : Program) (g : FuncId) : Prop := ∀ (K : KS) (j : Nat) (rows : List (List AV)) (xs : List Int), kg K j = some (.lst 1 rows) → QbM rows = some xs → xs.length < 4611686018427387904 →
 AC P g K [.sl j] (fun x K' => x = .tup [] ∧ K' = K.set j (some (.lst 1 ((Je xs).map cI))))
def CompP [Wd] (P : Program) (g : FuncId) : Prop := ∀ (K : KS) (j : Nat) (rows : List (List AV)) (xs : List Int), kg K j = some (.lst 1 rows) → QbM rows = some xs → xs.length < 4611686018427387904 →
 AC P g K [.sl j] (fun x K' => x = .sl K.length ∧ K' = K.set j none ++ [some (.lst 1 ((XG xs).map cI))])
theorem Qed : ∀ {l : List Nat}, ndB l = true → l.Nodup
 | [], _ => by simp
 | x :: l, h => by
  simp only [ndB, Bool.and_eq_true, Bool.not_eq_true'] at h
  rw [List.nodup_cons]
  exact ⟨by simpa using h.1, Qed h.2⟩
def ArP [Wd] (P : Program) (D : Orc) : Prop := ∀ g K args x, D.a g K args = some x → AC P g K args (fun v K' => (v = x.1 ∧ K'.take x.2.length = x.2) ∧ rok x.2.length x.1 = true ∧ (∀ e ∈ x.2, clE e = true) ∧ K.length ≤ x.2.length)
def MrP [Wd] (P : Program) (D : Orc) : Prop := ∀ g K args x, D.m g K args = some x → MC P g K args (· = x)
def QfS [Wd] (P : Program) (D : Orc) : Prop := (∀ g args x, D.p g args = some x → PC P g args (· = x)) ∧ (∀ g, D.s g = true → SortP P g) ∧ (∀ g, D.q g = true → CompP P g) ∧ ArP P D ∧ MrP P D
theorem Qrj : ∀ {K : KS}, QqD K = true → ∀ e ∈ K, QgU e = true
 | [], _, e, he => by cases he
 | some (.lst n rows) :: K, h, e, he => by
  rcases List.mem_cons.1 he with rfl | he
  ·rfl
  ·exact Qrj (K := K) h e he
 | none :: K, h, e, he => by cases h
 | some (.box cs) :: K, h, e, he => by cases h
theorem Qiq : ∀ {K : KS}, Qhs K = true → ∀ e ∈ K, clE e = true
 | [], _, e, he => by cases he
 | some (.lst n rows) :: K, h, e, he => by
  rcases List.mem_cons.1 he with rfl | he
  ·rfl
  ·exact Qiq (K := K) h e he
 | none :: K, h, e, he => by cases h
 | some (.box cs) :: K, h, e, he => by
  simp only [Qhs, Bool.and_eq_true] at h
  rcases List.mem_cons.1 he with rfl | he
  ·exact h.1
  ·exact Qiq (K := K) h.2 e he
theorem QxN {s : Operand} (hs : Qbb s = true) (f : Fr) : Qen (ev f s) = false := by
 cases s with
 | const v =>
  cases v <;> first | (cases hs; done) | skip
  rename_i a l c
  cases a <;> cases l <;> cases c <;> first | rfl | cases hs
 | _ => cases hs
theorem Qky [Wd] {P : Program} {D : Orc} (hD : QfS P D) {o : Op} {f : Fr} {k : AV → KS → Option β} {l} (h : oop P D o f K k l = some r) : Qbz P o f K (fun v K => k v K = some r) () := by
 unfold oop at h
 unfold Qbz
 split at h
 case h_21 x args _ =>
  simp only
  unfold Qqc at h
  unfold Qn5
  split at h
  ·rename_i g caps hg
   unfold Qe6 X6 at h
   obtain ⟨x, hx, h⟩ := Option.bind_eq_some_iff.1 h
   simp only [hg]
   exact ⟨_, (hD.1 _ _ _ hx).fix, fun y hy => by rw [hy]; exact h⟩
  ·cases h
 all_goals (simp only; unfold xop; simp only)
 case h_1 => exact h
 case h_2 => exact h
 case h_3 => exact QvN h
 case h_4 => exact Qts h
 case h_5 => exact QyE h
 case h_6 => exact QtS h
 case h_7 => exact QqV h
 case h_8 => exact Qpb h
 case h_9 => exact Qq0 h
 case h_10 =>
  split at h
  ·rename_i hn
   obtain ⟨hm, h⟩ := Xf h
   rw [if_pos hn]
   exact ZB hm (Qtm h)
  ·rename_i hn
   rw [if_neg hn]
   exact Qx7 h
 case h_11 => exact QDY h
 case h_12 =>
  split at h
  ·rename_i hb; rw [if_pos hb]; exact QwD h
  ·rename_i hb
   obtain ⟨hm, h⟩ := Xf h
   rw [if_neg hb]
   exact ZB hm (QvL h)
 case h_13 =>
  obtain ⟨hm, h⟩ := Xf h
  exact ZB hm (h)
 case h_14 => exact QxT h
 case h_15 => exact Qyy h
 case h_16 => exact Qxt h
 case h_17 =>
  split at h
  ·rename_i h1 h2; simp only [h1, h2]; exact Qx2 h
  ·cases h
 case h_18 =>
  split at h
  ·rename_i h1 h2
   obtain ⟨⟨hm, hn⟩, h⟩ := Xf h
   simp only [h1, h2]
   refine ⟨fun hc => ?_, ZB hm (Qqd h)⟩
   rename_i s x _ _ _ _
   have hs : Qbb s = true := hc
   rw [hs] at hn
   have hs2 : Qen (ev f s) = false := QxN hs f
   have hx2 : Qen (ev f x) = false := hn
   simp [hs2, hx2]
  ·cases h
 case h_19 =>
  split at h
  ·rename_i h1; simp only [h1]; exact QyJ h
  ·cases h
 case h_20 =>
  split at h
  ·rename_i h1; simp only [h1]; exact Qzi h
  ·cases h
 case h_22 => exact Qxl h
 case h_23 => exact Qx0 h
 case h_24 => exact Qzr h
 case h_25 =>
  unfold QwW at h
  unfold QyR
  split at h
  ·rename_i hv
   simp only [hv]
   unfold QsR at h
   split at h
   ·rename_i hj; simp only [hj]; exact h
   ·cases h
  ·rename_i hv
   simp only [hv]; exact h
  ·cases h
 case h_26 => cases h
theorem Qry [Wd] {P : Program} {D : Orc} (hD : QfS P D) {o : Op} {f : Fr} {K : KS} {k : AV → KS → Option β} {k' : AV → KS → Prop} {l} (h : Qce P D o f K k l = some r) (hk : ∀ v K, k v K = some r → k' v K) : xop P o f K k' () := by
 unfold Qce at h
 split at h
 ·rename_i x args ts _
  show Qn5 (ev f x) (fun g caps => Qjy P g K (args.toList.map (ev f) ++ caps) k' ()) ()
  unfold Qqc at h
  unfold Qn5
  split at h
  ·rename_i g caps hg
   simp only [hg]
   simp only at h
   cases hs : D.s g with
   | false =>
    rw [hs] at h
    have h : cond (D.q g) (QlF K (args.toList.map (ev f) ++ caps) k ()) (cond (D.w g) (QiX D g K (args.toList.map (ev f) ++ caps) k ()) (cond (D.v g) (Qhb D g K (args.toList.map (ev f) ++ caps) k ()) (Qe6 D g K (args.toList.map (ev f) ++ caps) k ()))) = some r := h
    cases hq : D.q g with
    | false =>
     rw [hq] at h
     have h : cond (D.w g) (QiX D g K (args.toList.map (ev f) ++ caps) k ()) (cond (D.v g) (Qhb D g K (args.toList.map (ev f) ++ caps) k ()) (Qe6 D g K (args.toList.map (ev f) ++ caps) k ())) = some r := h
     cases hw : D.w g with
     | false =>
      rw [hw] at h
      have h : cond (D.v g) (Qhb D g K (args.toList.map (ev f) ++ caps) k ()) (Qe6 D g K (args.toList.map (ev f) ++ caps) k ()) = some r := h
      cases hv : D.v g with
      | false =>
       rw [hv] at h
       have h' : Qe6 D g K (args.toList.map (ev f) ++ caps) k () = some r := h
       unfold Qe6 X6 at h'
       obtain ⟨x, hx, h'⟩ := Option.bind_eq_some_iff.1 h'
       exact .inl ⟨_, (hD.1 _ _ _ hx).fix, fun y hy => by rw [hy]; exact hk _ _ h'⟩
      | true =>
       rw [hv] at h
       have h' : Qhb D g K (args.toList.map (ev f) ++ caps) k () = some r := h
       unfold Qhb Qkt at h'
       obtain ⟨h1, h2⟩ := Q3 h'
       unfold Qkd at h2
       split at h2
       ·rename_i cs hcs
        obtain ⟨h3, h4⟩ := Q3 h2
        unfold X6 at h4
        obtain ⟨x, hx, h5⟩ := Option.bind_eq_some_iff.1 h4
        have hls : ∀ j ∈ QdM (args.toList.map (ev f) ++ caps), QgU (kg K j) = true := fun j hj => Qrj h3 _ (by unfold X3; exact List.mem_map_of_mem hj)
        exact .inr ⟨_, MC.sub (Qed h1) hls (hD.2.2.2.2 _ _ _ _ hx) hcs, fun v K' ⟨hv, hK⟩ => by rw [hv, hK]; exact hk _ _ h5⟩
       ·cases h2
     | true =>
      rw [hw] at h
      have h' : QiX D g K (args.toList.map (ev f) ++ caps) k () = some r := h
      unfold QiX Qkk at h'
      obtain ⟨h1, h2⟩ := Q3 h'
      unfold Qkl at h2
      split at h2
      ·rename_i cs hcs
       obtain ⟨h3, h4⟩ := Q3 h2
       unfold X6 at h4
       obtain ⟨x, hx, h5⟩ := Option.bind_eq_some_iff.1 h4
       have x4 := hD.2.2.2.1 _ _ _ _ hx
       have hlen : (X3 K (QdM (args.toList.map (ev f) ++ caps))).length = (QdM (args.toList.map (ev f) ++ caps)).length := by simp [X3]
       rw [hlen] at x4
       have hls : ∀ j ∈ QdM (args.toList.map (ev f) ++ caps), clE (kg K j) = true := fun j hj => Qiq h3 _ (by unfold X3; exact List.mem_map_of_mem hj)
       exact .inr ⟨_, AC.subB (Qed h1) hls x4 hcs, fun v K' ⟨hv, hK⟩ => by rw [hv, hK]; exact hk _ _ h5⟩
      ·cases h2
    | true =>
     rw [hq] at h
     have h' : QlF K (args.toList.map (ev f) ++ caps) k () = some r := h
     unfold QlF at h'
     split at h'
     ·rename_i j hv
      rw [hv]
      split at h'
      ·rename_i rows hj
       split at h'
       ·rename_i xs hxs
        obtain ⟨h1, h2⟩ := Q3 h'
        exact .inr ⟨_, hD.2.2.1 g hq K j rows xs hj hxs (by simpa using h1), fun x K' ⟨hx, hK⟩ => by rw [hx, hK]; exact hk _ _ h2⟩
       ·cases h'
      ·cases h'
     ·cases h'
   | true =>
    rw [hs] at h
    have h' : Qmv K (args.toList.map (ev f) ++ caps) k () = some r := h
    unfold Qmv at h'
    split at h'
    ·rename_i j hv
     rw [hv]
     split at h'
     ·rename_i rows hj
      split at h'
      ·rename_i xs hxs
       obtain ⟨h1, h2⟩ := Q3 h'
       exact .inr ⟨_, hD.2.1 g hs K j rows xs hj hxs (by simpa using h1), fun x K' ⟨hx, hK⟩ => by rw [hx, hK]; exact hk _ _ h2⟩
      ·cases h'
     ·cases h'
    ·cases h'
  ·cases h
 ·exact Qek (ZS (Qky hD h) hk)
theorem Qfz [Wd] {P : Program} {D : Orc} (hD : QfS P D) {ops : Array Oper} : ∀ (l : List Oper) {f : Fr} {K : KS} {k : Fr → KS → Option β}, Qfg P D ops l f K k () = some r → Qgz P ops l f K (fun f K => k f K = some r) ()
 | [], f, K, k, h => h
 | o :: l, f, K, k, h => by
  unfold Qfg at h
  unfold Qgz
  split at h
  ·rename_i hg
   simp only [hg]
   refine Qry hD h fun v K' h => ?_
   unfold Qel at h
   unfold QbC
   split at h
   ·rename_i d hd; simp only [hd]; exact Qfz hD l h
   ·rename_i hd; simp only [hd]; exact Qfz hD l h
  ·cases h
theorem QsC {α : Type} : ∀ {l : List α} {o : Nat} {c : α} {cs : List α}, l.drop o = c :: cs → l[o]? = some c
 | [], o, c, cs, h => by simp at h
 | x :: l, 0, c, cs, h => by simp at h; simp [h.1]
 | x :: l, o + 1, c, cs, h => by simp at h; simpa using QsC h
theorem QDi [Wd] {P : Program} {D : Orc} (hD : QfS P D) {f : Fr} {K : KS} {p x : AV} {g : FuncId} {k : AV → KS → Option β} {l} (h : onp D f K p x g k l = some r) :
  ∃ j i o q m m' rows rs rs' rv, p = .ptr j i o ∧ kg K j = some (.lst q rows) ∧ (Qy rows i)[o]? = some (.own m rs) ∧ x.scal = true ∧
   AC P g [some (.lst m rs)] [.sl 0, x] (fun v K' => (v = rv ∧ K'.take 1 = [some (.lst m' rs')]) ∧ rv.flat = true) ∧ k rv (Qm6 K j i o q m' rows rs') = some r := by
 unfold onp at h
 split at h
 ·rename_i j i o
  unfold onj at h
  split at h
  ·rename_i q rows hj
   unfold onx at h
   split at h
   ·rename_i m rs cs hcs
    obtain ⟨h1, h2⟩ := Q3 h
    unfold X6 at h2
    obtain ⟨y, hy, h3⟩ := Option.bind_eq_some_iff.1 h2
    unfold onr at h3
    split at h3
    ·rename_i m' rs' hy2
     obtain ⟨h4, h5⟩ := Q3 h3
     have y4 := hD.2.2.2.1 _ _ _ _ hy
     rw [hy2] at y4
     simp only [Bool.and_eq_true] at h4
     exact ⟨j, i, o, q, m, m', rows, rs, rs', y.1, rfl, hj, QsC hcs, h1, y4.mono fun v K' ⟨z1, z2, _⟩ => ⟨z1, h4.1⟩, h5⟩
    ·cases h3
   ·cases h
  ·cases h
 ·cases h
theorem QlT [Wd] {P : Program} {D : Orc} (hD : QfS P D) {ops : Array Oper} : ∀ (us : List Nat) (l : List Oper) {f : Fr} {K : KS} {k : Fr → KS → Option β}, QgS P D ops us l f K k () = some r → QgT P ops us l f K (fun f K => k f K = some r)
 | _ :: us, o :: l, f, K, k, h => by
  unfold QgS at h
  unfold QgT
  split at h
  ·rename_i hg
   refine ⟨hg, Qek (ZS (Qky hD h) fun v K' h => ?_)⟩
   unfold Qel at h
   unfold QbC
   split at h
   ·rename_i d hd; simp only [hd]; exact QlT hD us l h
   ·rename_i hd; simp only [hd]; exact QlT hD us l h
  ·cases h
 | _ :: _, [], f, K, k, h => by unfold QgS at h; cases h
 | [], l, f, K, k, h => by
  unfold QgS at h
  split at h
  ·rename_i he; cases he
  ·rename_i _ _ d t p _ _ _ e x _ _ _ dst g args ts _ _ _ l' _
   split at h
   ·rename_i d' e' hargs
    obtain ⟨h1, h2⟩ := Q3 h
    simp only [Bool.and_eq_true, Bool.not_eq_true'] at h1
    obtain ⟨ht, hd', he', hde⟩ := h1
    obtain ⟨j, i, o, q, m, m', rows, rs, rs', rv, q1, q2, q3, q4, q6, q7⟩ := QDi hD h2
    have e1 : d = d' := Nat.eq_of_beq_eq_true hd'
    have e2 : e = e' := Nat.eq_of_beq_eq_true he'
    subst e1 e2
    have ea : args = #[.tmp d, .tmp e] := Array.toList_inj.1 hargs
    subst ea
    unfold QgT
    refine ⟨d, e, t, p, x, g, ts, j, i, o, q, m, m', rows, rs, rs', rv, ⟨rfl, rfl, rfl⟩, ⟨rfl, rfl, rfl⟩, ⟨rfl, rfl⟩, (fun hh => by subst hh; rw [Nat.beq_refl] at hde; cases hde), ?_, q1, q2, q3, q4, q6, ?_⟩
    ·revert ht
     cases tk P t <;> intro ht <;> first | rfl | cases ht
    ·unfold Qel at q7
     unfold QbC
     split at q7
     ·exact Qfz hD _ q7
     ·exact Qfz hD _ q7
   ·cases h
  ·cases h
theorem Qiu [Wd] {P : Program} {D : Orc} (hD : QfS P D) {ops : Array Oper} : ∀ (l : List Oper) {f : Fr} {K : KS} {k : Fr → KS → Option β}, Qcr P D ops l f K k () = some r → QeH P ops l f K (fun f K => k f K = some r)
 | [], f, K, k, h => h
 | o :: l, f, K, k, h => by
  unfold Qcr at h
  unfold QeH
  refine Z2.2 ?_
  have yes : ∀ {f}, oop P D o.op f K (fun v K' => Qel o.dst v f (fun f => Qcr P D ops l f K' k ()) ()) () = some r → Qbz P o.op f K (fun v K' => QeH P ops l (JB f o.dst v) K' (fun f K => k f K = some r)) () := fun {f} h =>
   ZS (Qky hD h) fun v K' h => Qiu hD l (by
    unfold Qel at h
    unfold JB
    cases hd : o.dst with
    | none => simp only [hd] at h; exact h
    | some d => simp only [hd] at h; exact h)
  have no : ∀ {f}, Qel o.dst (.tup []) f (fun f => Qcr P D ops l f K k ()) () = some r → QeH P ops l (JB f o.dst (.tup [])) K (fun f K => k f K = some r) := fun {f} h => Qiu hD l (by
    unfold Qel at h
    unfold JB
    cases hd : o.dst with
    | none => simp only [hd] at h; exact h
    | some d => simp only [hd] at h; exact h)
  unfold gd
  split at h
  ·rename_i hg; simp only [hg]; exact yes h
  ·rename_i j want hg
   simp only [hg]
   unfold ogd at h
   split at h
   ·rename_i d hj
    simp only [hj]
    split at h
    ·rename_i b hb
     simp only [hb]
     have e1 : up f d (.b b) = f := Qnn f d _ hb
     cases b <;> cases want <;> simp at h ⊢ <;> rw [e1] at h
     ·exact yes h
     ·exact no h
     ·exact no h
     ·exact yes h
    ·rename_i hb
     simp only [hb]
     exact no h
    ·cases h
   ·cases h
theorem QzR [Wd] {vs : List Nat} {P : Program} {D : Orc} (hD : QfS P D) {o : Op} {f : Fr} {K : KS} {k : AV → KS → Option β} {k' : AV → KS → Prop} {l} (h : Qkb vs P D o f K k l = some r) (hk : ∀ v K, k v K = some r → k' v K) : QhT vs P o f K k' := by
 have key : (∃ g args ts, o = .call ⟨.value (.func g), args, ts⟩) ∨ (vOp vs o = false ∧ Qkb vs P D o f K k l = oop P D o f K k ()) := by
  cases o with
  | call c =>
   obtain ⟨cal, args, ts⟩ := c
   cases cal with
   | value x =>
    cases x with
    | func g => exact .inl ⟨g, args, ts, rfl⟩
    | _ => exact .inr ⟨rfl, rfl⟩
   | _ => exact .inr ⟨rfl, rfl⟩
  | _ => exact .inr ⟨rfl, rfl⟩
 unfold QhT
 rcases key with ⟨g, args, ts, rfl⟩ | ⟨hv, he⟩
 ·have h : cond (vs.contains g) (Qce P D (.call ⟨.value (.func g), args, ts⟩) f K k ()) (oop P D (.call ⟨.value (.func g), args, ts⟩) f K k ()) = some r := h
  have hv : vOp vs (.call ⟨.value (.func g), args, ts⟩) = vs.contains g := rfl
  rw [hv]
  cases hc : vs.contains g with
  | true =>
   rw [hc] at h
   rw [if_pos rfl]
   exact Qry (l := ()) hD h hk
  | false =>
   rw [hc] at h
   rw [if_neg (by simp)]
   exact ZS (Qky (l := ()) hD h) hk
 ·rw [he] at h
  rw [hv, if_neg (by simp)]
  exact ZS (Qky (l := ()) hD h) hk
theorem QfB [Wd] {vs : List Nat} {P : Program} {D : Orc} (hD : QfS P D) {ops : Array Oper} : ∀ (l : List Oper) {f : Fr} {K : KS} {k : Fr → KS → Option β}, Zw vs P D ops l f K k () = some r → Qis vs P ops l f K (fun f K => k f K = some r)
 | [], f, K, k, h => h
 | o :: l, f, K, k, h => by
  unfold Zw at h
  unfold Qis Qcg
  have yes : ∀ {f}, Qkb vs P D o.op f K (fun v K' => Qel o.dst v f (fun f => Zw vs P D ops l f K' k ()) ()) () = some r → QhT vs P o.op f K (fun v K' => Qis vs P ops l (JB f o.dst v) K' (fun f K => k f K = some r)) := fun {f} h =>
   QzR hD h fun v K' h => QfB hD l (by
    unfold Qel at h
    unfold JB
    cases hd : o.dst with
    | none => simp only [hd] at h; exact h
    | some d => simp only [hd] at h; exact h)
  have no : ∀ {f}, Qel o.dst (.tup []) f (fun f => Zw vs P D ops l f K k ()) () = some r → Qis vs P ops l (JB f o.dst (.tup [])) K (fun f K => k f K = some r) := fun {f} h => QfB hD l (by
    unfold Qel at h
    unfold JB
    cases hd : o.dst with
    | none => simp only [hd] at h; exact h
    | some d => simp only [hd] at h; exact h)
  unfold gd
  split at h
  ·rename_i hg; simp only [hg]; exact yes h
  ·rename_i j want hg
   simp only [hg]
   unfold ogd at h
   split at h
   ·rename_i d hj
    simp only [hj]
    split at h
    ·rename_i b hb
     simp only [hb]
     have e1 : up f d (.b b) = f := Qnn f d _ hb
     cases b <;> cases want <;> simp at h ⊢ <;> rw [e1] at h
     ·exact yes h
     ·exact no h
     ·exact no h
     ·exact yes h
    ·rename_i hb
     simp only [hb]
     exact no h
    ·cases h
   ·cases h
theorem QoM [Wd] {P : Program} {ops : Array Oper} : ∀ (l : List Oper) {f : Fr} {K : KS} {k : Fr → KS → Prop}, QeH P ops l f K k → Qgz P ops l f K k ()
 | [], f, K, k, h => h
 | o :: l, f, K, k, h => by
  unfold QeH Qcf at h
  unfold Qgz
  have st : ∀ {f : Fr} {K : KS} {d : Option Tmp} {v : AV}, QbC d v f (fun f => QeH P ops l f K k) () → QbC d v f (fun f => Qgz P ops l f K k ()) () := fun {f K d v} h => by
   rw [QiK] at h ⊢; exact QoM l h
  have yes : ∀ {f}, Qbz P o.op f K (fun v K' => QbC o.dst v f (fun f => QeH P ops l f K' k) ()) () → xop P o.op f K (fun v K' => QbC o.dst v f (fun f => Qgz P ops l f K' k ()) ()) () := fun {f} h =>
   Qek (ZS h fun v K' h => st h)
  split at h
  ·rename_i hg; try simp only [hg]
   exact yes h
  ·rename_i j want hg
   try simp only [hg]
   unfold xgd at h ⊢
   split at h
   ·rename_i d hj
    try simp only [hj]
    split at h
    ·rename_i b hb
     unfold XBr at h ⊢
     refine ⟨fun hx => ?_, fun hx => ?_⟩
     ·have := h.1 hx
      cases want
      ·exact st this
      ·exact yes this
     ·have := h.2 hx
      cases want
      ·exact yes this
      ·exact st this
    ·rename_i hb
     exact st h
    ·exact h.elim
   ·exact h.elim
end
end Go.Proofs.YtkbilciipmijjaaGreat.Am
