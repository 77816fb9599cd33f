import Derived.Test.YtkbilciipmijjaaGreatEvA
namespace Go.Proofs.YtkbilciipmijjaaGreat.Am
open Go
set_option linter.unusedVariables false
set_option linter.unusedSimpArgs false
section
variable {β : Type} {r : β}
theorem Q6 {b : Bool} {q : Option β} {l} (h : Vb b q l = some r) : b = true ∧ q = some r := by
 cases b with
 | false => cases h
 | true => exact ⟨rfl, h⟩
theorem QtK {b : Bool} {p q : Option β} (h : cond b p q = some r) : (b = true → p = some r) ∧ (b = false → q = some r) := by
 cases b with
 | false => exact ⟨fun h' => by (cases h'), fun _ => h⟩
 | true => exact ⟨fun _ => h, fun h' => by cases h'⟩
theorem Xj {p : Prop} [Decidable p] {q : Option β} (h : (if p then q else none) = some r) : p ∧ q = some r := by
 by_cases hp : p
 ·rw [if_pos hp] at h; exact ⟨hp, h⟩
 ·rw [if_neg hp] at h; cases h
theorem Zw {p : Prop} [Decidable p] {q : Prop} (hp : p) (hq : q) : (if p then q else False) := by rw [if_pos hp]; exact hq
theorem Qzt (a b : Int) : (a == b) = decide (a = b) := by by_cases h : a = b <;> simp [h]
theorem QxI (a b : Int) : (a != b) = !decide (a = b) := by by_cases h : a = b <;> simp [h]
theorem Qxr (a b : List UInt8) : (a == b) = decide (a = b) := by by_cases h : a = b <;> simp [h]
theorem Qxc (a b : List UInt8) : (a != b) = !decide (a = b) := by by_cases h : a = b <;> simp [h]
theorem Qrh {te : Option (List CK)} {xs ys : List AV} {k : Bool → Option β} {l} (h : QxZ te xs ys k l = some r) : Qnb te xs ys (fun v => k v = some r) () := by
 unfold QxZ at h
 unfold Qnb
 split at h
 ·split at h
  ·rename_i hb; simp only [hb]; exact h
  ·cases h
 ·cases h
theorem QxW {t : TI} {x : AV} {lo hi : Option AV} {k : AV → Option β} {l} (h : Qgn t x lo hi k l = some r) : QnO t x lo hi (fun v => k v = some r) () := by
 unfold Qgn at h
 unfold QnO
 split at h
 ·obtain ⟨hm, h⟩ := Xj h
  simp only
  rw [if_pos hm]
  split at h
  ·rename_i h1 h2
   simp only [h1, h2]
   obtain ⟨h3, h4⟩ := Q6 h
   exact ⟨by simpa [slB] using h3, h4⟩
  ·cases h
 ·simp only
  split at h
  ·rename_i h1 h2
   simp only [h1, h2]
   obtain ⟨h3, h4⟩ := Q6 h
   exact ⟨by simpa [slB] using h3, h4⟩
  ·cases h
 ·cases h
theorem QyY {t : TI} {x i : AV} {k : AV → Option β} {l} (h : QuG t x i k l = some r) : QoY t x i (fun v => k v = some r) () := by
 unfold QuG at h
 unfold QoY
 split at h
 ·obtain ⟨h3, h4⟩ := Q6 h
  exact ⟨QaK.1 h3, h4⟩
 ·cases h
theorem QyL {te : Option (List CK)} {op : BinOp} {x y : AV} {k : AV → Option β} {l} (h : JA te op x y k l = some r) : QpP te op x y (fun v => k v = some r) () := by
 unfold JA at h
 unfold QpP
 split at h
 ·simp only
  split at h
  ·exact Qrh h
  ·exact Qrh h
  ·cases h
 ·simp only
  split at h
  ·exact h
  ·exact h
  ·cases h
 ·simp only
  split at h
  ·rename_i hs
   rw [if_pos hs]
   obtain ⟨h1, h2⟩ := Q6 h
   exact ⟨by simpa using h1, h2⟩
  rename_i hs
  rw [if_neg hs]
  obtain ⟨hc, h⟩ := Xj h
  rw [if_pos hc]
  split at h <;> simp only <;> first
   | exact h
   | (rw [Qzt]; exact h)
   | (rw [QxI]; exact h)
   | (obtain ⟨h1, h2⟩ := Q6 h; exact ⟨by simpa using h1, h2⟩)
   | cases h
 ·simp only
  split at h <;> simp only <;> first
   | (rw [Qxr]; exact h)
   | (rw [Qxc]; exact h)
   | (obtain ⟨h1, h2⟩ := Q6 h; exact ⟨by simpa using h1, h2⟩)
   | cases h
 ·cases h
theorem QBc {op : UnOp} {x : AV} {k : AV → Option β} {l} (h : oun op x k l = some r) : xun op x (fun v => k v = some r) () := by
 unfold oun at h
 unfold xun
 split at h
 ·exact h
 ·exact h
 ·cases h
theorem Qwr {c x y : AV} {k : AV → Option β} {l} (h : Qlg c x y k l = some r) : Qjr c x y (fun v => k v = some r) () := by
 unfold Qlg at h
 unfold Qjr
 split at h
 ·rename_i b
  cases b with
  | true => exact h
  | false => exact h
 ·cases h
variable {K : KS}
theorem QzB {t : TI} {x : AV} {k : AV → Option β} {l} (h : Qpp K t x k l = some r) : Qom K t x (fun v => k v = some r) () := by
 unfold Qpp at h
 unfold Qom
 split at h
 ·exact h
 ·exact h
 ·split at h
  ·rename_i e he; simp only [he]; exact h
  ·cases h
 ·exact h
 ·exact h
 ·cases h
theorem Qzl {x : AV} {o : Option (Nat × TK)} {k : AV → Option β} {l} (h : Qtx K x o k l = some r) : Qn9 K x o (fun v => k v = some r) () := by
 unfold Qtx at h
 unfold Qn9
 split at h
 ·split at h
  ·rename_i e he; simp only [he]; exact h
  ·cases h
 ·exact h
 ·cases h
theorem Qyq {t : TI} {x i : AV} {k : AV → Option β} {l} (h : Qos K t x i k l = some r) : Qpc K t x i (fun v => k v = some r) () := by
 unfold Qos at h
 unfold Qpc
 split at h
 ·obtain ⟨hm, h⟩ := Xj h
  obtain ⟨h1, h2⟩ := Q6 h
  exact Zw hm ⟨QaK.1 h1, h2⟩
 ·split at h
  ·rename_i e he
   obtain ⟨hm, h⟩ := Xj h
   simp only [he]
   obtain ⟨h1, h2⟩ := Q6 h
   exact Zw hm ⟨QaK.1 h1, h2⟩
  ·cases h
 ·split at h
  ·rename_i e he
   simp only [he]
   obtain ⟨h1, h2⟩ := Q6 h
   exact ⟨by simpa [QtA] using h1, h2⟩
  ·cases h
 ·cases h
theorem QnT {t : TK} {cs : List AV} {k : AV → Option β} {l} (h : Qgy t cs k l = some r) : Qgz t cs (fun v => k v = some r) () := by
 unfold Qgy at h
 unfold Qgz
 split at h
 ·split at h
  ·exact h
  ·cases h
 ·obtain ⟨hm, h⟩ := Xj h
  exact Zw hm (h)
 ·cases h
theorem QsJ {cs : List AV} {o : Nat} {t : TK} {v : AV} {ok : AV → Bool} {k : List AV → Option β} {l} (h : Qgm cs o t v ok k l = some r) : QmK cs o t v ok (fun v => k v = some r) () := by
 unfold Qgm at h
 unfold QmK
 split at h
 ·obtain ⟨hm, h⟩ := Xj h
  exact Zw hm (h)
 ·obtain ⟨hm, h⟩ := Xj h
  exact Zw hm (h)
 ·cases h
theorem Qiz {t : TK} {p v : AV} {k : KS → Option β} {l} (h : QiM K t p v k l = some r) : Qei K t p v (fun K => k K = some r) () := by
 unfold QiM at h
 unfold Qei
 split at h
 ·split at h
  ·rename_i cs hj
   simp only [hj]
   obtain ⟨hm, h⟩ := Xj h
   exact Zw hm (QsJ h)
  ·rename_i n rows hj
   simp only [hj]
   obtain ⟨hm, h⟩ := Xj h
   exact Zw hm (QsJ h)
  ·cases h
 ·cases h
theorem Qq1 {t : TK} {j i o n : Nat} {rows : List (List AV)} {v : AV} {k : KS → Option β} {l} {ns : List Nat} (h : Qih ns K t j i o n rows v k l = some r) : Qdx ns K t j i o n rows v (fun K => k K = some r) () := by
 unfold Qih at h
 unfold Qdx
 obtain ⟨hm, h⟩ := Xj h
 rw [if_pos hm]
 split at h
 ·rename_i K1 ds hab
  obtain ⟨hc, h⟩ := Xj h
  simp only [hab]
  exact Zw hc h
 ·cases h
theorem Qqx {fl : Bool} {t : TK} {p v : AV} {k : KS → Option β} {l} {ns : List Nat} (h : Qh0 fl ns K t p v k l = some r) : Zy fl ns K t p v (fun K => k K = some r) () := by
 unfold Qh0 at h
 unfold Zy
 split at h
 ·split at h
  ·rename_i n rows hj
   simp only [hj]
   split at h
   ·rename_i hc; rw [if_pos hc]; exact Qiz h
   ·rename_i hc
    rw [if_neg hc]
    obtain ⟨hf, h⟩ := Xj h
    exact Zw hf (Qq1 h)
  ·rename_i hj
   cases hk : kg K _ with
   | none => simp only [hk]; exact Qiz h
   | some e =>
    cases e with
    | box cs => simp only [hk]; exact Qiz h
    | lst n rows => exact absurd hk (hj n rows)
 ·cases h
theorem Qy9 {v : AV} {k : AV → KS → Option β} {l} (h : QqU K v k l = some r) : Qtf K v (fun v K => k v K = some r) () := by
 unfold QqU at h
 unfold Qtf
 split at h
 ·obtain ⟨hm, h⟩ := Xj h
  exact Zw hm h
 ·rename_i hn
  obtain ⟨hm, h⟩ := Xj h
  cases v with
  | agg cs => exact absurd rfl (hn cs)
  | _ => exact Zw hm h
theorem Qs5 {z : Option (List AV)} {k : AV → KS → Option β} {l} (h : Qkz K z k l = some r) : QiL K z (fun v K => k v K = some r) () := by
 unfold Qkz at h
 unfold QiL
 split at h
 ·exact h
 ·cases h
theorem Qs2 {t : TB} {parts : List (Nat × AV)} {k : AV → Option β} {l} (h : Qiq K t parts k l = some r) : Qfu K t parts (fun v => k v = some r) () := by
 unfold Qiq at h
 unfold Qfu
 split at h
 ·split at h
  ·rename_i cs hc; simp only [hc]; exact h
  ·cases h
 ·split at h
  ·rename_i cs hc; simp only [hc]; exact h
  ·cases h
 ·cases h
theorem QqE {t : Option (TypeId × Nat × List AV)} {len : Nat} {parts : List (Nat × AV)} {k : AV → KS → Option β} {l} {fl : Bool} {ns : List Nat} (h : QfV fl ns K t len parts k l = some r) : (fl = true → Qpz K t len parts = true) ∧ Qbj ns K t len parts (fun v K => k v K = some r) () := by
 unfold QfV at h
 unfold Qbj Qpz
 cases t with
 | none => cases h
 | some q =>
  obtain ⟨e, m, z⟩ := q
  simp only at h ⊢
  by_cases h0 : len = 0
  ·rw [if_pos h0] at h ⊢
   subst h0
   cases parts with
   | nil => exact ⟨fun _ => by simp [Z9, Qcq, noS], h⟩
   | cons _ _ => cases h
  ·rw [if_neg h0] at h ⊢
   obtain ⟨hm, h⟩ := Xj h
   rw [if_pos hm]
   cases hx : Z9 K (fun i => some (i * m, m)) (Qcq len z) parts with
   | none => rw [hx] at h; cases h
   | some cs =>
    rw [hx] at h
    simp only at h ⊢
    cases hf : yB fl cs with
    | false => rw [hf] at h; cases h
    | true =>
     rw [hf] at h
     simp only [cond_true] at h
     refine ⟨fun hfl => ?_, ?_⟩
     ·rw [hfl] at hf; exact hf
     ·cases ha : Vh K cs with
      | none => rw [ha] at h; cases h
      | some q =>
       obtain ⟨K1, ds⟩ := q
       rw [ha] at h
       exact h
theorem Qyg {v : AV} {i : Nat} {k : AV → Option β} {l} (h : Qur v i k l = some r) : QpR v i (fun v => k v = some r) () := by
 unfold Qur at h
 unfold QpR
 split at h
 ·split at h
  ·rename_i c hc; simp only [hc]; exact h
  ·cases h
 ·cases h
theorem Qqi {t : Option (TypeId × Nat × List AV)} {b : Option Nat} {s x : AV} {k : AV → KS → Option β} {l} (h : Qj3 K t b s x k l = some r) : QcR K t b s x (fun v K => k v K = some r) () := by
 unfold Qj3 at h
 unfold QcR
 split at h
 ·simp only
  split at h
  ·rename_i rows K1 hs
   simp only [hs]
   split at h
   ·split at h
    ·rename_i n rows hj
     simp only [hj]
     obtain ⟨hm, h⟩ := Xj h
     obtain ⟨h1, h2⟩ := Q6 h
     exact Zw hm ⟨by simpa using h1, h2⟩
    ·cases h
   ·obtain ⟨h1, h2⟩ := Q6 h
    exact ⟨by simpa using h1, h2⟩
   ·cases h
  ·cases h
 ·cases h
theorem Qzj {x y : AV} {k : AV → Option β} {l} (h : Qwg x y k l = some r) : Qpj x y (fun v => k v = some r) () := by
 unfold Qwg at h
 unfold Qpj
 split at h
 ·exact h
 ·cases h
theorem QyC {x y : AV} {k : AV → Option β} {l} (h : QvR x y k l = some r) : Qn6 x y (fun v => k v = some r) () := by
 unfold QvR at h
 unfold Qn6
 split at h
 ·exact h
 ·cases h
theorem QwC {t : TI} {x : AV} {k : AV → Option β} {l} (h : QpK t x k l = some r) : Qjq t x (fun v => k v = some r) () := by
 unfold QpK at h
 unfold Qjq
 split at h
 ·exact h
 ·cases h
theorem QuN {K : KS} {t : TI} {x : AV} {k : AV → Option β} {l} (h : QoA K t x k l = some r) : Qhl K t x (fun v => k v = some r) () := by
 unfold QoA at h
 unfold Qhl
 split at h
 ·split at h
  ·rename_i h1
   split at h
   ·rename_i h2; simp only [h1, h2]; exact h
   ·cases h
  ·cases h
 ·cases h
theorem QtH {op : BinOp} {x : AV} {k : AV → Option β} {l} (h : QiG op x k l = some r) : Qfs op x (fun v => k v = some r) () := by
 have key : ∀ {b : Bool} {x y : Option β}, Qjz b x y = some r → (b = true → x = some r) ∧ y = some r := by
  intro b x y h
  unfold Qjz at h
  cases b with
  | false => exact ⟨fun h => (by cases h), h⟩
  | true =>
   simp only [cond_true, oeq] at h
   split at h
   ·rename_i he; exact ⟨fun _ => h, by rw [← he]; exact h⟩
   ·cases h
 unfold QiG at h
 unfold Qfs
 split at h
 ·exact key h
 ·exact key h
 ·cases h
theorem Quq {t : Option (TypeId × Nat × List AV)} {b : Option Nat} {x c : AV} {k : AV → KS → Option β} {l} {ns : List Nat} (h : Qr9 ns K t b x c k l = some r) : QmH ns K t b x c (fun v K => k v K = some r) () := by
 unfold Qr9 at h
 unfold QmH
 split at h
 ·simp only
  obtain ⟨h1, h2⟩ := Q6 h
  obtain ⟨h3, h4⟩ := Q6 h2
  rw [if_pos (by simpa using h1)]
  exact ⟨by simpa [mkB] using h3, h4⟩
 ·cases h
def SortP [Wd] (P : Program) (g : FuncId) : Prop := ∀ (K : KS) (j : Nat) (rows : List (List AV)) (xs : List Int), kg K j = some (.lst 1 rows) → QbH rows = some xs → xs.length < 4611686018427387904 →
 AC P g K [.sl j] (fun x K' => x = .tup [] ∧ K' = K.set j (some (.lst 1 ((Qa1 xs).map cI))))
def CompP [Wd] (P : Program) (g : FuncId) : Prop := ∀ (K : KS) (j : Nat) (rows : List (List AV)) (xs : List Int), kg K j = some (.lst 1 rows) → QbH rows = some xs → xs.length < 4611686018427387904 →
 AC P g K [.sl j] (fun x K' => x = .sl K.length ∧ K' = K.set j none ++ [some (.lst 1 ((JH xs).map cI))])
theorem QdY : ∀ {l : List Nat}, ndB l = true → l.Nodup
 | [], _ => by simp
 | x :: l, h => by
  simp only [ndB, Bool.and_eq_true, Bool.not_eq_true'] at h
  rw [List.nodup_cons]
  exact ⟨by simpa using h.1, QdY h.2⟩
def ArP [Wd] (P : Program) (D : Orc) : Prop := ∀ g K args x, D.a g K args = some x → AC P g K args (fun v K' => (v = x.1 ∧ K'.take x.2.length = x.2) ∧ rok x.2.length x.1 = true ∧ (∀ e ∈ x.2, clE e = true) ∧ K.length ≤ x.2.length)
def MrP [Wd] (P : Program) (D : Orc) : Prop := ∀ g K args x, D.m g K args = some x → MC P g K args (· = x)
def Qff [Wd] (P : Program) (D : Orc) : Prop := (∀ g args x, D.p g args = some x → PC P g args (· = x)) ∧ (∀ g, D.s g = true → SortP P g) ∧ (∀ g, D.q g = true → CompP P g) ∧ ArP P D ∧ MrP P D
theorem Qq6 : ∀ {K : KS}, QqM K = true → ∀ e ∈ K, QgD e = true
 | [], _, e, he => by cases he
 | some (.lst n rows) :: K, h, e, he => by
  rcases List.mem_cons.1 he with rfl | he
  ·rfl
  ·exact Qq6 (K := K) h e he
 | none :: K, h, e, he => by cases h
 | some (.box cs) :: K, h, e, he => by cases h
theorem QhV : ∀ {K : KS}, QgQ K = true → ∀ e ∈ K, clE e = true
 | [], _, e, he => by cases he
 | some (.lst n rows) :: K, h, e, he => by
  rcases List.mem_cons.1 he with rfl | he
  ·rfl
  ·exact QhV (K := K) h e he
 | none :: K, h, e, he => by cases h
 | some (.box cs) :: K, h, e, he => by
  simp only [QgQ, Bool.and_eq_true] at h
  rcases List.mem_cons.1 he with rfl | he
  ·exact h.1
  ·exact QhV (K := K) h.2 e he
theorem QxG {s : Operand} (hs : Qa2 s = true) (f : Fr) : QdZ (ev f s) = false := by
 cases s with
 | const v =>
  cases v <;> first | (cases hs; done) | skip
  rename_i a l c
  cases a <;> cases l <;> cases c <;> first | rfl | cases hs
 | _ => cases hs
theorem Qkf [Wd] {P : Program} {D : Orc} (hD : Qff P D) {o : Op} {f : Fr} {k : AV → KS → Option β} {l} (h : oop P D o f K k l = some r) : Qbs P o f K (fun v K => k v K = some r) () := by
 unfold oop at h
 unfold Qbs
 split at h
 case h_21 x args _ =>
  simp only
  unfold Qqd at h
  unfold Qnl
  split at h
  ·rename_i g caps hg
   unfold QeG X9 at h
   obtain ⟨x, hx, h⟩ := Option.bind_eq_some_iff.1 h
   simp only [hg]
   exact ⟨_, (hD.1 _ _ _ hx).fix, fun y hy => by rw [hy]; exact h⟩
  ·cases h
 all_goals (simp only; unfold xop; simp only)
 case h_1 => exact h
 case h_2 => exact h
 case h_3 => exact Qwr h
 case h_4 => exact Qs5 h
 case h_5 => exact Qy9 h
 case h_6 => exact Qs2 h
 case h_7 => exact QqE h
 case h_8 => exact QnT h
 case h_9 => exact Qqx h
 case h_10 =>
  split at h
  ·rename_i hn
   obtain ⟨hm, h⟩ := Xj h
   rw [if_pos hn]
   exact Zw hm (QtH h)
  ·rename_i hn
   rw [if_neg hn]
   exact QyL h
 case h_11 => exact QBc h
 case h_12 =>
  split at h
  ·rename_i hb; rw [if_pos hb]; exact QuN h
  ·rename_i hb
   obtain ⟨hm, h⟩ := Xj h
   rw [if_neg hb]
   exact Zw hm (QwC h)
 case h_13 =>
  obtain ⟨hm, h⟩ := Xj h
  exact Zw hm (h)
 case h_14 => exact Qzl h
 case h_15 => exact Qyq h
 case h_16 => exact Qyg h
 case h_17 =>
  split at h
  ·rename_i h1 h2; simp only [h1, h2]; exact QzB h
  ·cases h
 case h_18 =>
  split at h
  ·rename_i h1 h2
   obtain ⟨⟨hm, hn⟩, h⟩ := Xj h
   simp only [h1, h2]
   refine ⟨fun hc => ?_, Zw hm (Qqi h)⟩
   rename_i s x _ _ _ _
   have hs : Qa2 s = true := hc
   rw [hs] at hn
   have hs2 : QdZ (ev f s) = false := QxG hs f
   have hx2 : QdZ (ev f x) = false := hn
   simp [hs2, hx2]
  ·cases h
 case h_19 =>
  split at h
  ·rename_i h1; simp only [h1]; exact Qzj h
  ·cases h
 case h_20 =>
  split at h
  ·rename_i h1; simp only [h1]; exact QyC h
  ·cases h
 case h_22 => exact Quq h
 case h_23 => exact QxW h
 case h_24 => exact QyY h
 case h_25 =>
  unfold Qut at h
  unfold Qzh
  split at h
  ·rename_i hv
   simp only [hv]
   unfold QsK at h
   split at h
   ·rename_i hj; simp only [hj]; exact h
   ·cases h
  ·rename_i hv
   simp only [hv]; exact h
  ·cases h
 case h_26 => cases h
theorem Qr4 [Wd] {P : Program} {D : Orc} (hD : Qff P D) {o : Op} {f : Fr} {K : KS} {k : AV → KS → Option β} {k' : AV → KS → Prop} {l} (h : Qb3 P D o f K k l = some r) (hk : ∀ v K, k v K = some r → k' v K) : xop P o f K k' () := by
 unfold Qb3 at h
 split at h
 ·rename_i x args ts _
  show Qnl (ev f x) (fun g caps => Qjo P g K (args.toList.map (ev f) ++ caps) k' ()) ()
  unfold Qqd at h
  unfold Qnl
  split at h
  ·rename_i g caps hg
   simp only [hg]
   simp only at h
   cases hs : D.s g with
   | false =>
    rw [hs] at h
    have h : cond (D.q g) (Qke K (args.toList.map (ev f) ++ caps) k ()) (cond (D.w g) (QiT D g K (args.toList.map (ev f) ++ caps) k ()) (cond (D.v g) (Qg3 D g K (args.toList.map (ev f) ++ caps) k ()) (QeG D g K (args.toList.map (ev f) ++ caps) k ()))) = some r := h
    cases hq : D.q g with
    | false =>
     rw [hq] at h
     have h : cond (D.w g) (QiT D g K (args.toList.map (ev f) ++ caps) k ()) (cond (D.v g) (Qg3 D g K (args.toList.map (ev f) ++ caps) k ()) (QeG D g K (args.toList.map (ev f) ++ caps) k ())) = some r := h
     cases hw : D.w g with
     | false =>
      rw [hw] at h
      have h : cond (D.v g) (Qg3 D g K (args.toList.map (ev f) ++ caps) k ()) (QeG D g K (args.toList.map (ev f) ++ caps) k ()) = some r := h
      cases hv : D.v g with
      | false =>
       rw [hv] at h
       have h' : QeG D g K (args.toList.map (ev f) ++ caps) k () = some r := h
       unfold QeG X9 at h'
       obtain ⟨x, hx, h'⟩ := Option.bind_eq_some_iff.1 h'
       exact .inl ⟨_, (hD.1 _ _ _ hx).fix, fun y hy => by rw [hy]; exact hk _ _ h'⟩
      | true =>
       rw [hv] at h
       have h' : Qg3 D g K (args.toList.map (ev f) ++ caps) k () = some r := h
       unfold Qg3 QjZ at h'
       obtain ⟨h1, h2⟩ := Q6 h'
       unfold Qj0 at h2
       split at h2
       ·rename_i cs hcs
        obtain ⟨h3, h4⟩ := Q6 h2
        unfold X9 at h4
        obtain ⟨x, hx, h5⟩ := Option.bind_eq_some_iff.1 h4
        have hls : ∀ j ∈ Qdh (args.toList.map (ev f) ++ caps), QgD (kg K j) = true := fun j hj => Qq6 h3 _ (by unfold XZ; exact List.mem_map_of_mem hj)
        exact .inr ⟨_, MC.sub (QdY h1) hls (hD.2.2.2.2 _ _ _ _ hx) hcs, fun v K' ⟨hv, hK⟩ => by rw [hv, hK]; exact hk _ _ h5⟩
       ·cases h2
     | true =>
      rw [hw] at h
      have h' : QiT D g K (args.toList.map (ev f) ++ caps) k () = some r := h
      unfold QiT Qj2 at h'
      obtain ⟨h1, h2⟩ := Q6 h'
      unfold QjS at h2
      split at h2
      ·rename_i cs hcs
       obtain ⟨h3, h4⟩ := Q6 h2
       unfold X9 at h4
       obtain ⟨x, hx, h5⟩ := Option.bind_eq_some_iff.1 h4
       have x4 := hD.2.2.2.1 _ _ _ _ hx
       have hlen : (XZ K (Qdh (args.toList.map (ev f) ++ caps))).length = (Qdh (args.toList.map (ev f) ++ caps)).length := by simp [XZ]
       rw [hlen] at x4
       have hls : ∀ j ∈ Qdh (args.toList.map (ev f) ++ caps), clE (kg K j) = true := fun j hj => QhV h3 _ (by unfold XZ; exact List.mem_map_of_mem hj)
       exact .inr ⟨_, AC.subB (QdY h1) hls x4 hcs, fun v K' ⟨hv, hK⟩ => by rw [hv, hK]; exact hk _ _ h5⟩
      ·cases h2
    | true =>
     rw [hq] at h
     have h' : Qke K (args.toList.map (ev f) ++ caps) k () = some r := h
     unfold Qke at h'
     split at h'
     ·rename_i j hv
      rw [hv]
      split at h'
      ·rename_i rows hj
       split at h'
       ·rename_i xs hxs
        obtain ⟨h1, h2⟩ := Q6 h'
        exact .inr ⟨_, hD.2.2.1 g hq K j rows xs hj hxs (by simpa using h1), fun x K' ⟨hx, hK⟩ => by rw [hx, hK]; exact hk _ _ h2⟩
       ·cases h'
      ·cases h'
     ·cases h'
   | true =>
    rw [hs] at h
    have h' : Qmc K (args.toList.map (ev f) ++ caps) k () = some r := h
    unfold Qmc at h'
    split at h'
    ·rename_i j hv
     rw [hv]
     split at h'
     ·rename_i rows hj
      split at h'
      ·rename_i xs hxs
       obtain ⟨h1, h2⟩ := Q6 h'
       exact .inr ⟨_, hD.2.1 g hs K j rows xs hj hxs (by simpa using h1), fun x K' ⟨hx, hK⟩ => by rw [hx, hK]; exact hk _ _ h2⟩
      ·cases h'
     ·cases h'
    ·cases h'
  ·cases h
 ·exact Qd7 (ZB (Qkf hD h) hk)
theorem QfJ [Wd] {P : Program} {D : Orc} (hD : Qff P D) {ops : Array Oper} : ∀ (l : List Oper) {f : Fr} {K : KS} {k : Fr → KS → Option β}, QeS P D ops l f K k () = some r → Qgb P ops l f K (fun f K => k f K = some r) ()
 | [], f, K, k, h => h
 | o :: l, f, K, k, h => by
  unfold QeS at h
  unfold Qgb
  split at h
  ·rename_i hg
   simp only [hg]
   refine Qr4 hD h fun v K' h => ?_
   unfold Qec at h
   unfold Qbr
   split at h
   ·rename_i d hd; simp only [hd]; exact QfJ hD l h
   ·rename_i hd; simp only [hd]; exact QfJ hD l h
  ·cases h
theorem QrG {α : Type} : ∀ {l : List α} {o : Nat} {c : α} {cs : List α}, l.drop o = c :: cs → l[o]? = some c
 | [], o, c, cs, h => by simp at h
 | x :: l, 0, c, cs, h => by simp at h; simp [h.1]
 | x :: l, o + 1, c, cs, h => by simp at h; simpa using QrG h
theorem QEa [Wd] {P : Program} {D : Orc} (hD : Qff P D) {f : Fr} {K : KS} {p x : AV} {g : FuncId} {k : AV → KS → Option β} {l} (h : onp D f K p x g k l = some r) :
  ∃ j i o q m m' rows rs rs' rv, p = .ptr j i o ∧ kg K j = some (.lst q rows) ∧ (QC rows i)[o]? = some (.own m rs) ∧ x.scal = true ∧
   AC P g [some (.lst m rs)] [.sl 0, x] (fun v K' => (v = rv ∧ K'.take 1 = [some (.lst m' rs')]) ∧ rv.flat = true) ∧ k rv (Qmy K j i o q m' rows rs') = some r := by
 unfold onp at h
 split at h
 ·rename_i j i o
  unfold onj at h
  split at h
  ·rename_i q rows hj
   unfold onx at h
   split at h
   ·rename_i m rs cs hcs
    obtain ⟨h1, h2⟩ := Q6 h
    unfold X9 at h2
    obtain ⟨y, hy, h3⟩ := Option.bind_eq_some_iff.1 h2
    unfold onr at h3
    split at h3
    ·rename_i m' rs' hy2
     obtain ⟨h4, h5⟩ := Q6 h3
     have y4 := hD.2.2.2.1 _ _ _ _ hy
     rw [hy2] at y4
     simp only [Bool.and_eq_true] at h4
     exact ⟨j, i, o, q, m, m', rows, rs, rs', y.1, rfl, hj, QrG hcs, h1, y4.mono fun v K' ⟨z1, z2, _⟩ => ⟨z1, h4.1⟩, h5⟩
    ·cases h3
   ·cases h
  ·cases h
 ·cases h
theorem Qkq [Wd] {P : Program} {D : Orc} (hD : Qff P D) {ops : Array Oper} : ∀ (us : List Nat) (l : List Oper) {f : Fr} {K : KS} {k : Fr → KS → Option β}, Qgv P D ops us l f K k () = some r → QgG P ops us l f K (fun f K => k f K = some r)
 | _ :: us, o :: l, f, K, k, h => by
  unfold Qgv at h
  unfold QgG
  split at h
  ·rename_i hg
   refine ⟨hg, Qd7 (ZB (Qkf hD h) fun v K' h => ?_)⟩
   unfold Qec at h
   unfold Qbr
   split at h
   ·rename_i d hd; simp only [hd]; exact Qkq hD us l h
   ·rename_i hd; simp only [hd]; exact Qkq hD us l h
  ·cases h
 | _ :: _, [], f, K, k, h => by unfold Qgv at h; cases h
 | [], l, f, K, k, h => by
  unfold Qgv at h
  split at h
  ·rename_i he; cases he
  ·rename_i _ _ d t p _ _ _ e x _ _ _ dst g args ts _ _ _ l' _
   split at h
   ·rename_i d' e' hargs
    obtain ⟨h1, h2⟩ := Q6 h
    simp only [Bool.and_eq_true, Bool.not_eq_true'] at h1
    obtain ⟨ht, hd', he', hde⟩ := h1
    obtain ⟨j, i, o, q, m, m', rows, rs, rs', rv, q1, q2, q3, q4, q6, q7⟩ := QEa hD h2
    have e1 : d = d' := Nat.eq_of_beq_eq_true hd'
    have e2 : e = e' := Nat.eq_of_beq_eq_true he'
    subst e1 e2
    have ea : args = #[.tmp d, .tmp e] := Array.toList_inj.1 hargs
    subst ea
    unfold QgG
    refine ⟨d, e, t, p, x, g, ts, j, i, o, q, m, m', rows, rs, rs', rv, ⟨rfl, rfl, rfl⟩, ⟨rfl, rfl, rfl⟩, ⟨rfl, rfl⟩, (fun hh => by subst hh; rw [Nat.beq_refl] at hde; cases hde), ?_, q1, q2, q3, q4, q6, ?_⟩
    ·revert ht
     cases tk P t <;> intro ht <;> first | rfl | cases ht
    ·unfold Qec at q7
     unfold Qbr
     split at q7
     ·exact QfJ hD _ q7
     ·exact QfJ hD _ q7
   ·cases h
  ·cases h
theorem Qhx [Wd] {P : Program} {D : Orc} (hD : Qff P D) {ops : Array Oper} : ∀ (l : List Oper) {f : Fr} {K : KS} {k : Fr → KS → Option β}, Qb7 P D ops l f K k () = some r → Qez P ops l f K (fun f K => k f K = some r)
 | [], f, K, k, h => h
 | o :: l, f, K, k, h => by
  unfold Qb7 at h
  unfold Qez
  refine Z3.2 ?_
  have yes : ∀ {f}, oop P D o.op f K (fun v K' => Qec o.dst v f (fun f => Qb7 P D ops l f K' k ()) ()) () = some r → Qbs P o.op f K (fun v K' => Qez P ops l (JD f o.dst v) K' (fun f K => k f K = some r)) () := fun {f} h =>
   ZB (Qkf hD h) fun v K' h => Qhx hD l (by
    unfold Qec at h
    unfold JD
    cases hd : o.dst with
    | none => simp only [hd] at h; exact h
    | some d => simp only [hd] at h; exact h)
  have no : ∀ {f}, Qec o.dst (.tup []) f (fun f => Qb7 P D ops l f K k ()) () = some r → Qez P ops l (JD f o.dst (.tup [])) K (fun f K => k f K = some r) := fun {f} h => Qhx hD l (by
    unfold Qec at h
    unfold JD
    cases hd : o.dst with
    | none => simp only [hd] at h; exact h
    | some d => simp only [hd] at h; exact h)
  unfold gd
  split at h
  ·rename_i hg; simp only [hg]; exact yes h
  ·rename_i j want hg
   simp only [hg]
   unfold ogd at h
   split at h
   ·rename_i d hj
    simp only [hj]
    split at h
    ·rename_i b hb
     simp only [hb]
     have e1 : up f d (.b b) = f := QmV f d _ hb
     cases b <;> cases want <;> simp at h ⊢ <;> rw [e1] at h
     ·exact yes h
     ·exact no h
     ·exact no h
     ·exact yes h
    ·rename_i hb
     simp only [hb]
     exact no h
    ·cases h
   ·cases h
theorem QyE [Wd] {vs : List Nat} {P : Program} {D : Orc} (hD : Qff P D) {o : Op} {f : Fr} {K : KS} {k : AV → KS → Option β} {k' : AV → KS → Prop} {l} (h : QjK vs P D o f K k l = some r) (hk : ∀ v K, k v K = some r → k' v K) : QhJ vs P o f K k' := by
 have key : (∃ g args ts, o = .call ⟨.value (.func g), args, ts⟩) ∨ (vOp vs o = false ∧ QjK vs P D o f K k l = oop P D o f K k ()) := by
  cases o with
  | call c =>
   obtain ⟨cal, args, ts⟩ := c
   cases cal with
   | value x =>
    cases x with
    | func g => exact .inl ⟨g, args, ts, rfl⟩
    | _ => exact .inr ⟨rfl, rfl⟩
   | _ => exact .inr ⟨rfl, rfl⟩
  | _ => exact .inr ⟨rfl, rfl⟩
 unfold QhJ
 rcases key with ⟨g, args, ts, rfl⟩ | ⟨hv, he⟩
 ·have h : cond (vs.contains g) (Qb3 P D (.call ⟨.value (.func g), args, ts⟩) f K k ()) (oop P D (.call ⟨.value (.func g), args, ts⟩) f K k ()) = some r := h
  have hv : vOp vs (.call ⟨.value (.func g), args, ts⟩) = vs.contains g := rfl
  rw [hv]
  cases hc : vs.contains g with
  | true =>
   rw [hc] at h
   rw [if_pos rfl]
   exact Qr4 (l := ()) hD h hk
  | false =>
   rw [hc] at h
   rw [if_neg (by simp)]
   exact ZB (Qkf (l := ()) hD h) hk
 ·rw [he] at h
  rw [hv, if_neg (by simp)]
  exact ZB (Qkf (l := ()) hD h) hk
theorem Qfi [Wd] {vs : List Nat} {P : Program} {D : Orc} (hD : Qff P D) {ops : Array Oper} : ∀ (l : List Oper) {f : Fr} {K : KS} {k : Fr → KS → Option β}, Zu vs P D ops l f K k () = some r → QhS vs P ops l f K (fun f K => k f K = some r)
 | [], f, K, k, h => h
 | o :: l, f, K, k, h => by
  unfold Zu at h
  unfold QhS Qb5
  have yes : ∀ {f}, QjK vs P D o.op f K (fun v K' => Qec o.dst v f (fun f => Zu vs P D ops l f K' k ()) ()) () = some r → QhJ vs P o.op f K (fun v K' => QhS vs P ops l (JD f o.dst v) K' (fun f K => k f K = some r)) := fun {f} h =>
   QyE hD h fun v K' h => Qfi hD l (by
    unfold Qec at h
    unfold JD
    cases hd : o.dst with
    | none => simp only [hd] at h; exact h
    | some d => simp only [hd] at h; exact h)
  have no : ∀ {f}, Qec o.dst (.tup []) f (fun f => Zu vs P D ops l f K k ()) () = some r → QhS vs P ops l (JD f o.dst (.tup [])) K (fun f K => k f K = some r) := fun {f} h => Qfi hD l (by
    unfold Qec at h
    unfold JD
    cases hd : o.dst with
    | none => simp only [hd] at h; exact h
    | some d => simp only [hd] at h; exact h)
  unfold gd
  split at h
  ·rename_i hg; simp only [hg]; exact yes h
  ·rename_i j want hg
   simp only [hg]
   unfold ogd at h
   split at h
   ·rename_i d hj
    simp only [hj]
    split at h
    ·rename_i b hb
     simp only [hb]
     have e1 : up f d (.b b) = f := QmV f d _ hb
     cases b <;> cases want <;> simp at h ⊢ <;> rw [e1] at h
     ·exact yes h
     ·exact no h
     ·exact no h
     ·exact yes h
    ·rename_i hb
     simp only [hb]
     exact no h
    ·cases h
   ·cases h
theorem Qor [Wd] {P : Program} {ops : Array Oper} : ∀ (l : List Oper) {f : Fr} {K : KS} {k : Fr → KS → Prop}, Qez P ops l f K k → Qgb P ops l f K k ()
 | [], f, K, k, h => h
 | o :: l, f, K, k, h => by
  unfold Qez Qb4 at h
  unfold Qgb
  have st : ∀ {f : Fr} {K : KS} {d : Option Tmp} {v : AV}, Qbr d v f (fun f => Qez P ops l f K k) () → Qbr d v f (fun f => Qgb P ops l f K k ()) () := fun {f K d v} h => by
   rw [Qhw] at h ⊢; exact Qor l h
  have yes : ∀ {f}, Qbs P o.op f K (fun v K' => Qbr o.dst v f (fun f => Qez P ops l f K' k) ()) () → xop P o.op f K (fun v K' => Qbr o.dst v f (fun f => Qgb P ops l f K' k ()) ()) () := fun {f} h =>
   Qd7 (ZB h fun v K' h => st h)
  split at h
  ·rename_i hg; try simp only [hg]
   exact yes h
  ·rename_i j want hg
   try simp only [hg]
   unfold xgd at h ⊢
   split at h
   ·rename_i d hj
    try simp only [hj]
    split at h
    ·rename_i b hb
     unfold XBr at h ⊢
     refine ⟨fun hx => ?_, fun hx => ?_⟩
     ·have := h.1 hx
      cases want
      ·exact st this
      ·exact yes this
     ·have := h.2 hx
      cases want
      ·exact yes this
      ·exact st this
    ·rename_i hb
     exact st h
    ·exact h.elim
   ·exact h.elim
end
end Go.Proofs.YtkbilciipmijjaaGreat.Am
