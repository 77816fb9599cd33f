import Derived.Test.YtcdffihcfeajfaaGreatEvA
namespace Go.Proofs.YtcdffihcfeajfaaGreat.Am
open Go
set_option linter.unusedVariables false
set_option linter.unusedSimpArgs false
section
variable {β : Type} {r : β}
theorem Vo {b : Bool} {q : Option β} {l} (h : Vi b q l = some r) : b = true ∧ q = some r := by
 cases b with
 | false => cases h
 | true => exact ⟨rfl, h⟩
theorem Qvf {b : Bool} {p q : Option β} (h : cond b p q = some r) : (b = true → p = some r) ∧ (b = false → q = some r) := by
 cases b with
 | false => exact ⟨fun h' => by (cases h'), fun _ => h⟩
 | true => exact ⟨fun _ => h, fun h' => by cases h'⟩
theorem Xc {p : Prop} [Decidable p] {q : Option β} (h : (if p then q else none) = some r) : p ∧ q = some r := by
 by_cases hp : p
 ·rw [if_pos hp] at h; exact ⟨hp, h⟩
 ·rw [if_neg hp] at h; cases h
theorem ZZ {p : Prop} [Decidable p] {q : Prop} (hp : p) (hq : q) : (if p then q else False) := by rw [if_pos hp]; exact hq
theorem QCG (a b : Int) : (a == b) = decide (a = b) := by by_cases h : a = b <;> simp [h]
theorem QDd (a b : Int) : (a != b) = !decide (a = b) := by by_cases h : a = b <;> simp [h]
theorem QAQ (a b : List UInt8) : (a == b) = decide (a = b) := by by_cases h : a = b <;> simp [h]
theorem QAx (a b : List UInt8) : (a != b) = !decide (a = b) := by by_cases h : a = b <;> simp [h]
theorem Qug {te : Option (List CK)} {xs ys : List AV} {k : Bool → Option β} {l} (h : QBk te xs ys k l = some r) : Qqm te xs ys (fun v => k v = some r) () := by
 unfold QBk at h
 unfold Qqm
 split at h
 ·split at h
  ·rename_i hb; simp only [hb]; exact h
  ·cases h
 ·cases h
theorem Qz2 {t : TI} {x : AV} {lo hi : Option AV} {k : AV → Option β} {l} (h : QhR t x lo hi k l = some r) : QsT t x lo hi (fun v => k v = some r) () := by
 unfold QhR at h
 unfold QsT
 split at h
 ·obtain ⟨hm, h⟩ := Xc h
  simp only
  rw [if_pos hm]
  split at h
  ·rename_i h1 h2
   simp only [h1, h2]
   obtain ⟨h3, h4⟩ := Vo h
   exact ⟨by simpa [slB] using h3, h4⟩
  ·cases h
 ·simp only
  split at h
  ·rename_i h1 h2
   simp only [h1, h2]
   obtain ⟨h3, h4⟩ := Vo h
   exact ⟨by simpa [slB] using h3, h4⟩
  ·cases h
 ·cases h
theorem QAq {t : TI} {x i : AV} {k : AV → Option β} {l} (h : Qwz t x i k l = some r) : Qsx t x i (fun v => k v = some r) () := by
 unfold Qwz at h
 unfold Qsx
 split at h
 ·obtain ⟨h3, h4⟩ := Vo h
  exact ⟨Qfa.1 h3, h4⟩
 ·cases h
theorem QBp {te : Option (List CK)} {op : BinOp} {x y : AV} {k : AV → Option β} {l} (h : QaJ te op x y k l = some r) : Qry te op x y (fun v => k v = some r) () := by
 unfold QaJ at h
 unfold Qry
 split at h
 ·simp only
  split at h
  ·exact Qug h
  ·exact Qug h
  ·cases h
 ·simp only
  split at h
  ·exact h
  ·exact h
  ·cases h
 ·simp only
  obtain ⟨hc, h⟩ := Xc h
  rw [if_pos hc]
  split at h <;> simp only <;> first
   | exact h
   | (rw [QCG]; exact h)
   | (rw [QDd]; exact h)
   | (obtain ⟨h1, h2⟩ := Vo h; exact ⟨by simpa using h1, h2⟩)
   | cases h
 ·simp only
  split at h <;> simp only <;> first
   | (rw [QAQ]; exact h)
   | (rw [QAx]; exact h)
   | (obtain ⟨h1, h2⟩ := Vo h; exact ⟨by simpa using h1, h2⟩)
   | cases h
 ·cases h
theorem QHs {op : UnOp} {x : AV} {k : AV → Option β} {l} (h : oun op x k l = some r) : xun op x (fun v => k v = some r) () := by
 unfold oun at h
 unfold xun
 split at h
 ·exact h
 ·exact h
 ·cases h
theorem QyY {c x y : AV} {k : AV → Option β} {l} (h : Qnj c x y k l = some r) : QlX c x y (fun v => k v = some r) () := by
 unfold Qnj at h
 unfold QlX
 split at h
 ·rename_i b
  cases b with
  | true => exact h
  | false => exact h
 ·cases h
variable {K : KS}
theorem QDJ {t : TI} {x : AV} {k : AV → Option β} {l} (h : Qsz K t x k l = some r) : Qst K t x (fun v => k v = some r) () := by
 unfold Qsz at h
 unfold Qst
 split at h
 ·exact h
 ·exact h
 ·split at h
  ·rename_i e he; simp only [he]; exact h
  ·cases h
 ·exact h
 ·exact h
 ·cases h
theorem QCF {x : AV} {o : Option (Nat × TK)} {k : AV → Option β} {l} (h : QvJ K x o k l = some r) : Qr5 K x o (fun v => k v = some r) () := by
 unfold QvJ at h
 unfold Qr5
 split at h
 ·split at h
  ·rename_i e he; simp only [he]; exact h
  ·cases h
 ·exact h
 ·cases h
theorem QzW {t : TI} {x i : AV} {k : AV → Option β} {l} (h : QsP K t x i k l = some r) : QrI K t x i (fun v => k v = some r) () := by
 unfold QsP at h
 unfold QrI
 split at h
 ·obtain ⟨hm, h⟩ := Xc h
  obtain ⟨h1, h2⟩ := Vo h
  exact ZZ hm ⟨Qfa.1 h1, h2⟩
 ·split at h
  ·rename_i e he
   obtain ⟨hm, h⟩ := Xc h
   simp only [he]
   obtain ⟨h1, h2⟩ := Vo h
   exact ZZ hm ⟨Qfa.1 h1, h2⟩
  ·cases h
 ·split at h
  ·rename_i e he
   simp only [he]
   obtain ⟨h1, h2⟩ := Vo h
   exact ⟨by simpa [QvI] using h1, h2⟩
  ·cases h
 ·cases h
theorem QsN {t : TK} {cs : List AV} {k : AV → Option β} {l} (h : Qir t cs k l = some r) : Qiv t cs (fun v => k v = some r) () := by
 unfold Qir at h
 unfold Qiv
 split at h
 ·split at h
  ·exact h
  ·cases h
 ·obtain ⟨hm, h⟩ := Xc h
  exact ZZ hm (h)
 ·cases h
theorem Qut {cs : List AV} {o : Nat} {t : TK} {v : AV} {ok : AV → Bool} {k : List AV → Option β} {l} (h : Qif cs o t v ok k l = some r) : Qq0 cs o t v ok (fun v => k v = some r) () := by
 unfold Qif at h
 unfold Qq0
 split at h
 ·obtain ⟨hm, h⟩ := Xc h
  exact ZZ hm (h)
 ·obtain ⟨hm, h⟩ := Xc h
  exact ZZ hm (h)
 ·cases h
theorem Qk8 {t : TK} {p v : AV} {k : KS → Option β} {l} (h : QkP K t p v k l = some r) : Qf7 K t p v (fun K => k K = some r) () := by
 unfold QkP at h
 unfold Qf7
 split at h
 ·split at h
  ·rename_i cs hj
   simp only [hj]
   obtain ⟨hm, h⟩ := Xc h
   exact ZZ hm (Qut h)
  ·rename_i n rows hj
   simp only [hj]
   obtain ⟨hm, h⟩ := Xc h
   exact ZZ hm (Qut h)
  ·cases h
 ·cases h
theorem Quc {t : TK} {j i o n : Nat} {rows : List (List AV)} {v : AV} {k : KS → Option β} {l} {ns : List Nat} (h : Qkb ns K t j i o n rows v k l = some r) : Qfs ns K t j i o n rows v (fun K => k K = some r) () := by
 unfold Qkb at h
 unfold Qfs
 obtain ⟨hm, h⟩ := Xc h
 rw [if_pos hm]
 split at h
 ·rename_i K1 ds hab
  obtain ⟨hc, h⟩ := Xc h
  simp only [hab]
  exact ZZ hc h
 ·cases h
theorem QtT {fl : Bool} {t : TK} {p v : AV} {k : KS → Option β} {l} {ns : List Nat} (h : QjZ fl ns K t p v k l = some r) : Z0 fl ns K t p v (fun K => k K = some r) () := by
 unfold QjZ at h
 unfold Z0
 split at h
 ·split at h
  ·rename_i n rows hj
   simp only [hj]
   split at h
   ·rename_i hc; rw [if_pos hc]; exact Qk8 h
   ·rename_i hc
    rw [if_neg hc]
    obtain ⟨hf, h⟩ := Xc h
    exact ZZ hf (Quc h)
  ·rename_i hj
   cases hk : kg K _ with
   | none => simp only [hk]; exact Qk8 h
   | some e =>
    cases e with
    | box cs => simp only [hk]; exact Qk8 h
    | lst n rows => exact absurd hk (hj n rows)
 ·cases h
theorem QA7 {v : AV} {k : AV → KS → Option β} {l} (h : Qs9 K v k l = some r) : Qvy K v (fun v K => k v K = some r) () := by
 unfold Qs9 at h
 unfold Qvy
 split at h
 ·obtain ⟨hm, h⟩ := Xc h
  exact ZZ hm h
 ·rename_i hn
  obtain ⟨hm, h⟩ := Xc h
  cases v with
  | agg cs => exact absurd rfl (hn cs)
  | _ => exact ZZ hm h
theorem Qvi {z : Option (List AV)} {k : AV → KS → Option β} {l} (h : Qnv K z k l = some r) : Qk1 K z (fun v K => k v K = some r) () := by
 unfold Qnv at h
 unfold Qk1
 split at h
 ·exact h
 ·cases h
theorem Qvz {t : TB} {parts : List (Nat × AV)} {k : AV → Option β} {l} (h : Qk4 K t parts k l = some r) : Qg9 K t parts (fun v => k v = some r) () := by
 unfold Qk4 at h
 unfold Qg9
 split at h
 ·split at h
  ·rename_i cs hc; simp only [hc]; exact h
  ·cases h
 ·split at h
  ·rename_i cs hc; simp only [hc]; exact h
  ·cases h
 ·cases h
theorem Qs6 {t : Option (TypeId × Nat × List AV)} {len : Nat} {parts : List (Nat × AV)} {k : AV → KS → Option β} {l} {fl : Bool} {ns : List Nat} (h : QhJ fl ns K t len parts k l = some r) : (fl = true → Qr3 K t len parts = true) ∧ QcN ns K t len parts (fun v K => k v K = some r) () := by
 unfold QhJ at h
 unfold QcN Qr3
 cases t with
 | none => cases h
 | some q =>
  obtain ⟨e, m, z⟩ := q
  simp only at h ⊢
  by_cases h0 : len = 0
  ·rw [if_pos h0] at h ⊢
   subst h0
   cases parts with
   | nil => exact ⟨fun _ => by simp [Qa8, Qeh, noS], h⟩
   | cons _ _ => cases h
  ·rw [if_neg h0] at h ⊢
   obtain ⟨hm, h⟩ := Xc h
   rw [if_pos hm]
   cases hx : Qa8 K (fun i => some (i * m, m)) (Qeh len z) parts with
   | none => rw [hx] at h; cases h
   | some cs =>
    rw [hx] at h
    simp only at h ⊢
    cases hf : yB fl cs with
    | false => rw [hf] at h; cases h
    | true =>
     rw [hf] at h
     simp only [cond_true] at h
     refine ⟨fun hfl => ?_, ?_⟩
     ·rw [hfl] at hf; exact hf
     ·cases ha : Vv K cs with
      | none => rw [ha] at h; cases h
      | some q =>
       obtain ⟨K1, ds⟩ := q
       rw [ha] at h
       exact h
theorem QAA {v : AV} {i : Nat} {k : AV → Option β} {l} (h : Qw2 v i k l = some r) : Qsv v i (fun v => k v = some r) () := by
 unfold Qw2 at h
 unfold Qsv
 split at h
 ·split at h
  ·rename_i c hc; simp only [hc]; exact h
  ·cases h
 ·cases h
theorem Qto {t : Option (TypeId × Nat × List AV)} {b : Option Nat} {s x : AV} {k : AV → KS → Option β} {l} (h : QmX K t b s x k l = some r) : QeE K t b s x (fun v K => k v K = some r) () := by
 unfold QmX at h
 unfold QeE
 split at h
 ·simp only
  split at h
  ·rename_i rows K1 hs
   simp only [hs]
   split at h
   ·split at h
    ·rename_i n rows hj
     simp only [hj]
     obtain ⟨hm, h⟩ := Xc h
     obtain ⟨h1, h2⟩ := Vo h
     exact ZZ hm ⟨by simpa using h1, h2⟩
    ·cases h
   ·obtain ⟨h1, h2⟩ := Vo h
    exact ⟨by simpa using h1, h2⟩
   ·cases h
  ·cases h
 ·cases h
theorem QCa {x y : AV} {k : AV → Option β} {l} (h : Qxk x y k l = some r) : QsF x y (fun v => k v = some r) () := by
 unfold Qxk at h
 unfold QsF
 split at h
 ·exact h
 ·cases h
theorem QBG {x y : AV} {k : AV → Option β} {l} (h : Qyd x y k l = some r) : QsI x y (fun v => k v = some r) () := by
 unfold Qyd at h
 unfold QsI
 split at h
 ·exact h
 ·cases h
theorem QwO {t : TI} {x : AV} {k : AV → Option β} {l} (h : QsR t x k l = some r) : QlS t x (fun v => k v = some r) () := by
 unfold QsR at h
 unfold QlS
 split at h
 ·exact h
 ·cases h
theorem Qyr {K : KS} {t : TI} {x : AV} {k : AV → Option β} {l} (h : QsJ K t x k l = some r) : QkI K t x (fun v => k v = some r) () := by
 unfold QsJ at h
 unfold QkI
 split at h
 ·split at h
  ·rename_i h1
   split at h
   ·rename_i h2; simp only [h1, h2]; exact h
   ·cases h
  ·cases h
 ·cases h
theorem QvB {op : BinOp} {x : AV} {k : AV → Option β} {l} (h : QlG op x k l = some r) : Qhx op x (fun v => k v = some r) () := by
 have key : ∀ {b : Bool} {x y : Option β}, Qmg b x y = some r → (b = true → x = some r) ∧ y = some r := by
  intro b x y h
  unfold Qmg at h
  cases b with
  | false => exact ⟨fun h => (by cases h), h⟩
  | true =>
   simp only [cond_true, oeq] at h
   split at h
   ·rename_i he; exact ⟨fun _ => h, by rw [← he]; exact h⟩
   ·cases h
 unfold QlG at h
 unfold Qhx
 split at h
 ·exact key h
 ·exact key h
 ·cases h
theorem Qxi {t : Option (TypeId × Nat × List AV)} {b : Option Nat} {x c : AV} {k : AV → KS → Option β} {l} {ns : List Nat} (h : Qus ns K t b x c k l = some r) : QpA ns K t b x c (fun v K => k v K = some r) () := by
 unfold Qus at h
 unfold QpA
 split at h
 ·simp only
  obtain ⟨h1, h2⟩ := Vo h
  obtain ⟨h3, h4⟩ := Vo h2
  rw [if_pos (by simpa using h1)]
  exact ⟨by simpa [mkB] using h3, h4⟩
 ·cases h
def SortP [Wd] (P : Program) (g : FuncId) : Prop := ∀ (K : KS) (j : Nat) (rows : List (List AV)) (xs : List Int), kg K j = some (.lst 1 rows) → Qdc rows = some xs → xs.length < 4611686018427387904 →
 AC P g K [.sl j] (fun x K' => x = .tup [] ∧ K' = K.set j (some (.lst 1 ((Qcg xs).map cI))))
def CompP [Wd] (P : Program) (g : FuncId) : Prop := ∀ (K : KS) (j : Nat) (rows : List (List AV)) (xs : List Int), kg K j = some (.lst 1 rows) → Qdc rows = some xs → xs.length < 4611686018427387904 →
 AC P g K [.sl j] (fun x K' => x = .sl K.length ∧ K' = K.set j none ++ [some (.lst 1 ((JN xs).map cI))])
theorem QfZ : ∀ {l : List Nat}, ndB l = true → l.Nodup
 | [], _ => by simp
 | x :: l, h => by
  simp only [ndB, Bool.and_eq_true, Bool.not_eq_true'] at h
  rw [List.nodup_cons]
  exact ⟨by simpa using h.1, QfZ h.2⟩
def ArP [Wd] (P : Program) (D : Orc) : Prop := ∀ g K args x, D.a g K args = some x → AC P g K args (fun v K' => (v = x.1 ∧ K'.take K.length = x.2) ∧ x.1.flat = true ∧ (∀ e ∈ x.2, Qfu e = true) ∧ x.2.length = K.length)
def MrP [Wd] (P : Program) (D : Orc) : Prop := ∀ g K args x, D.m g K args = some x → MC P g K args (· = x)
def Qhp [Wd] (P : Program) (D : Orc) : Prop := (∀ g args x, D.p g args = some x → PC P g args (· = x)) ∧ (∀ g, D.s g = true → SortP P g) ∧ (∀ g, D.q g = true → CompP P g) ∧ ArP P D ∧ MrP P D
theorem QmZ : ∀ {K : KS}, Qmc K = true → ∀ e ∈ K, Qfu e = true
 | [], _, e, he => by cases he
 | some (.lst n rows) :: K, h, e, he => by
  rcases List.mem_cons.1 he with rfl | he
  ·rfl
  ·exact QmZ (K := K) h e he
 | none :: K, h, e, he => by cases h
 | some (.box cs) :: K, h, e, he => by cases h
theorem QCl {s : Operand} (hs : Qci s = true) (f : Fr) : QfV (ev f s) = false := by
 cases s with
 | const v =>
  cases v <;> first | (cases hs; done) | skip
  rename_i a l c
  cases a <;> cases l <;> cases c <;> first | rfl | cases hs
 | _ => cases hs
theorem QoS [Wd] {P : Program} {D : Orc} (hD : Qhp P D) {o : Op} {f : Fr} {k : AV → KS → Option β} {l} (h : oop P D o f K k l = some r) : QcV P o f K (fun v K => k v K = some r) () := by
 unfold oop at h
 unfold QcV
 split at h
 case h_21 x args _ =>
  simp only
  unfold Qtm at h
  unfold Qp7
  split at h
  ·rename_i g caps hg
   unfold Qgx Jk at h
   obtain ⟨x, hx, h⟩ := Option.bind_eq_some_iff.1 h
   simp only [hg]
   exact ⟨_, (hD.1 _ _ _ hx).fix, fun y hy => by rw [hy]; exact h⟩
  ·cases h
 all_goals (simp only; unfold xop; simp only)
 case h_1 => exact h
 case h_2 => exact h
 case h_3 => exact QyY h
 case h_4 => exact Qvi h
 case h_5 => exact QA7 h
 case h_6 => exact Qvz h
 case h_7 => exact Qs6 h
 case h_8 => exact QsN h
 case h_9 => exact QtT h
 case h_10 =>
  split at h
  ·rename_i hn
   obtain ⟨hm, h⟩ := Xc h
   rw [if_pos hn]
   exact ZZ hm (QvB h)
  ·rename_i hn
   rw [if_neg hn]
   exact QBp h
 case h_11 => exact QHs h
 case h_12 =>
  split at h
  ·rename_i hb; rw [if_pos hb]; exact Qyr h
  ·rename_i hb
   obtain ⟨hm, h⟩ := Xc h
   rw [if_neg hb]
   exact ZZ hm (QwO h)
 case h_13 =>
  obtain ⟨hm, h⟩ := Xc h
  exact ZZ hm (h)
 case h_14 => exact QCF h
 case h_15 => exact QzW h
 case h_16 => exact QAA h
 case h_17 =>
  split at h
  ·rename_i h1 h2; simp only [h1, h2]; exact QDJ h
  ·cases h
 case h_18 =>
  split at h
  ·rename_i h1 h2
   obtain ⟨⟨hm, hn⟩, h⟩ := Xc h
   simp only [h1, h2]
   refine ⟨fun hc => ?_, ZZ hm (Qto h)⟩
   rename_i s x _ _ _ _
   have hs : Qci s = true := hc
   rw [hs] at hn
   have hs2 : QfV (ev f s) = false := QCl hs f
   have hx2 : QfV (ev f x) = false := hn
   simp [hs2, hx2]
  ·cases h
 case h_19 =>
  split at h
  ·rename_i h1; simp only [h1]; exact QCa h
  ·cases h
 case h_20 =>
  split at h
  ·rename_i h1; simp only [h1]; exact QBG h
  ·cases h
 case h_22 => exact Qxi h
 case h_23 => exact Qz2 h
 case h_24 => exact QAq h
 case h_25 => cases h
theorem QuY [Wd] {P : Program} {D : Orc} (hD : Qhp P D) {o : Op} {f : Fr} {K : KS} {k : AV → KS → Option β} {k' : AV → KS → Prop} {l} (h : QdW P D o f K k l = some r) (hk : ∀ v K, k v K = some r → k' v K) : xop P o f K k' () := by
 unfold QdW at h
 split at h
 ·rename_i x args ts _
  show Qp7 (ev f x) (fun g caps => Ql0 P g K (args.toList.map (ev f) ++ caps) k' ()) ()
  unfold Qtm at h
  unfold Qp7
  split at h
  ·rename_i g caps hg
   simp only [hg]
   simp only at h
   cases hs : D.s g with
   | false =>
    rw [hs] at h
    have h : cond (D.q g) (Qns K (args.toList.map (ev f) ++ caps) k ()) (cond (D.w g) (QkU D g K (args.toList.map (ev f) ++ caps) k ()) (cond (D.v g) (QiL D g K (args.toList.map (ev f) ++ caps) k ()) (Qgx D g K (args.toList.map (ev f) ++ caps) k ()))) = some r := h
    cases hq : D.q g with
    | false =>
     rw [hq] at h
     have h : cond (D.w g) (QkU D g K (args.toList.map (ev f) ++ caps) k ()) (cond (D.v g) (QiL D g K (args.toList.map (ev f) ++ caps) k ()) (Qgx D g K (args.toList.map (ev f) ++ caps) k ())) = some r := h
     cases hw : D.w g with
     | false =>
      rw [hw] at h
      have h : cond (D.v g) (QiL D g K (args.toList.map (ev f) ++ caps) k ()) (Qgx D g K (args.toList.map (ev f) ++ caps) k ()) = some r := h
      cases hv : D.v g with
      | false =>
       rw [hv] at h
       have h' : Qgx D g K (args.toList.map (ev f) ++ caps) k () = some r := h
       unfold Qgx Jk at h'
       obtain ⟨x, hx, h'⟩ := Option.bind_eq_some_iff.1 h'
       exact .inl ⟨_, (hD.1 _ _ _ hx).fix, fun y hy => by rw [hy]; exact hk _ _ h'⟩
      | true =>
       rw [hv] at h
       have h' : QiL D g K (args.toList.map (ev f) ++ caps) k () = some r := h
       unfold QiL Qm0 at h'
       obtain ⟨h1, h2⟩ := Vo h'
       unfold QmS at h2
       split at h2
       ·rename_i cs hcs
        obtain ⟨h3, h4⟩ := Vo h2
        unfold Jk at h4
        obtain ⟨x, hx, h5⟩ := Option.bind_eq_some_iff.1 h4
        have hls : ∀ j ∈ Qfl (args.toList.map (ev f) ++ caps), Qfu (kg K j) = true := fun j hj => QmZ h3 _ (by unfold Zh; exact List.mem_map_of_mem hj)
        exact .inr ⟨_, MC.sub (QfZ h1) hls (hD.2.2.2.2 _ _ _ _ hx) hcs, fun v K' ⟨hv, hK⟩ => by rw [hv, hK]; exact hk _ _ h5⟩
       ·cases h2
     | true =>
      rw [hw] at h
      have h' : QkU D g K (args.toList.map (ev f) ++ caps) k () = some r := h
      unfold QkU QmU at h'
      obtain ⟨h1, h2⟩ := Vo h'
      unfold QmP at h2
      split at h2
      ·rename_i cs hcs
       obtain ⟨h3, h4⟩ := Vo h2
       unfold Jk at h4
       obtain ⟨x, hx, h5⟩ := Option.bind_eq_some_iff.1 h4
       have x4 := hD.2.2.2.1 _ _ _ _ hx
       have hlen : (Zh K (Qfl (args.toList.map (ev f) ++ caps))).length = (Qfl (args.toList.map (ev f) ++ caps)).length := by simp [Zh]
       rw [hlen] at x4
       have hls : ∀ j ∈ Qfl (args.toList.map (ev f) ++ caps), Qfu (kg K j) = true := fun j hj => QmZ h3 _ (by unfold Zh; exact List.mem_map_of_mem hj)
       exact .inr ⟨_, AC.sub (QfZ h1) hls x4 hcs, fun v K' ⟨hv, hK⟩ => by rw [hv, hK]; exact hk _ _ h5⟩
      ·cases h2
    | true =>
     rw [hq] at h
     have h' : Qns K (args.toList.map (ev f) ++ caps) k () = some r := h
     unfold Qns at h'
     split at h'
     ·rename_i j hv
      rw [hv]
      split at h'
      ·rename_i rows hj
       split at h'
       ·rename_i xs hxs
        obtain ⟨h1, h2⟩ := Vo h'
        exact .inr ⟨_, hD.2.2.1 g hq K j rows xs hj hxs (by simpa using h1), fun x K' ⟨hx, hK⟩ => by rw [hx, hK]; exact hk _ _ h2⟩
       ·cases h'
      ·cases h'
     ·cases h'
   | true =>
    rw [hs] at h
    have h' : Qp3 K (args.toList.map (ev f) ++ caps) k () = some r := h
    unfold Qp3 at h'
    split at h'
    ·rename_i j hv
     rw [hv]
     split at h'
     ·rename_i rows hj
      split at h'
      ·rename_i xs hxs
       obtain ⟨h1, h2⟩ := Vo h'
       exact .inr ⟨_, hD.2.1 g hs K j rows xs hj hxs (by simpa using h1), fun x K' ⟨hx, hK⟩ => by rw [hx, hK]; exact hk _ _ h2⟩
      ·cases h'
     ·cases h'
    ·cases h'
  ·cases h
 ·exact QfO (Z3 (QoS hD h) hk)
theorem QgN [Wd] {P : Program} {D : Orc} (hD : Qhp P D) {ops : Array Oper} : ∀ (l : List Oper) {f : Fr} {K : KS} {k : Fr → KS → Option β}, QgA P D ops l f K k () = some r → Qih P ops l f K (fun f K => k f K = some r) ()
 | [], f, K, k, h => h
 | o :: l, f, K, k, h => by
  unfold QgA at h
  unfold Qih
  split at h
  ·rename_i hg
   simp only [hg]
   refine QuY hD h fun v K' h => ?_
   unfold QfM at h
   unfold QcR
   split at h
   ·rename_i d hd; simp only [hd]; exact QgN hD l h
   ·rename_i hd; simp only [hd]; exact QgN hD l h
  ·cases h
theorem Quz {α : Type} : ∀ {l : List α} {o : Nat} {c : α} {cs : List α}, l.drop o = c :: cs → l[o]? = some c
 | [], o, c, cs, h => by simp at h
 | x :: l, 0, c, cs, h => by simp at h; simp [h.1]
 | x :: l, o + 1, c, cs, h => by simp at h; simpa using Quz h
theorem QEt [Wd] {P : Program} {D : Orc} (hD : Qhp P D) {f : Fr} {K : KS} {p x : AV} {g : FuncId} {k : AV → KS → Option β} {l} (h : onp D f K p x g k l = some r) :
  ∃ j i o q m m' rows rs rs' rv, p = .ptr j i o ∧ kg K j = some (.lst q rows) ∧ (QM rows i)[o]? = some (.own m rs) ∧ x.scal = true ∧
   AC P g [some (.lst m rs)] [.sl 0, x] (fun v K' => (v = rv ∧ K'.take 1 = [some (.lst m' rs')]) ∧ rv.flat = true) ∧ k rv (QpO K j i o q m' rows rs') = some r := by
 unfold onp at h
 split at h
 ·rename_i j i o
  unfold onj at h
  split at h
  ·rename_i q rows hj
   unfold onx at h
   split at h
   ·rename_i m rs cs hcs
    obtain ⟨h1, h2⟩ := Vo h
    unfold Jk at h2
    obtain ⟨y, hy, h3⟩ := Option.bind_eq_some_iff.1 h2
    unfold onr at h3
    split at h3
    ·rename_i m' rs' hy2
     obtain ⟨h4, h5⟩ := Vo h3
     have y4 := hD.2.2.2.1 _ _ _ _ hy
     rw [hy2] at y4
     exact ⟨j, i, o, q, m, m', rows, rs, rs', y.1, rfl, hj, Quz hcs, h1, y4.mono fun v K' ⟨z1, z2, _⟩ => ⟨z1, z2⟩, h5⟩
    ·cases h3
   ·cases h
  ·cases h
 ·cases h
theorem QnK [Wd] {P : Program} {D : Orc} (hD : Qhp P D) {ops : Array Oper} : ∀ (us : List Nat) (l : List Oper) {f : Fr} {K : KS} {k : Fr → KS → Option β}, Qiq P D ops us l f K k () = some r → Qiy P ops us l f K (fun f K => k f K = some r)
 | _ :: us, o :: l, f, K, k, h => by
  unfold Qiq at h
  unfold Qiy
  split at h
  ·rename_i hg
   refine ⟨hg, QfO (Z3 (QoS hD h) fun v K' h => ?_)⟩
   unfold QfM at h
   unfold QcR
   split at h
   ·rename_i d hd; simp only [hd]; exact QnK hD us l h
   ·rename_i hd; simp only [hd]; exact QnK hD us l h
  ·cases h
 | _ :: _, [], f, K, k, h => by unfold Qiq at h; cases h
 | [], l, f, K, k, h => by
  unfold Qiq at h
  split at h
  ·rename_i he; cases he
  ·rename_i _ _ d t p _ _ _ e x _ _ _ dst g args ts _ _ _ l' _
   split at h
   ·rename_i d' e' hargs
    obtain ⟨h1, h2⟩ := Vo h
    simp only [Bool.and_eq_true, Bool.not_eq_true'] at h1
    obtain ⟨ht, hd', he', hde⟩ := h1
    obtain ⟨j, i, o, q, m, m', rows, rs, rs', rv, q1, q2, q3, q4, q6, q7⟩ := QEt hD h2
    have e1 : d = d' := Nat.eq_of_beq_eq_true hd'
    have e2 : e = e' := Nat.eq_of_beq_eq_true he'
    subst e1 e2
    have ea : args = #[.tmp d, .tmp e] := Array.toList_inj.1 hargs
    subst ea
    unfold Qiy
    refine ⟨d, e, t, p, x, g, ts, j, i, o, q, m, m', rows, rs, rs', rv, ⟨rfl, rfl, rfl⟩, ⟨rfl, rfl, rfl⟩, ⟨rfl, rfl⟩, (fun hh => by subst hh; rw [Nat.beq_refl] at hde; cases hde), ?_, q1, q2, q3, q4, q6, ?_⟩
    ·revert ht
     cases tk P t <;> intro ht <;> first | rfl | cases ht
    ·unfold QfM at q7
     unfold QcR
     split at q7
     ·exact QgN hD _ q7
     ·exact QgN hD _ q7
   ·cases h
  ·cases h
theorem QjU [Wd] {P : Program} {D : Orc} (hD : Qhp P D) {ops : Array Oper} : ∀ (l : List Oper) {f : Fr} {K : KS} {k : Fr → KS → Option β}, Qd3 P D ops l f K k () = some r → Qf5 P ops l f K (fun f K => k f K = some r)
 | [], f, K, k, h => h
 | o :: l, f, K, k, h => by
  unfold Qd3 at h
  unfold Qf5
  refine QaH.2 ?_
  have yes : ∀ {f}, oop P D o.op f K (fun v K' => QfM o.dst v f (fun f => Qd3 P D ops l f K' k ()) ()) () = some r → QcV P o.op f K (fun v K' => Qf5 P ops l (JD f o.dst v) K' (fun f K => k f K = some r)) () := fun {f} h =>
   Z3 (QoS hD h) fun v K' h => QjU hD l (by
    unfold QfM at h
    unfold JD
    cases hd : o.dst with
    | none => simp only [hd] at h; exact h
    | some d => simp only [hd] at h; exact h)
  have no : ∀ {f}, QfM o.dst (.tup []) f (fun f => Qd3 P D ops l f K k ()) () = some r → Qf5 P ops l (JD f o.dst (.tup [])) K (fun f K => k f K = some r) := fun {f} h => QjU hD l (by
    unfold QfM at h
    unfold JD
    cases hd : o.dst with
    | none => simp only [hd] at h; exact h
    | some d => simp only [hd] at h; exact h)
  unfold gd
  split at h
  ·rename_i hg; simp only [hg]; exact yes h
  ·rename_i j want hg
   simp only [hg]
   unfold ogd at h
   split at h
   ·rename_i d hj
    simp only [hj]
    split at h
    ·rename_i b hb
     simp only [hb]
     have e1 : up f d (.b b) = f := Qqr f d _ hb
     cases b <;> cases want <;> simp at h ⊢ <;> rw [e1] at h
     ·exact yes h
     ·exact no h
     ·exact no h
     ·exact yes h
    ·rename_i hb
     simp only [hb]
     exact no h
    ·cases h
   ·cases h
theorem QzU [Wd] {vs : List Nat} {P : Program} {D : Orc} (hD : Qhp P D) {o : Op} {f : Fr} {K : KS} {k : AV → KS → Option β} {k' : AV → KS → Prop} {l} (h : QmB vs P D o f K k l = some r) (hk : ∀ v K, k v K = some r → k' v K) : Qkh vs P o f K k' := by
 have key : (∃ g args ts, o = .call ⟨.value (.func g), args, ts⟩) ∨ (vOp vs o = false ∧ QmB vs P D o f K k l = oop P D o f K k ()) := by
  cases o with
  | call c =>
   obtain ⟨cal, args, ts⟩ := c
   cases cal with
   | value x =>
    cases x with
    | func g => exact .inl ⟨g, args, ts, rfl⟩
    | _ => exact .inr ⟨rfl, rfl⟩
   | _ => exact .inr ⟨rfl, rfl⟩
  | _ => exact .inr ⟨rfl, rfl⟩
 unfold Qkh
 rcases key with ⟨g, args, ts, rfl⟩ | ⟨hv, he⟩
 ·have h : cond (vs.contains g) (QdW P D (.call ⟨.value (.func g), args, ts⟩) f K k ()) (oop P D (.call ⟨.value (.func g), args, ts⟩) f K k ()) = some r := h
  have hv : vOp vs (.call ⟨.value (.func g), args, ts⟩) = vs.contains g := rfl
  rw [hv]
  cases hc : vs.contains g with
  | true =>
   rw [hc] at h
   rw [if_pos rfl]
   exact QuY (l := ()) hD h hk
  | false =>
   rw [hc] at h
   rw [if_neg (by simp)]
   exact Z3 (QoS (l := ()) hD h) hk
 ·rw [he] at h
  rw [hv, if_neg (by simp)]
  exact Z3 (QoS (l := ()) hD h) hk
theorem Qhg [Wd] {vs : List Nat} {P : Program} {D : Orc} (hD : Qhp P D) {ops : Array Oper} : ∀ (l : List Oper) {f : Fr} {K : KS} {k : Fr → KS → Option β}, ZV vs P D ops l f K k () = some r → Qka vs P ops l f K (fun f K => k f K = some r)
 | [], f, K, k, h => h
 | o :: l, f, K, k, h => by
  unfold ZV at h
  unfold Qka QdP
  have yes : ∀ {f}, QmB vs P D o.op f K (fun v K' => QfM o.dst v f (fun f => ZV vs P D ops l f K' k ()) ()) () = some r → Qkh vs P o.op f K (fun v K' => Qka vs P ops l (JD f o.dst v) K' (fun f K => k f K = some r)) := fun {f} h =>
   QzU hD h fun v K' h => Qhg hD l (by
    unfold QfM at h
    unfold JD
    cases hd : o.dst with
    | none => simp only [hd] at h; exact h
    | some d => simp only [hd] at h; exact h)
  have no : ∀ {f}, QfM o.dst (.tup []) f (fun f => ZV vs P D ops l f K k ()) () = some r → Qka vs P ops l (JD f o.dst (.tup [])) K (fun f K => k f K = some r) := fun {f} h => Qhg hD l (by
    unfold QfM at h
    unfold JD
    cases hd : o.dst with
    | none => simp only [hd] at h; exact h
    | some d => simp only [hd] at h; exact h)
  unfold gd
  split at h
  ·rename_i hg; simp only [hg]; exact yes h
  ·rename_i j want hg
   simp only [hg]
   unfold ogd at h
   split at h
   ·rename_i d hj
    simp only [hj]
    split at h
    ·rename_i b hb
     simp only [hb]
     have e1 : up f d (.b b) = f := Qqr f d _ hb
     cases b <;> cases want <;> simp at h ⊢ <;> rw [e1] at h
     ·exact yes h
     ·exact no h
     ·exact no h
     ·exact yes h
    ·rename_i hb
     simp only [hb]
     exact no h
    ·cases h
   ·cases h
theorem QrX [Wd] {P : Program} {ops : Array Oper} : ∀ (l : List Oper) {f : Fr} {K : KS} {k : Fr → KS → Prop}, Qf5 P ops l f K k → Qih P ops l f K k ()
 | [], f, K, k, h => h
 | o :: l, f, K, k, h => by
  unfold Qf5 QdO at h
  unfold Qih
  have st : ∀ {f : Fr} {K : KS} {d : Option Tmp} {v : AV}, QcR d v f (fun f => Qf5 P ops l f K k) () → QcR d v f (fun f => Qih P ops l f K k ()) () := fun {f K d v} h => by
   rw [QjA] at h ⊢; exact QrX l h
  have yes : ∀ {f}, QcV P o.op f K (fun v K' => QcR o.dst v f (fun f => Qf5 P ops l f K' k) ()) () → xop P o.op f K (fun v K' => QcR o.dst v f (fun f => Qih P ops l f K' k ()) ()) () := fun {f} h =>
   QfO (Z3 h fun v K' h => st h)
  split at h
  ·rename_i hg; try simp only [hg]
   exact yes h
  ·rename_i j want hg
   try simp only [hg]
   unfold xgd at h ⊢
   split at h
   ·rename_i d hj
    try simp only [hj]
    split at h
    ·rename_i b hb
     unfold XBr at h ⊢
     refine ⟨fun hx => ?_, fun hx => ?_⟩
     ·have := h.1 hx
      cases want
      ·exact st this
      ·exact yes this
     ·have := h.2 hx
      cases want
      ·exact yes this
      ·exact st this
    ·rename_i hb
     exact st h
    ·exact h.elim
   ·exact h.elim
end
end Go.Proofs.YtcdffihcfeajfaaGreat.Am
