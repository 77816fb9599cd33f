import Derived.Test.YtcdffihcfeajfaaGreatEvA
namespace Go.Proofs.YtcdffihcfeajfaaGreat.Am
open Go
set_option linter.unusedVariables false
set_option linter.unusedSimpArgs false
section
variable {β : Type} {r : β}
theorem Vo {b : Bool} {q : Option β} {l} (h : Vi b q l = some r) : b = true ∧ q = some r := by
 cases b with
 | false => cases h
 | true => exact ⟨rfl, h⟩
theorem Qwf {b : Bool} {p q : Option β} (h : cond b p q = some r) : (b = true → p = some r) ∧ (b = false → q = some r) := by
 cases b with
 | false => exact ⟨fun h' => by (cases h'), fun _ => h⟩
 | true => exact ⟨fun _ => h, fun h' => by cases h'⟩
theorem Xi {p : Prop} [Decidable p] {q : Option β} (h : (if p then q else none) = some r) : p ∧ q = some r := by
 by_cases hp : p
 ·rw [if_pos hp] at h; exact ⟨hp, h⟩
 ·rw [if_neg hp] at h; cases h
theorem Z6 {p : Prop} [Decidable p] {q : Prop} (hp : p) (hq : q) : (if p then q else False) := by rw [if_pos hp]; exact hq
theorem QBc (a b : Int) : (a == b) = decide (a = b) := by by_cases h : a = b <;> simp [h]
theorem QC4 (a b : Int) : (a != b) = !decide (a = b) := by by_cases h : a = b <;> simp [h]
theorem QDC (a b : List UInt8) : (a == b) = decide (a = b) := by by_cases h : a = b <;> simp [h]
theorem QDh (a b : List UInt8) : (a != b) = !decide (a = b) := by by_cases h : a = b <;> simp [h]
theorem Qva {te : Option (List CK)} {xs ys : List AV} {k : Bool → Option β} {l} (h : QBB te xs ys k l = some r) : Qq7 te xs ys (fun v => k v = some r) () := by
 unfold QBB at h
 unfold Qq7
 split at h
 ·split at h
  ·rename_i hb; simp only [hb]; exact h
  ·cases h
 ·cases h
theorem QBl {t : TI} {x : AV} {lo hi : Option AV} {k : AV → Option β} {l} (h : Qh7 t x lo hi k l = some r) : Qs0 t x lo hi (fun v => k v = some r) () := by
 unfold Qh7 at h
 unfold Qs0
 split at h
 ·obtain ⟨hm, h⟩ := Xi h
  simp only
  rw [if_pos hm]
  split at h
  ·rename_i h1 h2
   simp only [h1, h2]
   obtain ⟨h3, h4⟩ := Vo h
   exact ⟨by simpa [slB] using h3, h4⟩
  ·cases h
 ·simp only
  split at h
  ·rename_i h1 h2
   simp only [h1, h2]
   obtain ⟨h3, h4⟩ := Vo h
   exact ⟨by simpa [slB] using h3, h4⟩
  ·cases h
 ·cases h
theorem QEf {t : TI} {x i : AV} {k : AV → Option β} {l} (h : Qyo t x i k l = some r) : QsR t x i (fun v => k v = some r) () := by
 unfold Qyo at h
 unfold QsR
 split at h
 ·obtain ⟨h3, h4⟩ := Vo h
  exact ⟨QfB.1 h3, h4⟩
 ·cases h
theorem QAx {te : Option (List CK)} {op : BinOp} {x y : AV} {k : AV → Option β} {l} (h : QaH te op x y k l = some r) : QsP te op x y (fun v => k v = some r) () := by
 unfold QaH at h
 unfold QsP
 split at h
 ·simp only
  split at h
  ·exact Qva h
  ·exact Qva h
  ·cases h
 ·simp only
  split at h
  ·exact h
  ·exact h
  ·cases h
 ·simp only
  obtain ⟨hc, h⟩ := Xi h
  rw [if_pos hc]
  split at h <;> simp only <;> first
   | exact h
   | (rw [QBc]; exact h)
   | (rw [QC4]; exact h)
   | (obtain ⟨h1, h2⟩ := Vo h; exact ⟨by simpa using h1, h2⟩)
   | cases h
 ·simp only
  split at h <;> simp only <;> first
   | (rw [QDC]; exact h)
   | (rw [QDh]; exact h)
   | (obtain ⟨h1, h2⟩ := Vo h; exact ⟨by simpa using h1, h2⟩)
   | cases h
 ·cases h
theorem QGf {op : UnOp} {x : AV} {k : AV → Option β} {l} (h : oun op x k l = some r) : xun op x (fun v => k v = some r) () := by
 unfold oun at h
 unfold xun
 split at h
 ·exact h
 ·exact h
 ·cases h
theorem Qw0 {c x y : AV} {k : AV → Option β} {l} (h : QoE c x y k l = some r) : Qmd c x y (fun v => k v = some r) () := by
 unfold QoE at h
 unfold Qmd
 split at h
 ·rename_i b
  cases b with
  | true => exact h
  | false => exact h
 ·cases h
variable {K : KS}
theorem QC2 {t : TI} {x : AV} {k : AV → Option β} {l} (h : QrU K t x k l = some r) : QsI K t x (fun v => k v = some r) () := by
 unfold QrU at h
 unfold QsI
 split at h
 ·exact h
 ·exact h
 ·split at h
  ·rename_i e he; simp only [he]; exact h
  ·cases h
 ·exact h
 ·exact h
 ·cases h
theorem QAz {x : AV} {o : Option (Nat × TK)} {k : AV → Option β} {l} (h : Qv5 K x o k l = some r) : Qr4 K x o (fun v => k v = some r) () := by
 unfold Qv5 at h
 unfold Qr4
 split at h
 ·split at h
  ·rename_i e he; simp only [he]; exact h
  ·cases h
 ·exact h
 ·cases h
theorem QD0 {t : TI} {x i : AV} {k : AV → Option β} {l} (h : QsN K t x i k l = some r) : Qsc K t x i (fun v => k v = some r) () := by
 unfold QsN at h
 unfold Qsc
 split at h
 ·obtain ⟨hm, h⟩ := Xi h
  obtain ⟨h1, h2⟩ := Vo h
  exact Z6 hm ⟨QfB.1 h1, h2⟩
 ·split at h
  ·rename_i e he
   obtain ⟨hm, h⟩ := Xi h
   simp only [he]
   obtain ⟨h1, h2⟩ := Vo h
   exact Z6 hm ⟨QfB.1 h1, h2⟩
  ·cases h
 ·split at h
  ·rename_i e he
   simp only [he]
   obtain ⟨h1, h2⟩ := Vo h
   exact ⟨by simpa [QvR] using h1, h2⟩
  ·cases h
 ·cases h
theorem Qs9 {t : TK} {cs : List AV} {k : AV → Option β} {l} (h : QiO t cs k l = some r) : QiL t cs (fun v => k v = some r) () := by
 unfold QiO at h
 unfold QiL
 split at h
 ·split at h
  ·exact h
  ·cases h
 ·obtain ⟨hm, h⟩ := Xi h
  exact Z6 hm (h)
 ·cases h
theorem Qvm {cs : List AV} {o : Nat} {t : TK} {v : AV} {ok : AV → Bool} {k : List AV → Option β} {l} (h : Qid cs o t v ok k l = some r) : QqP cs o t v ok (fun v => k v = some r) () := by
 unfold Qid at h
 unfold QqP
 split at h
 ·obtain ⟨hm, h⟩ := Xi h
  exact Z6 hm (h)
 ·obtain ⟨hm, h⟩ := Xi h
  exact Z6 hm (h)
 ·cases h
theorem QlG {t : TK} {p v : AV} {k : KS → Option β} {l} (h : Qlr K t p v k l = some r) : Qgg K t p v (fun K => k K = some r) () := by
 unfold Qlr at h
 unfold Qgg
 split at h
 ·split at h
  ·rename_i cs hj
   simp only [hj]
   obtain ⟨hm, h⟩ := Xi h
   exact Z6 hm (Qvm h)
  ·rename_i n rows hj
   simp only [hj]
   obtain ⟨hm, h⟩ := Xi h
   exact Z6 hm (Qvm h)
  ·cases h
 ·cases h
theorem Qud {t : TK} {j i o n : Nat} {rows : List (List AV)} {v : AV} {k : KS → Option β} {l} {ns : List Nat} (h : Qkl ns K t j i o n rows v k l = some r) : Qfn ns K t j i o n rows v (fun K => k K = some r) () := by
 unfold Qkl at h
 unfold Qfn
 obtain ⟨hm, h⟩ := Xi h
 rw [if_pos hm]
 split at h
 ·rename_i K1 ds hab
  obtain ⟨hc, h⟩ := Xi h
  simp only [hab]
  exact Z6 hc h
 ·cases h
theorem QtC {fl : Bool} {t : TK} {p v : AV} {k : KS → Option β} {l} {ns : List Nat} (h : Qk2 fl ns K t p v k l = some r) : Z5 fl ns K t p v (fun K => k K = some r) () := by
 unfold Qk2 at h
 unfold Z5
 split at h
 ·split at h
  ·rename_i n rows hj
   simp only [hj]
   split at h
   ·rename_i hc; rw [if_pos hc]; exact QlG h
   ·rename_i hc
    rw [if_neg hc]
    obtain ⟨hf, h⟩ := Xi h
    exact Z6 hf (Qud h)
  ·rename_i hj
   cases hk : kg K _ with
   | none => simp only [hk]; exact QlG h
   | some e =>
    cases e with
    | box cs => simp only [hk]; exact QlG h
    | lst n rows => exact absurd hk (hj n rows)
 ·cases h
theorem QAu {v : AV} {k : AV → KS → Option β} {l} (h : QtH K v k l = some r) : QwE K v (fun v K => k v K = some r) () := by
 unfold QtH at h
 unfold QwE
 split at h
 ·obtain ⟨hm, h⟩ := Xi h
  exact Z6 hm h
 ·rename_i hn
  obtain ⟨hm, h⟩ := Xi h
  cases v with
  | agg cs => exact absurd rfl (hn cs)
  | _ => exact Z6 hm h
theorem Qwx {z : Option (List AV)} {k : AV → KS → Option β} {l} (h : Qpc K z k l = some r) : Qlt K z (fun v K => k v K = some r) () := by
 unfold Qpc at h
 unfold Qlt
 split at h
 ·exact h
 ·cases h
theorem Qwt {t : TB} {parts : List (Nat × AV)} {k : AV → Option β} {l} (h : QlK K t parts k l = some r) : QhB K t parts (fun v => k v = some r) () := by
 unfold QlK at h
 unfold QhB
 split at h
 ·split at h
  ·rename_i cs hc; simp only [hc]; exact h
  ·cases h
 ·split at h
  ·rename_i cs hc; simp only [hc]; exact h
  ·cases h
 ·cases h
theorem Qtu {t : Option (TypeId × Nat × List AV)} {len : Nat} {parts : List (Nat × AV)} {k : AV → KS → Option β} {l} {fl : Bool} {ns : List Nat} (h : QhY fl ns K t len parts k l = some r) : (fl = true → QrW K t len parts = true) ∧ Qc7 ns K t len parts (fun v K => k v K = some r) () := by
 unfold QhY at h
 unfold Qc7 QrW
 cases t with
 | none => cases h
 | some q =>
  obtain ⟨e, m, z⟩ := q
  simp only at h ⊢
  by_cases h0 : len = 0
  ·rw [if_pos h0] at h ⊢
   subst h0
   cases parts with
   | nil => exact ⟨fun _ => by simp [Qa5, Qes, noS], h⟩
   | cons _ _ => cases h
  ·rw [if_neg h0] at h ⊢
   obtain ⟨hm, h⟩ := Xi h
   rw [if_pos hm]
   cases hx : Qa5 K (fun i => some (i * m, m)) (Qes len z) parts with
   | none => rw [hx] at h; cases h
   | some cs =>
    rw [hx] at h
    simp only at h ⊢
    cases hf : yB fl cs with
    | false => rw [hf] at h; cases h
    | true =>
     rw [hf] at h
     simp only [cond_true] at h
     refine ⟨fun hfl => ?_, ?_⟩
     ·rw [hfl] at hf; exact hf
     ·cases ha : Vv K cs with
      | none => rw [ha] at h; cases h
      | some q =>
       obtain ⟨K1, ds⟩ := q
       rw [ha] at h
       exact h
theorem QAT {v : AV} {i : Nat} {k : AV → Option β} {l} (h : Qxt v i k l = some r) : QsG v i (fun v => k v = some r) () := by
 unfold Qxt at h
 unfold QsG
 split at h
 ·split at h
  ·rename_i c hc; simp only [hc]; exact h
  ·cases h
 ·cases h
theorem Qt2 {t : Option (TypeId × Nat × List AV)} {b : Option Nat} {s x : AV} {k : AV → KS → Option β} {l} (h : Qnd K t b s x k l = some r) : QeQ K t b s x (fun v K => k v K = some r) () := by
 unfold Qnd at h
 unfold QeQ
 split at h
 ·simp only
  split at h
  ·rename_i rows K1 hs
   simp only [hs]
   split at h
   ·split at h
    ·rename_i n rows hj
     simp only [hj]
     obtain ⟨hm, h⟩ := Xi h
     obtain ⟨h1, h2⟩ := Vo h
     exact Z6 hm ⟨by simpa using h1, h2⟩
    ·cases h
   ·obtain ⟨h1, h2⟩ := Vo h
    exact ⟨by simpa using h1, h2⟩
   ·cases h
  ·cases h
 ·cases h
theorem QBM {x y : AV} {k : AV → Option β} {l} (h : QxT x y k l = some r) : QrS x y (fun v => k v = some r) () := by
 unfold QxT at h
 unfold QrS
 split at h
 ·exact h
 ·cases h
theorem QAM {x y : AV} {k : AV → Option β} {l} (h : Qw2 x y k l = some r) : QrO x y (fun v => k v = some r) () := by
 unfold Qw2 at h
 unfold QrO
 split at h
 ·exact h
 ·cases h
theorem Qw4 {t : TI} {x : AV} {k : AV → Option β} {l} (h : QsU t x k l = some r) : Qme t x (fun v => k v = some r) () := by
 unfold QsU at h
 unfold Qme
 split at h
 ·exact h
 ·cases h
theorem Qyl {K : KS} {t : TI} {x : AV} {k : AV → Option β} {l} (h : QsK K t x k l = some r) : Qki K t x (fun v => k v = some r) () := by
 unfold QsK at h
 unfold Qki
 split at h
 ·split at h
  ·rename_i h1
   split at h
   ·rename_i h2; simp only [h1, h2]; exact h
   ·cases h
  ·cases h
 ·cases h
theorem QvD {op : BinOp} {x : AV} {k : AV → Option β} {l} (h : Qk8 op x k l = some r) : Qhn op x (fun v => k v = some r) () := by
 have key : ∀ {b : Bool} {x y : Option β}, QmC b x y = some r → (b = true → x = some r) ∧ y = some r := by
  intro b x y h
  unfold QmC at h
  cases b with
  | false => exact ⟨fun h => (by cases h), h⟩
  | true =>
   simp only [cond_true, oeq] at h
   split at h
   ·rename_i he; exact ⟨fun _ => h, by rw [← he]; exact h⟩
   ·cases h
 unfold Qk8 at h
 unfold Qhn
 split at h
 ·exact key h
 ·exact key h
 ·cases h
theorem QyC {t : Option (TypeId × Nat × List AV)} {b : Option Nat} {x c : AV} {k : AV → KS → Option β} {l} {ns : List Nat} (h : Qu0 ns K t b x c k l = some r) : QpR ns K t b x c (fun v K => k v K = some r) () := by
 unfold Qu0 at h
 unfold QpR
 split at h
 ·simp only
  obtain ⟨h1, h2⟩ := Vo h
  obtain ⟨h3, h4⟩ := Vo h2
  rw [if_pos (by simpa using h1)]
  exact ⟨by simpa [mkB] using h3, h4⟩
 ·cases h
def SortP [Wd] (P : Program) (g : FuncId) : Prop := ∀ (K : KS) (j : Nat) (rows : List (List AV)) (xs : List Int), kg K j = some (.lst 1 rows) → Qdy rows = some xs → xs.length < 4611686018427387904 →
 AC P g K [.sl j] (fun x K' => x = .tup [] ∧ K' = K.set j (some (.lst 1 ((Qcs xs).map cI))))
def CompP [Wd] (P : Program) (g : FuncId) : Prop := ∀ (K : KS) (j : Nat) (rows : List (List AV)) (xs : List Int), kg K j = some (.lst 1 rows) → Qdy rows = some xs → xs.length < 4611686018427387904 →
 AC P g K [.sl j] (fun x K' => x = .sl K.length ∧ K' = K.set j none ++ [some (.lst 1 ((JN xs).map cI))])
theorem Qf8 : ∀ {l : List Nat}, ndB l = true → l.Nodup
 | [], _ => by simp
 | x :: l, h => by
  simp only [ndB, Bool.and_eq_true, Bool.not_eq_true'] at h
  rw [List.nodup_cons]
  exact ⟨by simpa using h.1, Qf8 h.2⟩
def ArP [Wd] (P : Program) (D : Orc) : Prop := ∀ g K args x, D.a g K args = some x → AC P g K args (fun v K' => (v = x.1 ∧ K'.take K.length = x.2) ∧ x.1.flat = true ∧ (∀ e ∈ x.2, Qfr e = true) ∧ x.2.length = K.length)
def MrP [Wd] (P : Program) (D : Orc) : Prop := ∀ g K args x, D.m g K args = some x → MC P g K args (· = x)
def Qg4 [Wd] (P : Program) (D : Orc) : Prop := (∀ g args x, D.p g args = some x → PC P g args (· = x)) ∧ (∀ g, D.s g = true → SortP P g) ∧ (∀ g, D.q g = true → CompP P g) ∧ ArP P D ∧ MrP P D
theorem Qnn : ∀ {K : KS}, QmD K = true → ∀ e ∈ K, Qfr e = true
 | [], _, e, he => by cases he
 | some (.lst n rows) :: K, h, e, he => by
  rcases List.mem_cons.1 he with rfl | he
  ·rfl
  ·exact Qnn (K := K) h e he
 | none :: K, h, e, he => by cases h
 | some (.box cs) :: K, h, e, he => by cases h
theorem QDP {s : Operand} (hs : Qcw s = true) (f : Fr) : QfW (ev f s) = false := by
 cases s with
 | const v =>
  cases v <;> first | (cases hs; done) | skip
  rename_i a l c
  cases a <;> cases l <;> cases c <;> first | rfl | cases hs
 | _ => cases hs
theorem QnO [Wd] {P : Program} {D : Orc} (hD : Qg4 P D) {o : Op} {f : Fr} {k : AV → KS → Option β} {l} (h : oop P D o f K k l = some r) : Qdb P o f K (fun v K => k v K = some r) () := by
 unfold oop at h
 unfold Qdb
 split at h
 case h_21 x args _ =>
  simp only
  unfold QtD at h
  unfold Qrv
  split at h
  ·rename_i g caps hg
   unfold Qgz Ju at h
   obtain ⟨x, hx, h⟩ := Option.bind_eq_some_iff.1 h
   simp only [hg]
   exact ⟨_, (hD.1 _ _ _ hx).fix, fun y hy => by rw [hy]; exact h⟩
  ·cases h
 all_goals (simp only; unfold xop; simp only)
 case h_1 => exact h
 case h_2 => exact h
 case h_3 => exact Qw0 h
 case h_4 => exact Qwx h
 case h_5 => exact QAu h
 case h_6 => exact Qwt h
 case h_7 => exact Qtu h
 case h_8 => exact Qs9 h
 case h_9 => exact QtC h
 case h_10 =>
  split at h
  ·rename_i hn
   obtain ⟨hm, h⟩ := Xi h
   rw [if_pos hn]
   exact Z6 hm (QvD h)
  ·rename_i hn
   rw [if_neg hn]
   exact QAx h
 case h_11 => exact QGf h
 case h_12 =>
  split at h
  ·rename_i hb; rw [if_pos hb]; exact Qyl h
  ·rename_i hb
   obtain ⟨hm, h⟩ := Xi h
   rw [if_neg hb]
   exact Z6 hm (Qw4 h)
 case h_13 =>
  obtain ⟨hm, h⟩ := Xi h
  exact Z6 hm (h)
 case h_14 => exact QAz h
 case h_15 => exact QD0 h
 case h_16 => exact QAT h
 case h_17 =>
  split at h
  ·rename_i h1 h2; simp only [h1, h2]; exact QC2 h
  ·cases h
 case h_18 =>
  split at h
  ·rename_i h1 h2
   obtain ⟨⟨hm, hn⟩, h⟩ := Xi h
   simp only [h1, h2]
   refine ⟨fun hc => ?_, Z6 hm (Qt2 h)⟩
   rename_i s x _ _ _ _
   have hs : Qcw s = true := hc
   rw [hs] at hn
   have hs2 : QfW (ev f s) = false := QDP hs f
   have hx2 : QfW (ev f x) = false := hn
   simp [hs2, hx2]
  ·cases h
 case h_19 =>
  split at h
  ·rename_i h1; simp only [h1]; exact QBM h
  ·cases h
 case h_20 =>
  split at h
  ·rename_i h1; simp only [h1]; exact QAM h
  ·cases h
 case h_22 => exact QyC h
 case h_23 => exact QBl h
 case h_24 => exact QEf h
 case h_25 => cases h
theorem QuO [Wd] {P : Program} {D : Orc} (hD : Qg4 P D) {o : Op} {f : Fr} {K : KS} {k : AV → KS → Option β} {k' : AV → KS → Prop} {l} (h : Qef P D o f K k l = some r) (hk : ∀ v K, k v K = some r → k' v K) : xop P o f K k' () := by
 unfold Qef at h
 split at h
 ·rename_i x args ts _
  show Qrv (ev f x) (fun g caps => Qmm P g K (args.toList.map (ev f) ++ caps) k' ()) ()
  unfold QtD at h
  unfold Qrv
  split at h
  ·rename_i g caps hg
   simp only [hg]
   simp only at h
   cases hs : D.s g with
   | false =>
    rw [hs] at h
    have h : cond (D.q g) (Qos K (args.toList.map (ev f) ++ caps) k ()) (cond (D.w g) (QlV D g K (args.toList.map (ev f) ++ caps) k ()) (cond (D.v g) (QiX D g K (args.toList.map (ev f) ++ caps) k ()) (Qgz D g K (args.toList.map (ev f) ++ caps) k ()))) = some r := h
    cases hq : D.q g with
    | false =>
     rw [hq] at h
     have h : cond (D.w g) (QlV D g K (args.toList.map (ev f) ++ caps) k ()) (cond (D.v g) (QiX D g K (args.toList.map (ev f) ++ caps) k ()) (Qgz D g K (args.toList.map (ev f) ++ caps) k ())) = some r := h
     cases hw : D.w g with
     | false =>
      rw [hw] at h
      have h : cond (D.v g) (QiX D g K (args.toList.map (ev f) ++ caps) k ()) (Qgz D g K (args.toList.map (ev f) ++ caps) k ()) = some r := h
      cases hv : D.v g with
      | false =>
       rw [hv] at h
       have h' : Qgz D g K (args.toList.map (ev f) ++ caps) k () = some r := h
       unfold Qgz Ju at h'
       obtain ⟨x, hx, h'⟩ := Option.bind_eq_some_iff.1 h'
       exact .inl ⟨_, (hD.1 _ _ _ hx).fix, fun y hy => by rw [hy]; exact hk _ _ h'⟩
      | true =>
       rw [hv] at h
       have h' : QiX D g K (args.toList.map (ev f) ++ caps) k () = some r := h
       unfold QiX Qnk at h'
       obtain ⟨h1, h2⟩ := Vo h'
       unfold Qne at h2
       split at h2
       ·rename_i cs hcs
        obtain ⟨h3, h4⟩ := Vo h2
        unfold Ju at h4
        obtain ⟨x, hx, h5⟩ := Option.bind_eq_some_iff.1 h4
        have hls : ∀ j ∈ Qfu (args.toList.map (ev f) ++ caps), Qfr (kg K j) = true := fun j hj => Qnn h3 _ (by unfold Zn; exact List.mem_map_of_mem hj)
        exact .inr ⟨_, MC.sub (Qf8 h1) hls (hD.2.2.2.2 _ _ _ _ hx) hcs, fun v K' ⟨hv, hK⟩ => by rw [hv, hK]; exact hk _ _ h5⟩
       ·cases h2
     | true =>
      rw [hw] at h
      have h' : QlV D g K (args.toList.map (ev f) ++ caps) k () = some r := h
      unfold QlV Qnb at h'
      obtain ⟨h1, h2⟩ := Vo h'
      unfold Qnm at h2
      split at h2
      ·rename_i cs hcs
       obtain ⟨h3, h4⟩ := Vo h2
       unfold Ju at h4
       obtain ⟨x, hx, h5⟩ := Option.bind_eq_some_iff.1 h4
       have x4 := hD.2.2.2.1 _ _ _ _ hx
       have hlen : (Zn K (Qfu (args.toList.map (ev f) ++ caps))).length = (Qfu (args.toList.map (ev f) ++ caps)).length := by simp [Zn]
       rw [hlen] at x4
       have hls : ∀ j ∈ Qfu (args.toList.map (ev f) ++ caps), Qfr (kg K j) = true := fun j hj => Qnn h3 _ (by unfold Zn; exact List.mem_map_of_mem hj)
       exact .inr ⟨_, AC.sub (Qf8 h1) hls x4 hcs, fun v K' ⟨hv, hK⟩ => by rw [hv, hK]; exact hk _ _ h5⟩
      ·cases h2
    | true =>
     rw [hq] at h
     have h' : Qos K (args.toList.map (ev f) ++ caps) k () = some r := h
     unfold Qos at h'
     split at h'
     ·rename_i j hv
      rw [hv]
      split at h'
      ·rename_i rows hj
       split at h'
       ·rename_i xs hxs
        obtain ⟨h1, h2⟩ := Vo h'
        exact .inr ⟨_, hD.2.2.1 g hq K j rows xs hj hxs (by simpa using h1), fun x K' ⟨hx, hK⟩ => by rw [hx, hK]; exact hk _ _ h2⟩
       ·cases h'
      ·cases h'
     ·cases h'
   | true =>
    rw [hs] at h
    have h' : Qqh K (args.toList.map (ev f) ++ caps) k () = some r := h
    unfold Qqh at h'
    split at h'
    ·rename_i j hv
     rw [hv]
     split at h'
     ·rename_i rows hj
      split at h'
      ·rename_i xs hxs
       obtain ⟨h1, h2⟩ := Vo h'
       exact .inr ⟨_, hD.2.1 g hs K j rows xs hj hxs (by simpa using h1), fun x K' ⟨hx, hK⟩ => by rw [hx, hK]; exact hk _ _ h2⟩
      ·cases h'
     ·cases h'
    ·cases h'
  ·cases h
 ·exact Qgc (Qav (QnO hD h) hk)
theorem Qhi [Wd] {P : Program} {D : Orc} (hD : Qg4 P D) {ops : Array Oper} : ∀ (l : List Oper) {f : Fr} {K : KS} {k : Fr → KS → Option β}, QgB P D ops l f K k () = some r → Qia P ops l f K (fun f K => k f K = some r) ()
 | [], f, K, k, h => h
 | o :: l, f, K, k, h => by
  unfold QgB at h
  unfold Qia
  split at h
  ·rename_i hg
   simp only [hg]
   refine QuO hD h fun v K' h => ?_
   unfold Qf1 at h
   unfold Qc9
   split at h
   ·rename_i d hd; simp only [hd]; exact Qhi hD l h
   ·rename_i hd; simp only [hd]; exact Qhi hD l h
  ·cases h
theorem QuN {α : Type} : ∀ {l : List α} {o : Nat} {c : α} {cs : List α}, l.drop o = c :: cs → l[o]? = some c
 | [], o, c, cs, h => by simp at h
 | x :: l, 0, c, cs, h => by simp at h; simp [h.1]
 | x :: l, o + 1, c, cs, h => by simp at h; simpa using QuN h
theorem QHM [Wd] {P : Program} {D : Orc} (hD : Qg4 P D) {f : Fr} {K : KS} {p x : AV} {g : FuncId} {k : AV → KS → Option β} {l} (h : onp D f K p x g k l = some r) :
  ∃ j i o q m m' rows rs rs' rv, p = .ptr j i o ∧ kg K j = some (.lst q rows) ∧ (QR rows i)[o]? = some (.own m rs) ∧ x.scal = true ∧
   AC P g [some (.lst m rs)] [.sl 0, x] (fun v K' => (v = rv ∧ K'.take 1 = [some (.lst m' rs')]) ∧ rv.flat = true) ∧ k rv (QpX K j i o q m' rows rs') = some r := by
 unfold onp at h
 split at h
 ·rename_i j i o
  unfold onj at h
  split at h
  ·rename_i q rows hj
   unfold onx at h
   split at h
   ·rename_i m rs cs hcs
    obtain ⟨h1, h2⟩ := Vo h
    unfold Ju at h2
    obtain ⟨y, hy, h3⟩ := Option.bind_eq_some_iff.1 h2
    unfold onr at h3
    split at h3
    ·rename_i m' rs' hy2
     obtain ⟨h4, h5⟩ := Vo h3
     have y4 := hD.2.2.2.1 _ _ _ _ hy
     rw [hy2] at y4
     exact ⟨j, i, o, q, m, m', rows, rs, rs', y.1, rfl, hj, QuN hcs, h1, y4.mono fun v K' ⟨z1, z2, _⟩ => ⟨z1, z2⟩, h5⟩
    ·cases h3
   ·cases h
  ·cases h
 ·cases h
theorem Qoq [Wd] {P : Program} {D : Orc} (hD : Qg4 P D) {ops : Array Oper} : ∀ (us : List Nat) (l : List Oper) {f : Fr} {K : KS} {k : Fr → KS → Option β}, QiK P D ops us l f K k () = some r → QiM P ops us l f K (fun f K => k f K = some r)
 | _ :: us, o :: l, f, K, k, h => by
  unfold QiK at h
  unfold QiM
  split at h
  ·rename_i hg
   refine ⟨hg, Qgc (Qav (QnO hD h) fun v K' h => ?_)⟩
   unfold Qf1 at h
   unfold Qc9
   split at h
   ·rename_i d hd; simp only [hd]; exact Qoq hD us l h
   ·rename_i hd; simp only [hd]; exact Qoq hD us l h
  ·cases h
 | _ :: _, [], f, K, k, h => by unfold QiK at h; cases h
 | [], l, f, K, k, h => by
  unfold QiK at h
  split at h
  ·rename_i he; cases he
  ·rename_i _ _ d t p _ _ _ e x _ _ _ dst g args ts _ _ _ l' _
   split at h
   ·rename_i d' e' hargs
    obtain ⟨h1, h2⟩ := Vo h
    simp only [Bool.and_eq_true, Bool.not_eq_true'] at h1
    obtain ⟨ht, hd', he', hde⟩ := h1
    obtain ⟨j, i, o, q, m, m', rows, rs, rs', rv, q1, q2, q3, q4, q6, q7⟩ := QHM hD h2
    have e1 : d = d' := Nat.eq_of_beq_eq_true hd'
    have e2 : e = e' := Nat.eq_of_beq_eq_true he'
    subst e1 e2
    have ea : args = #[.tmp d, .tmp e] := Array.toList_inj.1 hargs
    subst ea
    unfold QiM
    refine ⟨d, e, t, p, x, g, ts, j, i, o, q, m, m', rows, rs, rs', rv, ⟨rfl, rfl, rfl⟩, ⟨rfl, rfl, rfl⟩, ⟨rfl, rfl⟩, (fun hh => by subst hh; rw [Nat.beq_refl] at hde; cases hde), ?_, q1, q2, q3, q4, q6, ?_⟩
    ·revert ht
     cases tk P t <;> intro ht <;> first | rfl | cases ht
    ·unfold Qf1 at q7
     unfold Qc9
     split at q7
     ·exact Qhi hD _ q7
     ·exact Qhi hD _ q7
   ·cases h
  ·cases h
theorem QkG [Wd] {P : Program} {D : Orc} (hD : Qg4 P D) {ops : Array Oper} : ∀ (l : List Oper) {f : Fr} {K : KS} {k : Fr → KS → Option β}, Qd9 P D ops l f K k () = some r → Qgr P ops l f K (fun f K => k f K = some r)
 | [], f, K, k, h => h
 | o :: l, f, K, k, h => by
  unfold Qd9 at h
  unfold Qgr
  refine QaP.2 ?_
  have yes : ∀ {f}, oop P D o.op f K (fun v K' => Qf1 o.dst v f (fun f => Qd9 P D ops l f K' k ()) ()) () = some r → Qdb P o.op f K (fun v K' => Qgr P ops l (JJ f o.dst v) K' (fun f K => k f K = some r)) () := fun {f} h =>
   Qav (QnO hD h) fun v K' h => QkG hD l (by
    unfold Qf1 at h
    unfold JJ
    cases hd : o.dst with
    | none => simp only [hd] at h; exact h
    | some d => simp only [hd] at h; exact h)
  have no : ∀ {f}, Qf1 o.dst (.tup []) f (fun f => Qd9 P D ops l f K k ()) () = some r → Qgr P ops l (JJ f o.dst (.tup [])) K (fun f K => k f K = some r) := fun {f} h => QkG hD l (by
    unfold Qf1 at h
    unfold JJ
    cases hd : o.dst with
    | none => simp only [hd] at h; exact h
    | some d => simp only [hd] at h; exact h)
  unfold gd
  split at h
  ·rename_i hg; simp only [hg]; exact yes h
  ·rename_i j want hg
   simp only [hg]
   unfold ogd at h
   split at h
   ·rename_i d hj
    simp only [hj]
    split at h
    ·rename_i b hb
     simp only [hb]
     have e1 : up f d (.b b) = f := QqU f d _ hb
     cases b <;> cases want <;> simp at h ⊢ <;> rw [e1] at h
     ·exact yes h
     ·exact no h
     ·exact no h
     ·exact yes h
    ·rename_i hb
     simp only [hb]
     exact no h
    ·cases h
   ·cases h
theorem QAA [Wd] {vs : List Nat} {P : Program} {D : Orc} (hD : Qg4 P D) {o : Op} {f : Fr} {K : KS} {k : AV → KS → Option β} {k' : AV → KS → Prop} {l} (h : Qmz vs P D o f K k l = some r) (hk : ∀ v K, k v K = some r → k' v K) : Qku vs P o f K k' := by
 have key : (∃ g args ts, o = .call ⟨.value (.func g), args, ts⟩) ∨ (vOp vs o = false ∧ Qmz vs P D o f K k l = oop P D o f K k ()) := by
  cases o with
  | call c =>
   obtain ⟨cal, args, ts⟩ := c
   cases cal with
   | value x =>
    cases x with
    | func g => exact .inl ⟨g, args, ts, rfl⟩
    | _ => exact .inr ⟨rfl, rfl⟩
   | _ => exact .inr ⟨rfl, rfl⟩
  | _ => exact .inr ⟨rfl, rfl⟩
 unfold Qku
 rcases key with ⟨g, args, ts, rfl⟩ | ⟨hv, he⟩
 ·have h : cond (vs.contains g) (Qef P D (.call ⟨.value (.func g), args, ts⟩) f K k ()) (oop P D (.call ⟨.value (.func g), args, ts⟩) f K k ()) = some r := h
  have hv : vOp vs (.call ⟨.value (.func g), args, ts⟩) = vs.contains g := rfl
  rw [hv]
  cases hc : vs.contains g with
  | true =>
   rw [hc] at h
   rw [if_pos rfl]
   exact QuO (l := ()) hD h hk
  | false =>
   rw [hc] at h
   rw [if_neg (by simp)]
   exact Qav (QnO (l := ()) hD h) hk
 ·rw [he] at h
  rw [hv, if_neg (by simp)]
  exact Qav (QnO (l := ()) hD h) hk
theorem Qhq [Wd] {vs : List Nat} {P : Program} {D : Orc} (hD : Qg4 P D) {ops : Array Oper} : ∀ (l : List Oper) {f : Fr} {K : KS} {k : Fr → KS → Option β}, Z1 vs P D ops l f K k () = some r → Qke vs P ops l f K (fun f K => k f K = some r)
 | [], f, K, k, h => h
 | o :: l, f, K, k, h => by
  unfold Z1 at h
  unfold Qke Qd5
  have yes : ∀ {f}, Qmz vs P D o.op f K (fun v K' => Qf1 o.dst v f (fun f => Z1 vs P D ops l f K' k ()) ()) () = some r → Qku vs P o.op f K (fun v K' => Qke vs P ops l (JJ f o.dst v) K' (fun f K => k f K = some r)) := fun {f} h =>
   QAA hD h fun v K' h => Qhq hD l (by
    unfold Qf1 at h
    unfold JJ
    cases hd : o.dst with
    | none => simp only [hd] at h; exact h
    | some d => simp only [hd] at h; exact h)
  have no : ∀ {f}, Qf1 o.dst (.tup []) f (fun f => Z1 vs P D ops l f K k ()) () = some r → Qke vs P ops l (JJ f o.dst (.tup [])) K (fun f K => k f K = some r) := fun {f} h => Qhq hD l (by
    unfold Qf1 at h
    unfold JJ
    cases hd : o.dst with
    | none => simp only [hd] at h; exact h
    | some d => simp only [hd] at h; exact h)
  unfold gd
  split at h
  ·rename_i hg; simp only [hg]; exact yes h
  ·rename_i j want hg
   simp only [hg]
   unfold ogd at h
   split at h
   ·rename_i d hj
    simp only [hj]
    split at h
    ·rename_i b hb
     simp only [hb]
     have e1 : up f d (.b b) = f := QqU f d _ hb
     cases b <;> cases want <;> simp at h ⊢ <;> rw [e1] at h
     ·exact yes h
     ·exact no h
     ·exact no h
     ·exact yes h
    ·rename_i hb
     simp only [hb]
     exact no h
    ·cases h
   ·cases h
theorem Qs4 [Wd] {P : Program} {ops : Array Oper} : ∀ (l : List Oper) {f : Fr} {K : KS} {k : Fr → KS → Prop}, Qgr P ops l f K k → Qia P ops l f K k ()
 | [], f, K, k, h => h
 | o :: l, f, K, k, h => by
  unfold Qgr Qd2 at h
  unfold Qia
  have st : ∀ {f : Fr} {K : KS} {d : Option Tmp} {v : AV}, Qc9 d v f (fun f => Qgr P ops l f K k) () → Qc9 d v f (fun f => Qia P ops l f K k ()) () := fun {f K d v} h => by
   rw [Qkm] at h ⊢; exact Qs4 l h
  have yes : ∀ {f}, Qdb P o.op f K (fun v K' => Qc9 o.dst v f (fun f => Qgr P ops l f K' k) ()) () → xop P o.op f K (fun v K' => Qc9 o.dst v f (fun f => Qia P ops l f K' k ()) ()) () := fun {f} h =>
   Qgc (Qav h fun v K' h => st h)
  split at h
  ·rename_i hg; try simp only [hg]
   exact yes h
  ·rename_i j want hg
   try simp only [hg]
   unfold xgd at h ⊢
   split at h
   ·rename_i d hj
    try simp only [hj]
    split at h
    ·rename_i b hb
     unfold XBr at h ⊢
     refine ⟨fun hx => ?_, fun hx => ?_⟩
     ·have := h.1 hx
      cases want
      ·exact st this
      ·exact yes this
     ·have := h.2 hx
      cases want
      ·exact yes this
      ·exact st this
    ·rename_i hb
     exact st h
    ·exact h.elim
   ·exact h.elim
end
end Go.Proofs.YtcdffihcfeajfaaGreat.Am
