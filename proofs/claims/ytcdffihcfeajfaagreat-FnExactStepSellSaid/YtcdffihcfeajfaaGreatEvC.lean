import Derived.Test.YtcdffihcfeajfaaGreatEvA
namespace Go.Proofs.YtcdffihcfeajfaaGreat.Am
open Go
set_option linter.unusedVariables false
set_option linter.unusedSimpArgs false
section
variable {β : Type} {r : β}
theorem Q6 {b : Bool} {q : Option β} {l} (h : Q8 b q l = some r) : b = true ∧ q = some r := by
 cases b with
 | false => cases h
 | true => exact ⟨rfl, h⟩
theorem Qsc {b : Bool} {p q : Option β} (h : cond b p q = some r) : (b = true → p = some r) ∧ (b = false → q = some r) := by
 cases b with
 | false => exact ⟨fun h' => by (cases h'), fun _ => h⟩
 | true => exact ⟨fun _ => h, fun h' => by cases h'⟩
theorem VD {p : Prop} [Decidable p] {q : Option β} (h : (if p then q else none) = some r) : p ∧ q = some r := by
 by_cases hp : p
 ·rw [if_pos hp] at h; exact ⟨hp, h⟩
 ·rw [if_neg hp] at h; cases h
theorem JZ {p : Prop} [Decidable p] {q : Prop} (hp : p) (hq : q) : (if p then q else False) := by rw [if_pos hp]; exact hq
theorem QvX (a b : Int) : (a == b) = decide (a = b) := by by_cases h : a = b <;> simp [h]
theorem Qwg (a b : Int) : (a != b) = !decide (a = b) := by by_cases h : a = b <;> simp [h]
theorem Qv3 (a b : List UInt8) : (a == b) = decide (a = b) := by by_cases h : a = b <;> simp [h]
theorem Qvp (a b : List UInt8) : (a != b) = !decide (a = b) := by by_cases h : a = b <;> simp [h]
theorem QrF {te : Option (List CK)} {xs ys : List AV} {k : Bool → Option β} {l} (h : QxG te xs ys k l = some r) : Qm6 te xs ys (fun v => k v = some r) () := by
 unfold QxG at h
 unfold Qm6
 split at h
 ·split at h
  ·rename_i hb; simp only [hb]; exact h
  ·cases h
 ·cases h
theorem Qv4 {t : TI} {x : AV} {lo hi : Option AV} {k : AV → Option β} {l} (h : QfX t x lo hi k l = some r) : QoF t x lo hi (fun v => k v = some r) () := by
 unfold QfX at h
 unfold QoF
 split at h
 ·obtain ⟨hm, h⟩ := VD h
  simp only
  rw [if_pos hm]
  split at h
  ·rename_i h1 h2
   simp only [h1, h2]
   obtain ⟨h3, h4⟩ := Q6 h
   exact ⟨by simpa [slB] using h3, h4⟩
  ·cases h
 ·simp only
  split at h
  ·rename_i h1 h2
   simp only [h1, h2]
   obtain ⟨h3, h4⟩ := Q6 h
   exact ⟨by simpa [slB] using h3, h4⟩
  ·cases h
 ·cases h
theorem Qw1 {t : TI} {x i : AV} {k : AV → Option β} {l} (h : Qvc t x i k l = some r) : QoW t x i (fun v => k v = some r) () := by
 unfold Qvc at h
 unfold QoW
 split at h
 ·obtain ⟨h3, h4⟩ := Q6 h
  exact ⟨QdY.1 h3, h4⟩
 ·cases h
theorem QwU {te : Option (List CK)} {op : BinOp} {x y : AV} {k : AV → Option β} {l} (h : Zr te op x y k l = some r) : QpE te op x y (fun v => k v = some r) () := by
 unfold Zr at h
 unfold QpE
 split at h
 ·simp only
  split at h
  ·exact QrF h
  ·exact QrF h
  ·cases h
 ·simp only
  split at h
  ·exact h
  ·exact h
  ·cases h
 ·simp only
  obtain ⟨hc, h⟩ := VD h
  rw [if_pos hc]
  split at h <;> simp only <;> first
   | exact h
   | (rw [QvX]; exact h)
   | (rw [Qwg]; exact h)
   | (obtain ⟨h1, h2⟩ := Q6 h; exact ⟨by simpa using h1, h2⟩)
   | cases h
 ·simp only
  split at h <;> simp only <;> first
   | (rw [Qv3]; exact h)
   | (rw [Qvp]; exact h)
   | (obtain ⟨h1, h2⟩ := Q6 h; exact ⟨by simpa using h1, h2⟩)
   | cases h
 ·cases h
theorem QyU {op : UnOp} {x : AV} {k : AV → Option β} {l} (h : oun op x k l = some r) : xun op x (fun v => k v = some r) () := by
 unfold oun at h
 unfold xun
 split at h
 ·exact h
 ·exact h
 ·cases h
theorem Qt5 {c x y : AV} {k : AV → Option β} {l} (h : Qi1 c x y k l = some r) : QiX c x y (fun v => k v = some r) () := by
 unfold Qi1 at h
 unfold QiX
 split at h
 ·rename_i b
  cases b with
  | true => exact h
  | false => exact h
 ·cases h
variable {K : KS}
theorem Qwi {t : TI} {x : AV} {k : AV → Option β} {l} (h : QoL K t x k l = some r) : QoT K t x (fun v => k v = some r) () := by
 unfold QoL at h
 unfold QoT
 split at h
 ·exact h
 ·exact h
 ·split at h
  ·rename_i e he; simp only [he]; exact h
  ·cases h
 ·exact h
 ·exact h
 ·cases h
theorem Qwu {x : AV} {o : Option (Nat × TK)} {k : AV → Option β} {l} (h : QsY K x o k l = some r) : Qn8 K x o (fun v => k v = some r) () := by
 unfold QsY at h
 unfold Qn8
 split at h
 ·split at h
  ·rename_i e he; simp only [he]; exact h
  ·cases h
 ·exact h
 ·cases h
theorem QwL {t : TI} {x i : AV} {k : AV → Option β} {l} (h : Qpk K t x i k l = some r) : QpD K t x i (fun v => k v = some r) () := by
 unfold Qpk at h
 unfold QpD
 split at h
 ·obtain ⟨hm, h⟩ := VD h
  obtain ⟨h1, h2⟩ := Q6 h
  exact JZ hm ⟨QdY.1 h1, h2⟩
 ·split at h
  ·rename_i e he
   obtain ⟨hm, h⟩ := VD h
   simp only [he]
   obtain ⟨h1, h2⟩ := Q6 h
   exact JZ hm ⟨QdY.1 h1, h2⟩
  ·cases h
 ·split at h
  ·rename_i e he
   simp only [he]
   obtain ⟨h1, h2⟩ := Q6 h
   exact ⟨by simpa [QrZ] using h1, h2⟩
  ·cases h
 ·cases h
theorem Qo6 {t : TK} {cs : List AV} {k : AV → Option β} {l} (h : Qf7 t cs k l = some r) : Qeg t cs (fun v => k v = some r) () := by
 unfold Qf7 at h
 unfold Qeg
 split at h
 ·split at h
  ·exact h
  ·cases h
 ·obtain ⟨hm, h⟩ := VD h
  exact JZ hm (h)
 ·cases h
theorem QrQ {cs : List AV} {o : Nat} {t : TK} {v : AV} {ok : AV → Bool} {k : List AV → Option β} {l} (h : QfE cs o t v ok k l = some r) : Qng cs o t v ok (fun v => k v = some r) () := by
 unfold QfE at h
 unfold Qng
 split at h
 ·obtain ⟨hm, h⟩ := VD h
  exact JZ hm (h)
 ·obtain ⟨hm, h⟩ := VD h
  exact JZ hm (h)
 ·cases h
theorem Qh8 {t : TK} {p v : AV} {k : KS → Option β} {l} (h : Qh2 K t p v k l = some r) : Qeb K t p v (fun K => k K = some r) () := by
 unfold Qh2 at h
 unfold Qeb
 split at h
 ·split at h
  ·rename_i cs hj
   simp only [hj]
   obtain ⟨hm, h⟩ := VD h
   exact JZ hm (QrQ h)
  ·rename_i n rows hj
   simp only [hj]
   obtain ⟨hm, h⟩ := VD h
   exact JZ hm (QrQ h)
  ·cases h
 ·cases h
theorem QqS {t : TK} {j i o n : Nat} {rows : List (List AV)} {v : AV} {k : KS → Option β} {l} {ns : List Nat} (h : QhU ns K t j i o n rows v k l = some r) : Qdj ns K t j i o n rows v (fun K => k K = some r) () := by
 unfold QhU at h
 unfold Qdj
 obtain ⟨hm, h⟩ := VD h
 rw [if_pos hm]
 split at h
 ·rename_i K1 ds hab
  obtain ⟨hc, h⟩ := VD h
  simp only [hab]
  exact JZ hc h
 ·cases h
theorem Qqr {fl : Bool} {t : TK} {p v : AV} {k : KS → Option β} {l} {ns : List Nat} (h : QgX fl ns K t p v k l = some r) : JY fl ns K t p v (fun K => k K = some r) () := by
 unfold QgX at h
 unfold JY
 split at h
 ·split at h
  ·rename_i n rows hj
   simp only [hj]
   split at h
   ·rename_i hc; rw [if_pos hc]; exact Qh8 h
   ·rename_i hc
    rw [if_neg hc]
    obtain ⟨hf, h⟩ := VD h
    exact JZ hf (QqS h)
  ·rename_i hj
   cases hk : kg K _ with
   | none => simp only [hk]; exact Qh8 h
   | some e =>
    cases e with
    | box cs => simp only [hk]; exact Qh8 h
    | lst n rows => exact absurd hk (hj n rows)
 ·cases h
theorem Qxh {v : AV} {k : AV → KS → Option β} {l} (h : QqX K v k l = some r) : Qr8 K v (fun v K => k v K = some r) () := by
 unfold QqX at h
 unfold Qr8
 split at h
 ·obtain ⟨hm, h⟩ := VD h
  exact JZ hm h
 ·rename_i hn
  obtain ⟨hm, h⟩ := VD h
  cases v with
  | agg cs => exact absurd rfl (hn cs)
  | _ => exact JZ hm h
theorem QsC {z : Option (List AV)} {k : AV → KS → Option β} {l} (h : Qk0 K z k l = some r) : Qid K z (fun v K => k v K = some r) () := by
 unfold Qk0 at h
 unfold Qid
 split at h
 ·exact h
 ·cases h
theorem Qsy {t : TB} {parts : List (Nat × AV)} {k : AV → Option β} {l} (h : Qh7 K t parts k l = some r) : QeN K t parts (fun v => k v = some r) () := by
 unfold Qh7 at h
 unfold QeN
 split at h
 ·split at h
  ·rename_i cs hc; simp only [hc]; exact h
  ·cases h
 ·split at h
  ·rename_i cs hc; simp only [hc]; exact h
  ·cases h
 ·cases h
theorem Qqx {t : Option (TypeId × Nat × List AV)} {len : Nat} {parts : List (Nat × AV)} {k : AV → KS → Option β} {l} {fl : Bool} {ns : List Nat} (h : Qft fl ns K t len parts k l = some r) : (fl = true → Qos K t len parts = true) ∧ QaZ ns K t len parts (fun v K => k v K = some r) () := by
 unfold Qft at h
 unfold QaZ Qos
 cases t with
 | none => cases h
 | some q =>
  obtain ⟨e, m, z⟩ := q
  simp only at h ⊢
  by_cases h0 : len = 0
  ·rw [if_pos h0] at h ⊢
   subst h0
   cases parts with
   | nil => exact ⟨fun _ => by simp [ZP, QcB, noS], h⟩
   | cons _ _ => cases h
  ·rw [if_neg h0] at h ⊢
   obtain ⟨hm, h⟩ := VD h
   rw [if_pos hm]
   cases hx : ZP K (fun i => some (i * m, m)) (QcB len z) parts with
   | none => rw [hx] at h; cases h
   | some cs =>
    rw [hx] at h
    simp only at h ⊢
    cases hf : yB fl cs with
    | false => rw [hf] at h; cases h
    | true =>
     rw [hf] at h
     simp only [cond_true] at h
     refine ⟨fun hfl => ?_, ?_⟩
     ·rw [hfl] at hf; exact hf
     ·cases ha : Vb K cs with
      | none => rw [ha] at h; cases h
      | some q =>
       obtain ⟨K1, ds⟩ := q
       rw [ha] at h
       exact h
theorem Qwk {v : AV} {i : Nat} {k : AV → Option β} {l} (h : Qvd v i k l = some r) : QpJ v i (fun v => k v = some r) () := by
 unfold Qvd at h
 unfold QpJ
 split at h
 ·split at h
  ·rename_i c hc; simp only [hc]; exact h
  ·cases h
 ·cases h
theorem Qqd {t : Option (TypeId × Nat × List AV)} {b : Option Nat} {s x : AV} {k : AV → KS → Option β} {l} (h : QjM K t b s x k l = some r) : QcT K t b s x (fun v K => k v K = some r) () := by
 unfold QjM at h
 unfold QcT
 split at h
 ·simp only
  split at h
  ·rename_i rows K1 hs
   simp only [hs]
   split at h
   ·split at h
    ·rename_i n rows hj
     simp only [hj]
     obtain ⟨hm, h⟩ := VD h
     obtain ⟨h1, h2⟩ := Q6 h
     exact JZ hm ⟨by simpa using h1, h2⟩
    ·cases h
   ·obtain ⟨h1, h2⟩ := Q6 h
    exact ⟨by simpa using h1, h2⟩
   ·cases h
  ·cases h
 ·cases h
theorem QvH {x y : AV} {k : AV → Option β} {l} (h : Qvf x y k l = some r) : Qpp x y (fun v => k v = some r) () := by
 unfold Qvf at h
 unfold Qpp
 split at h
 ·exact h
 ·cases h
theorem Qw3 {x y : AV} {k : AV → Option β} {l} (h : Qve x y k l = some r) : QoY x y (fun v => k v = some r) () := by
 unfold Qve at h
 unfold QoY
 split at h
 ·exact h
 ·cases h
theorem Qur {t : TI} {x : AV} {k : AV → Option β} {l} (h : Qpt t x k l = some r) : QiS t x (fun v => k v = some r) () := by
 unfold Qpt at h
 unfold QiS
 split at h
 ·exact h
 ·cases h
theorem Qte {K : KS} {t : TI} {x : AV} {k : AV → Option β} {l} (h : Qot K t x k l = some r) : QhF K t x (fun v => k v = some r) () := by
 unfold Qot at h
 unfold QhF
 split at h
 ·split at h
  ·rename_i h1
   split at h
   ·rename_i h2; simp only [h1, h2]; exact h
   ·cases h
  ·cases h
 ·cases h
theorem QrW {op : BinOp} {x : AV} {k : AV → Option β} {l} (h : Qiz op x k l = some r) : Qfa op x (fun v => k v = some r) () := by
 have key : ∀ {b : Bool} {x y : Option β}, Qjb b x y = some r → (b = true → x = some r) ∧ y = some r := by
  intro b x y h
  unfold Qjb at h
  cases b with
  | false => exact ⟨fun h => (by cases h), h⟩
  | true =>
   simp only [cond_true, oeq] at h
   split at h
   ·rename_i he; exact ⟨fun _ => h, by rw [← he]; exact h⟩
   ·cases h
 unfold Qiz at h
 unfold Qfa
 split at h
 ·exact key h
 ·exact key h
 ·cases h
theorem Qvi {t : Option (TypeId × Nat × List AV)} {b : Option Nat} {x c : AV} {k : AV → KS → Option β} {l} {ns : List Nat} (h : Qrx ns K t b x c k l = some r) : Qmz ns K t b x c (fun v K => k v K = some r) () := by
 unfold Qrx at h
 unfold Qmz
 split at h
 ·simp only
  obtain ⟨h1, h2⟩ := Q6 h
  obtain ⟨h3, h4⟩ := Q6 h2
  rw [if_pos (by simpa using h1)]
  exact ⟨by simpa [mkB] using h3, h4⟩
 ·cases h
def SortP [Wd] (P : Program) (g : FuncId) : Prop := ∀ (K : KS) (j : Nat) (rows : List (List AV)) (xs : List Int), kg K j = some (.lst 1 rows) → Qbo rows = some xs → xs.length < 4611686018427387904 →
 AC P g K [.sl j] (fun x K' => x = .tup [] ∧ K' = K.set j (some (.lst 1 ((QaE xs).map cI))))
def CompP [Wd] (P : Program) (g : FuncId) : Prop := ∀ (K : KS) (j : Nat) (rows : List (List AV)) (xs : List Int), kg K j = some (.lst 1 rows) → Qbo rows = some xs → xs.length < 4611686018427387904 →
 AC P g K [.sl j] (fun x K' => x = .sl K.length ∧ K' = K.set j none ++ [some (.lst 1 ((XY xs).map cI))])
theorem QdG : ∀ {l : List Nat}, ndB l = true → l.Nodup
 | [], _ => by simp
 | x :: l, h => by
  simp only [ndB, Bool.and_eq_true, Bool.not_eq_true'] at h
  rw [List.nodup_cons]
  exact ⟨by simpa using h.1, QdG h.2⟩
def ArP [Wd] (P : Program) (D : Orc) : Prop := ∀ g K args x, D.a g K args = some x → AC P g K args (fun v K' => (v = x.1 ∧ K'.take K.length = x.2) ∧ x.1.flat = true ∧ (∀ e ∈ x.2, Qds e = true) ∧ x.2.length = K.length)
def MrP [Wd] (P : Program) (D : Orc) : Prop := ∀ g K args x, D.m g K args = some x → MC P g K args (· = x)
def Qe4 [Wd] (P : Program) (D : Orc) : Prop := (∀ g args x, D.p g args = some x → PC P g args (· = x)) ∧ (∀ g, D.s g = true → SortP P g) ∧ (∀ g, D.q g = true → CompP P g) ∧ ArP P D ∧ MrP P D
theorem QjK : ∀ {K : KS}, Qje K = true → ∀ e ∈ K, Qds e = true
 | [], _, e, he => by cases he
 | some (.lst n rows) :: K, h, e, he => by
  rcases List.mem_cons.1 he with rfl | he
  ·rfl
  ·exact QjK (K := K) h e he
 | none :: K, h, e, he => by cases h
 | some (.box cs) :: K, h, e, he => by cases h
theorem QwH {s : Operand} (hs : QaH s = true) (f : Fr) : QdO (ev f s) = false := by
 cases s with
 | const v =>
  cases v <;> first | (cases hs; done) | skip
  rename_i a l c
  cases a <;> cases l <;> cases c <;> first | rfl | cases hs
 | _ => cases hs
theorem Qkv [Wd] {P : Program} {D : Orc} (hD : Qe4 P D) {o : Op} {f : Fr} {k : AV → KS → Option β} {l} (h : oop P D o f K k l = some r) : Qa7 P o f K (fun v K => k v K = some r) () := by
 unfold oop at h
 unfold Qa7
 split at h
 case h_21 x args _ =>
  simp only
  unfold Qp6 at h
  unfold Qnu
  split at h
  ·rename_i g caps hg
   unfold Qeq Xi at h
   obtain ⟨x, hx, h⟩ := Option.bind_eq_some_iff.1 h
   simp only [hg]
   exact ⟨_, (hD.1 _ _ _ hx).fix, fun y hy => by rw [hy]; exact h⟩
  ·cases h
 all_goals (simp only; unfold xop; simp only)
 case h_1 => exact h
 case h_2 => exact h
 case h_3 => exact Qt5 h
 case h_4 => exact QsC h
 case h_5 => exact Qxh h
 case h_6 => exact Qsy h
 case h_7 => exact Qqx h
 case h_8 => exact Qo6 h
 case h_9 => exact Qqr h
 case h_10 =>
  split at h
  ·rename_i hn
   obtain ⟨hm, h⟩ := VD h
   rw [if_pos hn]
   exact JZ hm (QrW h)
  ·rename_i hn
   rw [if_neg hn]
   exact QwU h
 case h_11 => exact QyU h
 case h_12 =>
  split at h
  ·rename_i hb; rw [if_pos hb]; exact Qte h
  ·rename_i hb
   obtain ⟨hm, h⟩ := VD h
   rw [if_neg hb]
   exact JZ hm (Qur h)
 case h_13 =>
  obtain ⟨hm, h⟩ := VD h
  exact JZ hm (h)
 case h_14 => exact Qwu h
 case h_15 => exact QwL h
 case h_16 => exact Qwk h
 case h_17 =>
  split at h
  ·rename_i h1 h2; simp only [h1, h2]; exact Qwi h
  ·cases h
 case h_18 =>
  split at h
  ·rename_i h1 h2
   obtain ⟨⟨hm, hn⟩, h⟩ := VD h
   simp only [h1, h2]
   refine ⟨fun hc => ?_, JZ hm (Qqd h)⟩
   rename_i s x _ _ _ _
   have hs : QaH s = true := hc
   rw [hs] at hn
   have hs2 : QdO (ev f s) = false := QwH hs f
   have hx2 : QdO (ev f x) = false := hn
   simp [hs2, hx2]
  ·cases h
 case h_19 =>
  split at h
  ·rename_i h1; simp only [h1]; exact QvH h
  ·cases h
 case h_20 =>
  split at h
  ·rename_i h1; simp only [h1]; exact Qw3 h
  ·cases h
 case h_22 => exact Qvi h
 case h_23 => exact Qv4 h
 case h_24 => exact Qw1 h
 case h_25 => cases h
theorem Qrk [Wd] {P : Program} {D : Orc} (hD : Qe4 P D) {o : Op} {f : Fr} {K : KS} {k : AV → KS → Option β} {k' : AV → KS → Prop} {l} (h : Qcc P D o f K k l = some r) (hk : ∀ v K, k v K = some r → k' v K) : xop P o f K k' () := by
 unfold Qcc at h
 split at h
 ·rename_i x args ts _
  show Qnu (ev f x) (fun g caps => Qi0 P g K (args.toList.map (ev f) ++ caps) k' ()) ()
  unfold Qp6 at h
  unfold Qnu
  split at h
  ·rename_i g caps hg
   simp only [hg]
   simp only at h
   cases hs : D.s g with
   | false =>
    rw [hs] at h
    have h : cond (D.q g) (Qk5 K (args.toList.map (ev f) ++ caps) k ()) (cond (D.w g) (Qih D g K (args.toList.map (ev f) ++ caps) k ()) (cond (D.v g) (Qga D g K (args.toList.map (ev f) ++ caps) k ()) (Qeq D g K (args.toList.map (ev f) ++ caps) k ()))) = some r := h
    cases hq : D.q g with
    | false =>
     rw [hq] at h
     have h : cond (D.w g) (Qih D g K (args.toList.map (ev f) ++ caps) k ()) (cond (D.v g) (Qga D g K (args.toList.map (ev f) ++ caps) k ()) (Qeq D g K (args.toList.map (ev f) ++ caps) k ())) = some r := h
     cases hw : D.w g with
     | false =>
      rw [hw] at h
      have h : cond (D.v g) (Qga D g K (args.toList.map (ev f) ++ caps) k ()) (Qeq D g K (args.toList.map (ev f) ++ caps) k ()) = some r := h
      cases hv : D.v g with
      | false =>
       rw [hv] at h
       have h' : Qeq D g K (args.toList.map (ev f) ++ caps) k () = some r := h
       unfold Qeq Xi at h'
       obtain ⟨x, hx, h'⟩ := Option.bind_eq_some_iff.1 h'
       exact .inl ⟨_, (hD.1 _ _ _ hx).fix, fun y hy => by rw [hy]; exact hk _ _ h'⟩
      | true =>
       rw [hv] at h
       have h' : Qga D g K (args.toList.map (ev f) ++ caps) k () = some r := h
       unfold Qga QjS at h'
       obtain ⟨h1, h2⟩ := Q6 h'
       unfold QjI at h2
       split at h2
       ·rename_i cs hcs
        obtain ⟨h3, h4⟩ := Q6 h2
        unfold Xi at h4
        obtain ⟨x, hx, h5⟩ := Option.bind_eq_some_iff.1 h4
        have hls : ∀ j ∈ Qdh (args.toList.map (ev f) ++ caps), Qds (kg K j) = true := fun j hj => QjK h3 _ (by unfold Ji; exact List.mem_map_of_mem hj)
        exact .inr ⟨_, MC.sub (QdG h1) hls (hD.2.2.2.2 _ _ _ _ hx) hcs, fun v K' ⟨hv, hK⟩ => by rw [hv, hK]; exact hk _ _ h5⟩
       ·cases h2
     | true =>
      rw [hw] at h
      have h' : Qih D g K (args.toList.map (ev f) ++ caps) k () = some r := h
      unfold Qih QjQ at h'
      obtain ⟨h1, h2⟩ := Q6 h'
      unfold QjT at h2
      split at h2
      ·rename_i cs hcs
       obtain ⟨h3, h4⟩ := Q6 h2
       unfold Xi at h4
       obtain ⟨x, hx, h5⟩ := Option.bind_eq_some_iff.1 h4
       have x4 := hD.2.2.2.1 _ _ _ _ hx
       have hlen : (Ji K (Qdh (args.toList.map (ev f) ++ caps))).length = (Qdh (args.toList.map (ev f) ++ caps)).length := by simp [Ji]
       rw [hlen] at x4
       have hls : ∀ j ∈ Qdh (args.toList.map (ev f) ++ caps), Qds (kg K j) = true := fun j hj => QjK h3 _ (by unfold Ji; exact List.mem_map_of_mem hj)
       exact .inr ⟨_, AC.sub (QdG h1) hls x4 hcs, fun v K' ⟨hv, hK⟩ => by rw [hv, hK]; exact hk _ _ h5⟩
      ·cases h2
    | true =>
     rw [hq] at h
     have h' : Qk5 K (args.toList.map (ev f) ++ caps) k () = some r := h
     unfold Qk5 at h'
     split at h'
     ·rename_i j hv
      rw [hv]
      split at h'
      ·rename_i rows hj
       split at h'
       ·rename_i xs hxs
        obtain ⟨h1, h2⟩ := Q6 h'
        exact .inr ⟨_, hD.2.2.1 g hq K j rows xs hj hxs (by simpa using h1), fun x K' ⟨hx, hK⟩ => by rw [hx, hK]; exact hk _ _ h2⟩
       ·cases h'
      ·cases h'
     ·cases h'
   | true =>
    rw [hs] at h
    have h' : QmV K (args.toList.map (ev f) ++ caps) k () = some r := h
    unfold QmV at h'
    split at h'
    ·rename_i j hv
     rw [hv]
     split at h'
     ·rename_i rows hj
      split at h'
      ·rename_i xs hxs
       obtain ⟨h1, h2⟩ := Q6 h'
       exact .inr ⟨_, hD.2.1 g hs K j rows xs hj hxs (by simpa using h1), fun x K' ⟨hx, hK⟩ => by rw [hx, hK]; exact hk _ _ h2⟩
      ·cases h'
     ·cases h'
    ·cases h'
  ·cases h
 ·exact QdR (J9 (Qkv hD h) hk)
theorem QeO [Wd] {P : Program} {D : Orc} (hD : Qe4 P D) {ops : Array Oper} : ∀ (l : List Oper) {f : Fr} {K : KS} {k : Fr → KS → Option β}, Qel P D ops l f K k () = some r → Qf3 P ops l f K (fun f K => k f K = some r) ()
 | [], f, K, k, h => h
 | o :: l, f, K, k, h => by
  unfold Qel at h
  unfold Qf3
  split at h
  ·rename_i hg
   simp only [hg]
   refine Qrk hD h fun v K' h => ?_
   unfold QdQ at h
   unfold Qa9
   split at h
   ·rename_i d hd; simp only [hd]; exact QeO hD l h
   ·rename_i hd; simp only [hd]; exact QeO hD l h
  ·cases h
theorem Qry {α : Type} : ∀ {l : List α} {o : Nat} {c : α} {cs : List α}, l.drop o = c :: cs → l[o]? = some c
 | [], o, c, cs, h => by simp at h
 | x :: l, 0, c, cs, h => by simp at h; simp [h.1]
 | x :: l, o + 1, c, cs, h => by simp at h; simpa using Qry h
theorem QAY [Wd] {P : Program} {D : Orc} (hD : Qe4 P D) {f : Fr} {K : KS} {p x : AV} {g : FuncId} {k : AV → KS → Option β} {l} (h : onp D f K p x g k l = some r) :
  ∃ j i o q m m' rows rs rs' rv, p = .ptr j i o ∧ kg K j = some (.lst q rows) ∧ (QF rows i)[o]? = some (.own m rs) ∧ x.scal = true ∧
   AC P g [some (.lst m rs)] [.sl 0, x] (fun v K' => (v = rv ∧ K'.take 1 = [some (.lst m' rs')]) ∧ rv.flat = true) ∧ k rv (QmM K j i o q m' rows rs') = some r := by
 unfold onp at h
 split at h
 ·rename_i j i o
  unfold onj at h
  split at h
  ·rename_i q rows hj
   unfold onx at h
   split at h
   ·rename_i m rs cs hcs
    obtain ⟨h1, h2⟩ := Q6 h
    unfold Xi at h2
    obtain ⟨y, hy, h3⟩ := Option.bind_eq_some_iff.1 h2
    unfold onr at h3
    split at h3
    ·rename_i m' rs' hy2
     obtain ⟨h4, h5⟩ := Q6 h3
     have y4 := hD.2.2.2.1 _ _ _ _ hy
     rw [hy2] at y4
     exact ⟨j, i, o, q, m, m', rows, rs, rs', y.1, rfl, hj, Qry hcs, h1, y4.mono fun v K' ⟨z1, z2, _⟩ => ⟨z1, z2⟩, h5⟩
    ·cases h3
   ·cases h
  ·cases h
 ·cases h
theorem Qkp [Wd] {P : Program} {D : Orc} (hD : Qe4 P D) {ops : Array Oper} : ∀ (us : List Nat) (l : List Oper) {f : Fr} {K : KS} {k : Fr → KS → Option β}, Qf9 P D ops us l f K k () = some r → Qf5 P ops us l f K (fun f K => k f K = some r)
 | _ :: us, o :: l, f, K, k, h => by
  unfold Qf9 at h
  unfold Qf5
  split at h
  ·rename_i hg
   refine ⟨hg, QdR (J9 (Qkv hD h) fun v K' h => ?_)⟩
   unfold QdQ at h
   unfold Qa9
   split at h
   ·rename_i d hd; simp only [hd]; exact Qkp hD us l h
   ·rename_i hd; simp only [hd]; exact Qkp hD us l h
  ·cases h
 | _ :: _, [], f, K, k, h => by unfold Qf9 at h; cases h
 | [], l, f, K, k, h => by
  unfold Qf9 at h
  split at h
  ·rename_i he; cases he
  ·rename_i _ _ d t p _ _ _ e x _ _ _ dst g args ts _ _ _ l' _
   split at h
   ·rename_i d' e' hargs
    obtain ⟨h1, h2⟩ := Q6 h
    simp only [Bool.and_eq_true, Bool.not_eq_true'] at h1
    obtain ⟨ht, hd', he', hde⟩ := h1
    obtain ⟨j, i, o, q, m, m', rows, rs, rs', rv, q1, q2, q3, q4, q6, q7⟩ := QAY hD h2
    have e1 : d = d' := Nat.eq_of_beq_eq_true hd'
    have e2 : e = e' := Nat.eq_of_beq_eq_true he'
    subst e1 e2
    have ea : args = #[.tmp d, .tmp e] := Array.toList_inj.1 hargs
    subst ea
    unfold Qf5
    refine ⟨d, e, t, p, x, g, ts, j, i, o, q, m, m', rows, rs, rs', rv, ⟨rfl, rfl, rfl⟩, ⟨rfl, rfl, rfl⟩, ⟨rfl, rfl⟩, (fun hh => by subst hh; rw [Nat.beq_refl] at hde; cases hde), ?_, q1, q2, q3, q4, q6, ?_⟩
    ·revert ht
     cases tk P t <;> intro ht <;> first | rfl | cases ht
    ·unfold QdQ at q7
     unfold Qa9
     split at q7
     ·exact QeO hD _ q7
     ·exact QeO hD _ q7
   ·cases h
  ·cases h
theorem Qhk [Wd] {P : Program} {D : Orc} (hD : Qe4 P D) {ops : Array Oper} : ∀ (l : List Oper) {f : Fr} {K : KS} {k : Fr → KS → Option β}, Qca P D ops l f K k () = some r → Qd0 P ops l f K (fun f K => k f K = some r)
 | [], f, K, k, h => h
 | o :: l, f, K, k, h => by
  unfold Qca at h
  unfold Qd0
  refine JK.2 ?_
  have yes : ∀ {f}, oop P D o.op f K (fun v K' => QdQ o.dst v f (fun f => Qca P D ops l f K' k ()) ()) () = some r → Qa7 P o.op f K (fun v K' => Qd0 P ops l (XO f o.dst v) K' (fun f K => k f K = some r)) () := fun {f} h =>
   J9 (Qkv hD h) fun v K' h => Qhk hD l (by
    unfold QdQ at h
    unfold XO
    cases hd : o.dst with
    | none => simp only [hd] at h; exact h
    | some d => simp only [hd] at h; exact h)
  have no : ∀ {f}, QdQ o.dst (.tup []) f (fun f => Qca P D ops l f K k ()) () = some r → Qd0 P ops l (XO f o.dst (.tup [])) K (fun f K => k f K = some r) := fun {f} h => Qhk hD l (by
    unfold QdQ at h
    unfold XO
    cases hd : o.dst with
    | none => simp only [hd] at h; exact h
    | some d => simp only [hd] at h; exact h)
  unfold gd
  split at h
  ·rename_i hg; simp only [hg]; exact yes h
  ·rename_i j want hg
   simp only [hg]
   unfold ogd at h
   split at h
   ·rename_i d hj
    simp only [hj]
    split at h
    ·rename_i b hb
     simp only [hb]
     have e1 : up f d (.b b) = f := Qnn f d _ hb
     cases b <;> cases want <;> simp at h ⊢ <;> rw [e1] at h
     ·exact yes h
     ·exact no h
     ·exact no h
     ·exact yes h
    ·rename_i hb
     simp only [hb]
     exact no h
    ·cases h
   ·cases h
theorem QvY [Wd] {vs : List Nat} {P : Program} {D : Orc} (hD : Qe4 P D) {o : Op} {f : Fr} {K : KS} {k : AV → KS → Option β} {k' : AV → KS → Prop} {l} (h : Qjn vs P D o f K k l = some r) (hk : ∀ v K, k v K = some r → k' v K) : Qhn vs P o f K k' := by
 have key : (∃ g args ts, o = .call ⟨.value (.func g), args, ts⟩) ∨ (vOp vs o = false ∧ Qjn vs P D o f K k l = oop P D o f K k ()) := by
  cases o with
  | call c =>
   obtain ⟨cal, args, ts⟩ := c
   cases cal with
   | value x =>
    cases x with
    | func g => exact .inl ⟨g, args, ts, rfl⟩
    | _ => exact .inr ⟨rfl, rfl⟩
   | _ => exact .inr ⟨rfl, rfl⟩
  | _ => exact .inr ⟨rfl, rfl⟩
 unfold Qhn
 rcases key with ⟨g, args, ts, rfl⟩ | ⟨hv, he⟩
 ·have h : cond (vs.contains g) (Qcc P D (.call ⟨.value (.func g), args, ts⟩) f K k ()) (oop P D (.call ⟨.value (.func g), args, ts⟩) f K k ()) = some r := h
  have hv : vOp vs (.call ⟨.value (.func g), args, ts⟩) = vs.contains g := rfl
  rw [hv]
  cases hc : vs.contains g with
  | true =>
   rw [hc] at h
   rw [if_pos rfl]
   exact Qrk (l := ()) hD h hk
  | false =>
   rw [hc] at h
   rw [if_neg (by simp)]
   exact J9 (Qkv (l := ()) hD h) hk
 ·rw [he] at h
  rw [hv, if_neg (by simp)]
  exact J9 (Qkv (l := ()) hD h) hk
theorem QeS [Wd] {vs : List Nat} {P : Program} {D : Orc} (hD : Qe4 P D) {ops : Array Oper} : ∀ (l : List Oper) {f : Fr} {K : KS} {k : Fr → KS → Option β}, JU vs P D ops l f K k () = some r → Qg6 vs P ops l f K (fun f K => k f K = some r)
 | [], f, K, k, h => h
 | o :: l, f, K, k, h => by
  unfold JU at h
  unfold Qg6 Qb6
  have yes : ∀ {f}, Qjn vs P D o.op f K (fun v K' => QdQ o.dst v f (fun f => JU vs P D ops l f K' k ()) ()) () = some r → Qhn vs P o.op f K (fun v K' => Qg6 vs P ops l (XO f o.dst v) K' (fun f K => k f K = some r)) := fun {f} h =>
   QvY hD h fun v K' h => QeS hD l (by
    unfold QdQ at h
    unfold XO
    cases hd : o.dst with
    | none => simp only [hd] at h; exact h
    | some d => simp only [hd] at h; exact h)
  have no : ∀ {f}, QdQ o.dst (.tup []) f (fun f => JU vs P D ops l f K k ()) () = some r → Qg6 vs P ops l (XO f o.dst (.tup [])) K (fun f K => k f K = some r) := fun {f} h => QeS hD l (by
    unfold QdQ at h
    unfold XO
    cases hd : o.dst with
    | none => simp only [hd] at h; exact h
    | some d => simp only [hd] at h; exact h)
  unfold gd
  split at h
  ·rename_i hg; simp only [hg]; exact yes h
  ·rename_i j want hg
   simp only [hg]
   unfold ogd at h
   split at h
   ·rename_i d hj
    simp only [hj]
    split at h
    ·rename_i b hb
     simp only [hb]
     have e1 : up f d (.b b) = f := Qnn f d _ hb
     cases b <;> cases want <;> simp at h ⊢ <;> rw [e1] at h
     ·exact yes h
     ·exact no h
     ·exact no h
     ·exact yes h
    ·rename_i hb
     simp only [hb]
     exact no h
    ·cases h
   ·cases h
theorem Qn9 [Wd] {P : Program} {ops : Array Oper} : ∀ (l : List Oper) {f : Fr} {K : KS} {k : Fr → KS → Prop}, Qd0 P ops l f K k → Qf3 P ops l f K k ()
 | [], f, K, k, h => h
 | o :: l, f, K, k, h => by
  unfold Qd0 Qbm at h
  unfold Qf3
  have st : ∀ {f : Fr} {K : KS} {d : Option Tmp} {v : AV}, Qa9 d v f (fun f => Qd0 P ops l f K k) () → Qa9 d v f (fun f => Qf3 P ops l f K k ()) () := fun {f K d v} h => by
   rw [Qhy] at h ⊢; exact Qn9 l h
  have yes : ∀ {f}, Qa7 P o.op f K (fun v K' => Qa9 o.dst v f (fun f => Qd0 P ops l f K' k) ()) () → xop P o.op f K (fun v K' => Qa9 o.dst v f (fun f => Qf3 P ops l f K' k ()) ()) () := fun {f} h =>
   QdR (J9 h fun v K' h => st h)
  split at h
  ·rename_i hg; try simp only [hg]
   exact yes h
  ·rename_i j want hg
   try simp only [hg]
   unfold xgd at h ⊢
   split at h
   ·rename_i d hj
    try simp only [hj]
    split at h
    ·rename_i b hb
     unfold XBr at h ⊢
     refine ⟨fun hx => ?_, fun hx => ?_⟩
     ·have := h.1 hx
      cases want
      ·exact st this
      ·exact yes this
     ·have := h.2 hx
      cases want
      ·exact yes this
      ·exact st this
    ·rename_i hb
     exact st h
    ·exact h.elim
   ·exact h.elim
end
end Go.Proofs.YtcdffihcfeajfaaGreat.Am
