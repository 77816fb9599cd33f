import Derived.Test.YtponohekgnklkaaGreatEvA
namespace Go.Proofs.YtponohekgnklkaaGreat.Am
open Go
set_option linter.unusedVariables false
set_option linter.unusedSimpArgs false
section
variable {β : Type} {r : β}
theorem Vu {b : Bool} {q : Option β} {l} (h : Vo b q l = some r) : b = true ∧ q = some r := by
 cases b with
 | false => cases h
 | true => exact ⟨rfl, h⟩
theorem Qvp {b : Bool} {p q : Option β} (h : cond b p q = some r) : (b = true → p = some r) ∧ (b = false → q = some r) := by
 cases b with
 | false => exact ⟨fun h' => by (cases h'), fun _ => h⟩
 | true => exact ⟨fun _ => h, fun h' => by cases h'⟩
theorem XG {p : Prop} [Decidable p] {q : Option β} (h : (if p then q else none) = some r) : p ∧ q = some r := by
 by_cases hp : p
 ·rw [if_pos hp] at h; exact ⟨hp, h⟩
 ·rw [if_neg hp] at h; cases h
theorem Qad {p : Prop} [Decidable p] {q : Prop} (hp : p) (hq : q) : (if p then q else False) := by rw [if_pos hp]; exact hq
theorem QCT (a b : Int) : (a == b) = decide (a = b) := by by_cases h : a = b <;> simp [h]
theorem QBm (a b : Int) : (a != b) = !decide (a = b) := by by_cases h : a = b <;> simp [h]
theorem Qz7 (a b : List UInt8) : (a == b) = decide (a = b) := by by_cases h : a = b <;> simp [h]
theorem Qz9 (a b : List UInt8) : (a != b) = !decide (a = b) := by by_cases h : a = b <;> simp [h]
theorem Qtu {te : Option (List CK)} {xs ys : List AV} {k : Bool → Option β} {l} (h : QB5 te xs ys k l = some r) : Qpc te xs ys (fun v => k v = some r) () := by
 unfold QB5 at h
 unfold Qpc
 split at h
 ·split at h
  ·rename_i hb; simp only [hb]; exact h
  ·cases h
 ·cases h
theorem QA2 {t : TI} {x : AV} {lo hi : Option AV} {k : AV → Option β} {l} (h : Qhp t x lo hi k l = some r) : QqK t x lo hi (fun v => k v = some r) () := by
 unfold Qhp at h
 unfold QqK
 split at h
 ·obtain ⟨hm, h⟩ := XG h
  simp only
  rw [if_pos hm]
  split at h
  ·rename_i h1 h2
   simp only [h1, h2]
   obtain ⟨h3, h4⟩ := Vu h
   exact ⟨by simpa [slB] using h3, h4⟩
  ·cases h
 ·simp only
  split at h
  ·rename_i h1 h2
   simp only [h1, h2]
   obtain ⟨h3, h4⟩ := Vu h
   exact ⟨by simpa [slB] using h3, h4⟩
  ·cases h
 ·cases h
theorem QBX {t : TI} {x i : AV} {k : AV → Option β} {l} (h : Qzs t x i k l = some r) : QqH t x i (fun v => k v = some r) () := by
 unfold Qzs at h
 unfold QqH
 split at h
 ·obtain ⟨h3, h4⟩ := Vu h
  exact ⟨QbQ.1 h3, h4⟩
 ·cases h
theorem QBk {te : Option (List CK)} {op : BinOp} {x y : AV} {k : AV → Option β} {l} (h : JV te op x y k l = some r) : Qrs te op x y (fun v => k v = some r) () := by
 unfold JV at h
 unfold Qrs
 split at h
 ·simp only
  split at h
  ·exact Qtu h
  ·exact Qtu h
  ·cases h
 ·simp only
  split at h
  ·exact h
  ·exact h
  ·cases h
 ·simp only
  split at h
  ·rename_i hs
   rw [if_pos hs]
   obtain ⟨h1, h2⟩ := Vu h
   exact ⟨by simpa using h1, h2⟩
  rename_i hs
  rw [if_neg hs]
  obtain ⟨hc, h⟩ := XG h
  rw [if_pos hc]
  split at h <;> simp only <;> first
   | exact h
   | (rw [QCT]; exact h)
   | (rw [QBm]; exact h)
   | (obtain ⟨h1, h2⟩ := Vu h; exact ⟨by simpa using h1, h2⟩)
   | cases h
 ·simp only
  split at h <;> simp only <;> first
   | (rw [Qz7]; exact h)
   | (rw [Qz9]; exact h)
   | (obtain ⟨h1, h2⟩ := Vu h; exact ⟨by simpa using h1, h2⟩)
   | cases h
 ·cases h
theorem QHz {op : UnOp} {x : AV} {k : AV → Option β} {l} (h : oun op x k l = some r) : xun op x (fun v => k v = some r) () := by
 unfold oun at h
 unfold xun
 split at h
 ·exact h
 ·exact h
 ·cases h
theorem Qxm {c x y : AV} {k : AV → Option β} {l} (h : Qm9 c x y k l = some r) : Qla c x y (fun v => k v = some r) () := by
 unfold Qm9 at h
 unfold Qla
 split at h
 ·rename_i b
  cases b with
  | true => exact h
  | false => exact h
 ·cases h
variable {K : KS}
theorem QBw {t : TI} {x : AV} {k : AV → Option β} {l} (h : QrT K t x k l = some r) : Qrx K t x (fun v => k v = some r) () := by
 unfold QrT at h
 unfold Qrx
 split at h
 ·exact h
 ·exact h
 ·split at h
  ·rename_i e he; simp only [he]; exact h
  ·cases h
 ·exact h
 ·exact h
 ·cases h
theorem QCO {x : AV} {o : Option (Nat × TK)} {k : AV → Option β} {l} (h : QvY K x o k l = some r) : Qqo K x o (fun v => k v = some r) () := by
 unfold QvY at h
 unfold Qqo
 split at h
 ·split at h
  ·rename_i e he; simp only [he]; exact h
  ·cases h
 ·exact h
 ·cases h
theorem QBy {t : TI} {x i : AV} {k : AV → Option β} {l} (h : Qql K t x i k l = some r) : Qrc K t x i (fun v => k v = some r) () := by
 unfold Qql at h
 unfold Qrc
 split at h
 ·obtain ⟨hm, h⟩ := XG h
  obtain ⟨h1, h2⟩ := Vu h
  exact Qad hm ⟨QbQ.1 h1, h2⟩
 ·split at h
  ·rename_i e he
   obtain ⟨hm, h⟩ := XG h
   simp only [he]
   obtain ⟨h1, h2⟩ := Vu h
   exact Qad hm ⟨QbQ.1 h1, h2⟩
  ·cases h
 ·split at h
  ·rename_i e he
   simp only [he]
   obtain ⟨h1, h2⟩ := Vu h
   exact ⟨by simpa [Qsk] using h1, h2⟩
  ·cases h
 ·cases h
theorem Qmt {t : TK} {cs : List AV} {k : AV → Option β} {l} (h : Qgc t cs k l = some r) : Qfq t cs (fun v => k v = some r) () := by
 unfold Qgc at h
 unfold Qfq
 split at h
 ·split at h
  ·exact h
  ·cases h
 ·obtain ⟨hm, h⟩ := XG h
  exact Qad hm (h)
 ·cases h
theorem Qud {cs : List AV} {o : Nat} {t : TK} {v : AV} {ok : AV → Bool} {k : List AV → Option β} {l} (h : QhE cs o t v ok k l = some r) : Qpa cs o t v ok (fun v => k v = some r) () := by
 unfold QhE at h
 unfold Qpa
 split at h
 ·obtain ⟨hm, h⟩ := XG h
  exact Qad hm (h)
 ·obtain ⟨hm, h⟩ := XG h
  exact Qad hm (h)
 ·cases h
theorem QkS {t : TK} {p v : AV} {k : KS → Option β} {l} (h : Qkc K t p v k l = some r) : QfE K t p v (fun K => k K = some r) () := by
 unfold Qkc at h
 unfold QfE
 split at h
 ·split at h
  ·rename_i cs hj
   simp only [hj]
   obtain ⟨hm, h⟩ := XG h
   exact Qad hm (Qud h)
  ·rename_i n rows hj
   simp only [hj]
   obtain ⟨hm, h⟩ := XG h
   exact Qad hm (Qud h)
  ·cases h
 ·cases h
theorem Qsd {t : TK} {j i o n : Nat} {rows : List (List AV)} {v : AV} {k : KS → Option β} {l} {ns : List Nat} (h : QjN ns K t j i o n rows v k l = some r) : QeS ns K t j i o n rows v (fun K => k K = some r) () := by
 unfold QjN at h
 unfold QeS
 obtain ⟨hm, h⟩ := XG h
 rw [if_pos hm]
 split at h
 ·rename_i K1 ds hab
  obtain ⟨hc, h⟩ := XG h
  simp only [hab]
  exact Qad hc h
 ·cases h
theorem QrX {fl : Bool} {t : TK} {p v : AV} {k : KS → Option β} {l} {ns : List Nat} (h : QjS fl ns K t p v k l = some r) : Qab fl ns K t p v (fun K => k K = some r) () := by
 unfold QjS at h
 unfold Qab
 split at h
 ·split at h
  ·rename_i n rows hj
   simp only [hj]
   split at h
   ·rename_i hc; rw [if_pos hc]; exact QkS h
   ·rename_i hc
    rw [if_neg hc]
    obtain ⟨hf, h⟩ := XG h
    exact Qad hf (Qsd h)
  ·rename_i hj
   cases hk : kg K _ with
   | none => simp only [hk]; exact QkS h
   | some e =>
    cases e with
    | box cs => simp only [hk]; exact QkS h
    | lst n rows => exact absurd hk (hj n rows)
 ·cases h
theorem QAi {v : AV} {k : AV → KS → Option β} {l} (h : Qr0 K v k l = some r) : Qv4 K v (fun v K => k v K = some r) () := by
 unfold Qr0 at h
 unfold Qv4
 split at h
 ·obtain ⟨hm, h⟩ := XG h
  exact Qad hm h
 ·rename_i hn
  obtain ⟨hm, h⟩ := XG h
  cases v with
  | agg cs => exact absurd rfl (hn cs)
  | _ => exact Qad hm h
theorem Qv6 {z : Option (List AV)} {k : AV → KS → Option β} {l} (h : QmV K z k l = some r) : Qkp K z (fun v K => k v K = some r) () := by
 unfold QmV at h
 unfold Qkp
 split at h
 ·exact h
 ·cases h
theorem QvP {t : TB} {parts : List (Nat × AV)} {k : AV → Option β} {l} (h : Qks K t parts k l = some r) : Qgy K t parts (fun v => k v = some r) () := by
 unfold Qks at h
 unfold Qgy
 split at h
 ·split at h
  ·rename_i cs hc; simp only [hc]; exact h
  ·cases h
 ·split at h
  ·rename_i cs hc; simp only [hc]; exact h
  ·cases h
 ·cases h
theorem QsM {t : Option (TypeId × Nat × List AV)} {len : Nat} {parts : List (Nat × AV)} {k : AV → KS → Option β} {l} {fl : Bool} {ns : List Nat} (h : Qhn fl ns K t len parts k l = some r) : (fl = true → QrV K t len parts = true) ∧ Qcy ns K t len parts (fun v K => k v K = some r) () := by
 unfold Qhn at h
 unfold Qcy QrV
 cases t with
 | none => cases h
 | some q =>
  obtain ⟨e, m, z⟩ := q
  simp only at h ⊢
  by_cases h0 : len = 0
  ·rw [if_pos h0] at h ⊢
   subst h0
   cases parts with
   | nil => exact ⟨fun _ => by simp [Qa4, QdE, noS], h⟩
   | cons _ _ => cases h
  ·rw [if_neg h0] at h ⊢
   obtain ⟨hm, h⟩ := XG h
   rw [if_pos hm]
   cases hx : Qa4 K (fun i => some (i * m, m)) (QdE len z) parts with
   | none => rw [hx] at h; cases h
   | some cs =>
    rw [hx] at h
    simp only at h ⊢
    cases hf : yB fl cs with
    | false => rw [hf] at h; cases h
    | true =>
     rw [hf] at h
     simp only [cond_true] at h
     refine ⟨fun hfl => ?_, ?_⟩
     ·rw [hfl] at hf; exact hf
     ·cases ha : VF K cs with
      | none => rw [ha] at h; cases h
      | some q =>
       obtain ⟨K1, ds⟩ := q
       rw [ha] at h
       exact h
theorem QBh {v : AV} {i : Nat} {k : AV → Option β} {l} (h : Qym v i k l = some r) : Qq4 v i (fun v => k v = some r) () := by
 unfold Qym at h
 unfold Qq4
 split at h
 ·split at h
  ·rename_i c hc; simp only [hc]; exact h
  ·cases h
 ·cases h
theorem QAk {o : Option (Nat × TK)} {x : AV} {k : AV → Option β} {l} (h : Qxi o x k l = some r) : Qq9 o x (fun v => k v = some r) () := by
 unfold Qxi at h
 unfold Qq9 QrU
 split at h
 ·exact Qmt h
 ·cases h
theorem QsD {t : Option (TypeId × Nat × List AV)} {b : Option Nat} {s x : AV} {k : AV → KS → Option β} {l} (h : QlL K t b s x k l = some r) : Qd6 K t b s x (fun v K => k v K = some r) () := by
 unfold QlL at h
 unfold Qd6
 split at h
 ·simp only
  split at h
  ·rename_i rows K1 hs
   simp only [hs]
   split at h
   ·split at h
    ·rename_i n rows hj
     simp only [hj]
     obtain ⟨hm, h⟩ := XG h
     obtain ⟨h1, h2⟩ := Vu h
     exact Qad hm ⟨by simpa using h1, h2⟩
    ·cases h
   ·obtain ⟨h1, h2⟩ := Vu h
    exact ⟨by simpa using h1, h2⟩
   ·cases h
  ·cases h
 ·cases h
theorem QBG {x y : AV} {k : AV → Option β} {l} (h : Qwv x y k l = some r) : QqM x y (fun v => k v = some r) () := by
 unfold Qwv at h
 unfold QqM
 split at h
 ·exact h
 ·cases h
theorem QC5 {x y : AV} {k : AV → Option β} {l} (h : Qye x y k l = some r) : Qq1 x y (fun v => k v = some r) () := by
 unfold Qye at h
 unfold Qq1
 split at h
 ·exact h
 ·cases h
theorem QwV {t : TI} {x : AV} {k : AV → Option β} {l} (h : QqP t x k l = some r) : Qk1 t x (fun v => k v = some r) () := by
 unfold QqP at h
 unfold Qk1
 split at h
 ·exact h
 ·cases h
theorem QyP {K : KS} {t : TI} {x : AV} {k : AV → Option β} {l} (h : QrG K t x k l = some r) : Qjd K t x (fun v => k v = some r) () := by
 unfold QrG at h
 unfold Qjd
 split at h
 ·split at h
  ·rename_i h1
   split at h
   ·rename_i h2; simp only [h1, h2]; exact h
   ·cases h
  ·cases h
 ·cases h
theorem Qva {op : BinOp} {x : AV} {k : AV → Option β} {l} (h : Qkq op x k l = some r) : Qgt op x (fun v => k v = some r) () := by
 have key : ∀ {b : Bool} {x y : Option β}, Qlp b x y = some r → (b = true → x = some r) ∧ y = some r := by
  intro b x y h
  unfold Qlp at h
  cases b with
  | false => exact ⟨fun h => (by cases h), h⟩
  | true =>
   simp only [cond_true, oeq] at h
   split at h
   ·rename_i he; exact ⟨fun _ => h, by rw [← he]; exact h⟩
   ·cases h
 unfold Qkq at h
 unfold Qgt
 split at h
 ·exact key h
 ·exact key h
 ·cases h
theorem QxE {t : Option (TypeId × Nat × List AV)} {b : Option Nat} {x c : AV} {k : AV → KS → Option β} {l} {ns : List Nat} (h : QtN ns K t b x c k l = some r) : Qoy ns K t b x c (fun v K => k v K = some r) () := by
 unfold QtN at h
 unfold Qoy
 split at h
 ·simp only
  obtain ⟨h1, h2⟩ := Vu h
  obtain ⟨h3, h4⟩ := Vu h2
  rw [if_pos (by simpa using h1)]
  exact ⟨by simpa [mkB] using h3, h4⟩
 ·cases h
def SortP [Wd] (P : Program) (g : FuncId) : Prop := ∀ (K : KS) (j : Nat) (rows : List (List AV)) (xs : List Int), kg K j = some (.lst 1 rows) → Qc2 rows = some xs → xs.length < 4611686018427387904 →
 AC P g K [.sl j] (fun x K' => x = .tup [] ∧ K' = K.set j (some (.lst 1 ((Qcd xs).map cI))))
def CompP [Wd] (P : Program) (g : FuncId) : Prop := ∀ (K : KS) (j : Nat) (rows : List (List AV)) (xs : List Int), kg K j = some (.lst 1 rows) → Qc2 rows = some xs → xs.length < 4611686018427387904 →
 AC P g K [.sl j] (fun x K' => x = .sl K.length ∧ K' = K.set j none ++ [some (.lst 1 ((J0 xs).map cI))])
theorem Qfm : ∀ {l : List Nat}, ndB l = true → l.Nodup
 | [], _ => by simp
 | x :: l, h => by
  simp only [ndB, Bool.and_eq_true, Bool.not_eq_true'] at h
  rw [List.nodup_cons]
  exact ⟨by simpa using h.1, Qfm h.2⟩
def ArP [Wd] (P : Program) (D : Orc) : Prop := ∀ g K args x, D.a g K args = some x → AC P g K args (fun v K' => (v = x.1 ∧ K'.take x.2.length = x.2) ∧ rok x.2.length x.1 = true ∧ (∀ e ∈ x.2, clE e = true) ∧ K.length ≤ x.2.length)
def MrP [Wd] (P : Program) (D : Orc) : Prop := ∀ g K args x, D.m g K args = some x → MC P g K args (· = x)
def QgY [Wd] (P : Program) (D : Orc) : Prop := (∀ g args x, D.p g args = some x → PC P g args (· = x)) ∧ (∀ g, D.s g = true → SortP P g) ∧ (∀ g, D.q g = true → CompP P g) ∧ ArP P D ∧ MrP P D
theorem Qtz : ∀ {K : KS}, QsK K = true → ∀ e ∈ K, QhU e = true
 | [], _, e, he => by cases he
 | some (.lst n rows) :: K, h, e, he => by
  rcases List.mem_cons.1 he with rfl | he
  ·rfl
  ·exact Qtz (K := K) h e he
 | none :: K, h, e, he => by cases h
 | some (.box cs) :: K, h, e, he => by cases h
theorem QjK : ∀ {K : KS}, Qil K = true → ∀ e ∈ K, clE e = true
 | [], _, e, he => by cases he
 | some (.lst n rows) :: K, h, e, he => by
  rcases List.mem_cons.1 he with rfl | he
  ·rfl
  ·exact QjK (K := K) h e he
 | none :: K, h, e, he => by cases h
 | some (.box cs) :: K, h, e, he => by
  simp only [Qil, Bool.and_eq_true] at h
  rcases List.mem_cons.1 he with rfl | he
  ·exact h.1
  ·exact QjK (K := K) h.2 e he
theorem QB9 {s : Operand} (hs : Qcj s = true) (f : Fr) : Qfb (ev f s) = false := by
 cases s with
 | const v =>
  cases v <;> first | (cases hs; done) | skip
  rename_i a l c
  cases a <;> cases l <;> cases c <;> first | rfl | cases hs
 | _ => cases hs
theorem QmG [Wd] {P : Program} {D : Orc} (hD : QgY P D) {o : Op} {f : Fr} {k : AV → KS → Option β} {l} (h : oop P D o f K k l = some r) : QcG P o f K (fun v K => k v K = some r) () := by
 unfold oop at h
 unfold QcG
 split at h
 case h_21 x args _ =>
  simp only
  unfold QsL at h
  unfold Qpm
  split at h
  ·rename_i g caps hg
   unfold Qgd Jp at h
   obtain ⟨x, hx, h⟩ := Option.bind_eq_some_iff.1 h
   simp only [hg]
   exact ⟨_, (hD.1 _ _ _ hx).fix, fun y hy => by rw [hy]; exact h⟩
  ·cases h
 all_goals (simp only; unfold xop; simp only)
 case h_1 => exact h
 case h_2 => exact h
 case h_3 => exact Qxm h
 case h_4 => exact Qv6 h
 case h_5 => exact QAi h
 case h_6 => exact QvP h
 case h_7 => exact QsM h
 case h_8 => exact Qmt h
 case h_9 => exact QrX h
 case h_10 =>
  split at h
  ·rename_i hn
   obtain ⟨hm, h⟩ := XG h
   rw [if_pos hn]
   exact Qad hm (Qva h)
  ·rename_i hn
   rw [if_neg hn]
   exact QBk h
 case h_11 => exact QHz h
 case h_12 =>
  split at h
  ·rename_i hb; rw [if_pos hb]; exact QyP h
  ·rename_i hb
   obtain ⟨hm, h⟩ := XG h
   rw [if_neg hb]
   exact Qad hm (QwV h)
 case h_13 =>
  obtain ⟨hm, h⟩ := XG h
  exact Qad hm (h)
 case h_14 => exact QCO h
 case h_15 => exact QBy h
 case h_16 => exact QBh h
 case h_17 =>
  split at h
  ·rename_i h1 h2; simp only [h1, h2]; exact QBw h
  ·cases h
 case h_18 =>
  split at h
  ·rename_i h1 h2
   obtain ⟨⟨hm, hn⟩, h⟩ := XG h
   simp only [h1, h2]
   refine ⟨fun hc => ?_, Qad hm (QsD h)⟩
   rename_i s x _ _ _ _
   have hs : Qcj s = true := hc
   rw [hs] at hn
   have hs2 : Qfb (ev f s) = false := QB9 hs f
   have hx2 : Qfb (ev f x) = false := hn
   simp [hs2, hx2]
  ·cases h
 case h_19 =>
  split at h
  ·rename_i h1; simp only [h1]; exact QBG h
  ·cases h
 case h_20 =>
  split at h
  ·rename_i h1; simp only [h1]; exact QC5 h
  ·cases h
 case h_22 => exact QxE h
 case h_23 => exact QA2 h
 case h_24 => exact QBX h
 case h_25 =>
  unfold QxW at h
  unfold QCq
  split at h
  ·rename_i hv
   simp only [hv]
   unfold QuG at h
   split at h
   ·rename_i hj; simp only [hj]; exact h
   ·cases h
  ·rename_i hv
   simp only [hv]; exact h
  ·cases h
 case h_26 => exact QAk h
 case h_27 => cases h
theorem QtA [Wd] {P : Program} {D : Orc} (hD : QgY P D) {o : Op} {f : Fr} {K : KS} {k : AV → KS → Option β} {k' : AV → KS → Prop} {l} (h : QcY P D o f K k l = some r) (hk : ∀ v K, k v K = some r → k' v K) : xop P o f K k' () := by
 unfold QcY at h
 split at h
 ·rename_i x args ts _
  show Qpm (ev f x) (fun g caps => Qk4 P g K (args.toList.map (ev f) ++ caps) k' ()) ()
  unfold QsL at h
  unfold Qpm
  split at h
  ·rename_i g caps hg
   simp only [hg]
   simp only at h
   cases hs : D.s g with
   | false =>
    rw [hs] at h
    have h : cond (D.q g) (Ql7 K (args.toList.map (ev f) ++ caps) k ()) (cond (D.w g) (QkO D g K (args.toList.map (ev f) ++ caps) k ()) (cond (D.v g) (Qh1 D g K (args.toList.map (ev f) ++ caps) k ()) (Qgd D g K (args.toList.map (ev f) ++ caps) k ()))) = some r := h
    cases hq : D.q g with
    | false =>
     rw [hq] at h
     have h : cond (D.w g) (QkO D g K (args.toList.map (ev f) ++ caps) k ()) (cond (D.v g) (Qh1 D g K (args.toList.map (ev f) ++ caps) k ()) (Qgd D g K (args.toList.map (ev f) ++ caps) k ())) = some r := h
     cases hw : D.w g with
     | false =>
      rw [hw] at h
      have h : cond (D.v g) (Qh1 D g K (args.toList.map (ev f) ++ caps) k ()) (Qgd D g K (args.toList.map (ev f) ++ caps) k ()) = some r := h
      cases hv : D.v g with
      | false =>
       rw [hv] at h
       have h' : Qgd D g K (args.toList.map (ev f) ++ caps) k () = some r := h
       unfold Qgd Jp at h'
       obtain ⟨x, hx, h'⟩ := Option.bind_eq_some_iff.1 h'
       exact .inl ⟨_, (hD.1 _ _ _ hx).fix, fun y hy => by rw [hy]; exact hk _ _ h'⟩
      | true =>
       rw [hv] at h
       have h' : Qh1 D g K (args.toList.map (ev f) ++ caps) k () = some r := h
       unfold Qh1 QlR at h'
       obtain ⟨h1, h2⟩ := Vu h'
       unfold QlY at h2
       split at h2
       ·rename_i cs hcs
        obtain ⟨h3, h4⟩ := Vu h2
        unfold Jp at h4
        obtain ⟨x, hx, h5⟩ := Option.bind_eq_some_iff.1 h4
        have hls : ∀ j ∈ QeR (args.toList.map (ev f) ++ caps), QhU (kg K j) = true := fun j hj => Qtz h3 _ (by unfold Jj; exact List.mem_map_of_mem hj)
        exact .inr ⟨_, MC.sub (Qfm h1) hls (hD.2.2.2.2 _ _ _ _ hx) hcs, fun v K' ⟨hv, hK⟩ => by rw [hv, hK]; exact hk _ _ h5⟩
       ·cases h2
     | true =>
      rw [hw] at h
      have h' : QkO D g K (args.toList.map (ev f) ++ caps) k () = some r := h
      unfold QkO QlU at h'
      obtain ⟨h1, h2⟩ := Vu h'
      unfold QlH at h2
      split at h2
      ·rename_i cs hcs
       obtain ⟨h3, h4⟩ := Vu h2
       unfold Jp at h4
       obtain ⟨x, hx, h5⟩ := Option.bind_eq_some_iff.1 h4
       have x4 := hD.2.2.2.1 _ _ _ _ hx
       have hlen : (Jj K (QeR (args.toList.map (ev f) ++ caps))).length = (QeR (args.toList.map (ev f) ++ caps)).length := by simp [Jj]
       rw [hlen] at x4
       have hls : ∀ j ∈ QeR (args.toList.map (ev f) ++ caps), clE (kg K j) = true := fun j hj => QjK h3 _ (by unfold Jj; exact List.mem_map_of_mem hj)
       exact .inr ⟨_, AC.subB (Qfm h1) hls x4 hcs, fun v K' ⟨hv, hK⟩ => by rw [hv, hK]; exact hk _ _ h5⟩
      ·cases h2
    | true =>
     rw [hq] at h
     have h' : Ql7 K (args.toList.map (ev f) ++ caps) k () = some r := h
     unfold Ql7 at h'
     split at h'
     ·rename_i j hv
      rw [hv]
      split at h'
      ·rename_i rows hj
       split at h'
       ·rename_i xs hxs
        obtain ⟨h1, h2⟩ := Vu h'
        exact .inr ⟨_, hD.2.2.1 g hq K j rows xs hj hxs (by simpa using h1), fun x K' ⟨hx, hK⟩ => by rw [hx, hK]; exact hk _ _ h2⟩
       ·cases h'
      ·cases h'
     ·cases h'
   | true =>
    rw [hs] at h
    have h' : Qom K (args.toList.map (ev f) ++ caps) k () = some r := h
    unfold Qom at h'
    split at h'
    ·rename_i j hv
     rw [hv]
     split at h'
     ·rename_i rows hj
      split at h'
      ·rename_i xs hxs
       obtain ⟨h1, h2⟩ := Vu h'
       exact .inr ⟨_, hD.2.1 g hs K j rows xs hj hxs (by simpa using h1), fun x K' ⟨hx, hK⟩ => by rw [hx, hK]; exact hk _ _ h2⟩
      ·cases h'
     ·cases h'
    ·cases h'
  ·cases h
 ·exact Qfe (Qat (QmG hD h) hk)
theorem Qg1 [Wd] {P : Program} {D : Orc} (hD : QgY P D) {ops : Array Oper} : ∀ (l : List Oper) {f : Fr} {K : KS} {k : Fr → KS → Option β}, Qf2 P D ops l f K k () = some r → QhG P ops l f K (fun f K => k f K = some r) ()
 | [], f, K, k, h => h
 | o :: l, f, K, k, h => by
  unfold Qf2 at h
  unfold QhG
  split at h
  ·rename_i hg
   simp only [hg]
   refine QtA hD h fun v K' h => ?_
   unfold Qfh at h
   unfold QcD
   split at h
   ·rename_i d hd; simp only [hd]; exact Qg1 hD l h
   ·rename_i hd; simp only [hd]; exact Qg1 hD l h
  ·cases h
theorem QtG {α : Type} : ∀ {l : List α} {o : Nat} {c : α} {cs : List α}, l.drop o = c :: cs → l[o]? = some c
 | [], o, c, cs, h => by simp at h
 | x :: l, 0, c, cs, h => by simp at h; simp [h.1]
 | x :: l, o + 1, c, cs, h => by simp at h; simpa using QtG h
theorem QHD [Wd] {P : Program} {D : Orc} (hD : QgY P D) {f : Fr} {K : KS} {p x : AV} {g : FuncId} {k : AV → KS → Option β} {l} (h : onp D f K p x g k l = some r) :
  ∃ j i o q m m' rows rs rs' rv, p = .ptr j i o ∧ kg K j = some (.lst q rows) ∧ (QR rows i)[o]? = some (.own m rs) ∧ x.scal = true ∧
   AC P g [some (.lst m rs)] [.sl 0, x] (fun v K' => (v = rv ∧ K'.take 1 = [some (.lst m' rs')]) ∧ rv.flat = true) ∧ k rv (Qop K j i o q m' rows rs') = some r := by
 unfold onp at h
 split at h
 ·rename_i j i o
  unfold onj at h
  split at h
  ·rename_i q rows hj
   unfold onx at h
   split at h
   ·rename_i m rs cs hcs
    obtain ⟨h1, h2⟩ := Vu h
    unfold Jp at h2
    obtain ⟨y, hy, h3⟩ := Option.bind_eq_some_iff.1 h2
    unfold onr at h3
    split at h3
    ·rename_i m' rs' hy2
     obtain ⟨h4, h5⟩ := Vu h3
     have y4 := hD.2.2.2.1 _ _ _ _ hy
     rw [hy2] at y4
     simp only [Bool.and_eq_true] at h4
     exact ⟨j, i, o, q, m, m', rows, rs, rs', y.1, rfl, hj, QtG hcs, h1, y4.mono fun v K' ⟨z1, z2, _⟩ => ⟨z1, h4.1⟩, h5⟩
    ·cases h3
   ·cases h
  ·cases h
 ·cases h
theorem Qmw [Wd] {P : Program} {D : Orc} (hD : QgY P D) {ops : Array Oper} : ∀ (us : List Nat) (l : List Oper) {f : Fr} {K : KS} {k : Fr → KS → Option β}, QhQ P D ops us l f K k () = some r → QhW P ops us l f K (fun f K => k f K = some r)
 | _ :: us, o :: l, f, K, k, h => by
  unfold QhQ at h
  unfold QhW
  split at h
  ·rename_i hg
   refine ⟨hg, Qfe (Qat (QmG hD h) fun v K' h => ?_)⟩
   unfold Qfh at h
   unfold QcD
   split at h
   ·rename_i d hd; simp only [hd]; exact Qmw hD us l h
   ·rename_i hd; simp only [hd]; exact Qmw hD us l h
  ·cases h
 | _ :: _, [], f, K, k, h => by unfold QhQ at h; cases h
 | [], l, f, K, k, h => by
  unfold QhQ at h
  split at h
  ·rename_i he; cases he
  ·rename_i _ _ d t p _ _ _ e x _ _ _ dst g args ts _ _ _ l' _
   split at h
   ·rename_i d' e' hargs
    obtain ⟨h1, h2⟩ := Vu h
    simp only [Bool.and_eq_true, Bool.not_eq_true'] at h1
    obtain ⟨ht, hd', he', hde⟩ := h1
    obtain ⟨j, i, o, q, m, m', rows, rs, rs', rv, q1, q2, q3, q4, q6, q7⟩ := QHD hD h2
    have e1 : d = d' := Nat.eq_of_beq_eq_true hd'
    have e2 : e = e' := Nat.eq_of_beq_eq_true he'
    subst e1 e2
    have ea : args = #[.tmp d, .tmp e] := Array.toList_inj.1 hargs
    subst ea
    unfold QhW
    refine ⟨d, e, t, p, x, g, ts, j, i, o, q, m, m', rows, rs, rs', rv, ⟨rfl, rfl, rfl⟩, ⟨rfl, rfl, rfl⟩, ⟨rfl, rfl⟩, (fun hh => by subst hh; rw [Nat.beq_refl] at hde; cases hde), ?_, q1, q2, q3, q4, q6, ?_⟩
    ·revert ht
     cases tk P t <;> intro ht <;> first | rfl | cases ht
    ·unfold Qfh at q7
     unfold QcD
     split at q7
     ·exact Qg1 hD _ q7
     ·exact Qg1 hD _ q7
   ·cases h
  ·cases h
theorem QiN [Wd] {P : Program} {D : Orc} (hD : QgY P D) {ops : Array Oper} : ∀ (l : List Oper) {f : Fr} {K : KS} {k : Fr → KS → Option β}, Qdr P D ops l f K k () = some r → QfF P ops l f K (fun f K => k f K = some r)
 | [], f, K, k, h => h
 | o :: l, f, K, k, h => by
  unfold Qdr at h
  unfold QfF
  refine QaF.2 ?_
  have yes : ∀ {f}, oop P D o.op f K (fun v K' => Qfh o.dst v f (fun f => Qdr P D ops l f K' k ()) ()) () = some r → QcG P o.op f K (fun v K' => QfF P ops l (JU f o.dst v) K' (fun f K => k f K = some r)) () := fun {f} h =>
   Qat (QmG hD h) fun v K' h => QiN hD l (by
    unfold Qfh at h
    unfold JU
    cases hd : o.dst with
    | none => simp only [hd] at h; exact h
    | some d => simp only [hd] at h; exact h)
  have no : ∀ {f}, Qfh o.dst (.tup []) f (fun f => Qdr P D ops l f K k ()) () = some r → QfF P ops l (JU f o.dst (.tup [])) K (fun f K => k f K = some r) := fun {f} h => QiN hD l (by
    unfold Qfh at h
    unfold JU
    cases hd : o.dst with
    | none => simp only [hd] at h; exact h
    | some d => simp only [hd] at h; exact h)
  unfold gd
  split at h
  ·rename_i hg; simp only [hg]; exact yes h
  ·rename_i j want hg
   simp only [hg]
   unfold ogd at h
   split at h
   ·rename_i d hj
    simp only [hj]
    split at h
    ·rename_i b hb
     simp only [hb]
     have e1 : up f d (.b b) = f := Qpk f d _ hb
     cases b <;> cases want <;> simp at h ⊢ <;> rw [e1] at h
     ·exact yes h
     ·exact no h
     ·exact no h
     ·exact yes h
    ·rename_i hb
     simp only [hb]
     exact no h
    ·cases h
   ·cases h
theorem QCH [Wd] {vs : List Nat} {P : Program} {D : Orc} (hD : QgY P D) {o : Op} {f : Fr} {K : KS} {k : AV → KS → Option β} {k' : AV → KS → Prop} {l} (h : Qly vs P D o f K k l = some r) (hk : ∀ v K, k v K = some r → k' v K) : QjL vs P o f K k' := by
 have key : (∃ g args ts, o = .call ⟨.value (.func g), args, ts⟩) ∨ (vOp vs o = false ∧ Qly vs P D o f K k l = oop P D o f K k ()) := by
  cases o with
  | call c =>
   obtain ⟨cal, args, ts⟩ := c
   cases cal with
   | value x =>
    cases x with
    | func g => exact .inl ⟨g, args, ts, rfl⟩
    | _ => exact .inr ⟨rfl, rfl⟩
   | _ => exact .inr ⟨rfl, rfl⟩
  | _ => exact .inr ⟨rfl, rfl⟩
 unfold QjL
 rcases key with ⟨g, args, ts, rfl⟩ | ⟨hv, he⟩
 ·have h : cond (vs.contains g) (QcY P D (.call ⟨.value (.func g), args, ts⟩) f K k ()) (oop P D (.call ⟨.value (.func g), args, ts⟩) f K k ()) = some r := h
  have hv : vOp vs (.call ⟨.value (.func g), args, ts⟩) = vs.contains g := rfl
  rw [hv]
  cases hc : vs.contains g with
  | true =>
   rw [hc] at h
   rw [if_pos rfl]
   exact QtA (l := ()) hD h hk
  | false =>
   rw [hc] at h
   rw [if_neg (by simp)]
   exact Qat (QmG (l := ()) hD h) hk
 ·rw [he] at h
  rw [hv, if_neg (by simp)]
  exact Qat (QmG (l := ()) hD h) hk
theorem QgR [Wd] {vs : List Nat} {P : Program} {D : Orc} (hD : QgY P D) {ops : Array Oper} : ∀ (l : List Oper) {f : Fr} {K : KS} {k : Fr → KS → Option β}, Z6 vs P D ops l f K k () = some r → Qj3 vs P ops l f K (fun f K => k f K = some r)
 | [], f, K, k, h => h
 | o :: l, f, K, k, h => by
  unfold Z6 at h
  unfold Qj3 Qdm
  have yes : ∀ {f}, Qly vs P D o.op f K (fun v K' => Qfh o.dst v f (fun f => Z6 vs P D ops l f K' k ()) ()) () = some r → QjL vs P o.op f K (fun v K' => Qj3 vs P ops l (JU f o.dst v) K' (fun f K => k f K = some r)) := fun {f} h =>
   QCH hD h fun v K' h => QgR hD l (by
    unfold Qfh at h
    unfold JU
    cases hd : o.dst with
    | none => simp only [hd] at h; exact h
    | some d => simp only [hd] at h; exact h)
  have no : ∀ {f}, Qfh o.dst (.tup []) f (fun f => Z6 vs P D ops l f K k ()) () = some r → Qj3 vs P ops l (JU f o.dst (.tup [])) K (fun f K => k f K = some r) := fun {f} h => QgR hD l (by
    unfold Qfh at h
    unfold JU
    cases hd : o.dst with
    | none => simp only [hd] at h; exact h
    | some d => simp only [hd] at h; exact h)
  unfold gd
  split at h
  ·rename_i hg; simp only [hg]; exact yes h
  ·rename_i j want hg
   simp only [hg]
   unfold ogd at h
   split at h
   ·rename_i d hj
    simp only [hj]
    split at h
    ·rename_i b hb
     simp only [hb]
     have e1 : up f d (.b b) = f := Qpk f d _ hb
     cases b <;> cases want <;> simp at h ⊢ <;> rw [e1] at h
     ·exact yes h
     ·exact no h
     ·exact no h
     ·exact yes h
    ·rename_i hb
     simp only [hb]
     exact no h
    ·cases h
   ·cases h
theorem Qq0 [Wd] {P : Program} {ops : Array Oper} : ∀ (l : List Oper) {f : Fr} {K : KS} {k : Fr → KS → Prop}, QfF P ops l f K k → QhG P ops l f K k ()
 | [], f, K, k, h => h
 | o :: l, f, K, k, h => by
  unfold QfF Qdl at h
  unfold QhG
  have st : ∀ {f : Fr} {K : KS} {d : Option Tmp} {v : AV}, QcD d v f (fun f => QfF P ops l f K k) () → QcD d v f (fun f => QhG P ops l f K k ()) () := fun {f K d v} h => by
   rw [QiL] at h ⊢; exact Qq0 l h
  have yes : ∀ {f}, QcG P o.op f K (fun v K' => QcD o.dst v f (fun f => QfF P ops l f K' k) ()) () → xop P o.op f K (fun v K' => QcD o.dst v f (fun f => QhG P ops l f K' k ()) ()) () := fun {f} h =>
   Qfe (Qat h fun v K' h => st h)
  split at h
  ·rename_i hg; try simp only [hg]
   exact yes h
  ·rename_i j want hg
   try simp only [hg]
   unfold xgd at h ⊢
   split at h
   ·rename_i d hj
    try simp only [hj]
    split at h
    ·rename_i b hb
     unfold XBr at h ⊢
     refine ⟨fun hx => ?_, fun hx => ?_⟩
     ·have := h.1 hx
      cases want
      ·exact st this
      ·exact yes this
     ·have := h.2 hx
      cases want
      ·exact yes this
      ·exact st this
    ·rename_i hb
     exact st h
    ·exact h.elim
   ·exact h.elim
end
end Go.Proofs.YtponohekgnklkaaGreat.Am
