/- An evaluator over the abstract machine's values: its steps are the machine's. No condition. -/
import Derived.Test.YtkbilciipmijjaaGreatDoorEvA
namespace Go.Proofs.YtkbilciipmijjaaGreatDoor.Am
open Go
set_option linter.unusedVariables false
set_option linter.unusedSimpArgs false
section
variable {β : Type} {r : β}
theorem need_some {b : Bool} {q : Option β} {l} (h : need b q l = some r) : b = true ∧ q = some r := by
  cases b with
  | false => cases h
  | true => exact ⟨rfl, h⟩
theorem cond_some {b : Bool} {p q : Option β} (h : cond b p q = some r) : (b = true → p = some r) ∧ (b = false → q = some r) := by
  cases b with
  | false => exact ⟨fun h' => by (cases h'), fun _ => h⟩
  | true => exact ⟨fun _ => h, fun h' => by cases h'⟩
theorem ite_some {p : Prop} [Decidable p] {q : Option β} (h : (if p then q else none) = some r) : p ∧ q = some r := by
  by_cases hp : p
  · rw [if_pos hp] at h; exact ⟨hp, h⟩
  · rw [if_neg hp] at h; cases h
theorem pos_ite {p : Prop} [Decidable p] {q : Prop} (hp : p) (hq : q) : (if p then q else False) := by rw [if_pos hp]; exact hq
theorem beq_int (a b : Int) : (a == b) = decide (a = b) := by by_cases h : a = b <;> simp [h]
theorem bne_int (a b : Int) : (a != b) = !decide (a = b) := by by_cases h : a = b <;> simp [h]
theorem beq_str (a b : List UInt8) : (a == b) = decide (a = b) := by by_cases h : a = b <;> simp [h]
theorem bne_str (a b : List UInt8) : (a != b) = !decide (a = b) := by by_cases h : a = b <;> simp [h]
theorem oeqA_ok {te : Option (List CK)} {xs ys : List AV} {k : Bool → Option β} {l} (h : oeqA te xs ys k l = some r) : xeqA te xs ys (fun v => k v = some r) () := by
  unfold oeqA at h
  unfold xeqA
  split at h
  · split at h
    · rename_i hb; simp only [hb]; exact h
    · cases h
  · cases h
theorem oslc_ok {t : TI} {x : AV} {lo hi : Option AV} {k : AV → Option β} {l} (h : oslc t x lo hi k l = some r) : xslc t x lo hi (fun v => k v = some r) () := by
  unfold oslc at h
  unfold xslc
  split at h
  · obtain ⟨hm, h⟩ := ite_some h
    simp only
    rw [if_pos hm]
    split at h
    · rename_i h1 h2
      simp only [h1, h2]
      obtain ⟨h3, h4⟩ := need_some h
      exact ⟨by simpa [slB] using h3, h4⟩
    · cases h
  · simp only
    split at h
    · rename_i h1 h2
      simp only [h1, h2]
      obtain ⟨h3, h4⟩ := need_some h
      exact ⟨by simpa [slB] using h3, h4⟩
    · cases h
  · cases h
theorem osix_ok {t : TI} {x i : AV} {k : AV → Option β} {l} (h : osix t x i k l = some r) : xsix t x i (fun v => k v = some r) () := by
  unfold osix at h
  unfold xsix
  split at h
  · obtain ⟨h3, h4⟩ := need_some h
    exact ⟨inb_iff.1 h3, h4⟩
  · cases h
theorem obin_ok {te : Option (List CK)} {op : BinOp} {x y : AV} {k : AV → Option β} {l} (h : obin te op x y k l = some r) : xbin te op x y (fun v => k v = some r) () := by
  unfold obin at h
  unfold xbin
  split at h
  · simp only
    split at h
    · exact oeqA_ok h
    · exact oeqA_ok h
    · cases h
  · simp only
    split at h
    · exact h
    · exact h
    · cases h
  · simp only
    split at h
    · rename_i hs
      rw [if_pos hs]
      obtain ⟨h1, h2⟩ := need_some h
      exact ⟨by simpa using h1, h2⟩
    rename_i hs
    rw [if_neg hs]
    obtain ⟨hc, h⟩ := ite_some h
    rw [if_pos hc]
    split at h <;> simp only <;> first
      | exact h
      | (rw [beq_int]; exact h)
      | (rw [bne_int]; exact h)
      | (obtain ⟨h1, h2⟩ := need_some h; exact ⟨by simpa using h1, h2⟩)
      | cases h
  · simp only
    split at h <;> simp only <;> first
      | (rw [beq_str]; exact h)
      | (rw [bne_str]; exact h)
      | (obtain ⟨h1, h2⟩ := need_some h; exact ⟨by simpa using h1, h2⟩)
      | cases h
  · cases h
theorem oun_ok {op : UnOp} {x : AV} {k : AV → Option β} {l} (h : oun op x k l = some r) : xun op x (fun v => k v = some r) () := by
  unfold oun at h
  unfold xun
  split at h
  · exact h
  · exact h
  · cases h
theorem opick_ok {c x y : AV} {k : AV → Option β} {l} (h : opick c x y k l = some r) : xpick c x y (fun v => k v = some r) () := by
  unfold opick at h
  unfold xpick
  split at h
  · rename_i b
    cases b with
    | true => exact h
    | false => exact h
  · cases h
variable {K : KS}
theorem olen_ok {t : TI} {x : AV} {k : AV → Option β} {l} (h : olen K t x k l = some r) : xlen K t x (fun v => k v = some r) () := by
  unfold olen at h
  unfold xlen
  split at h
  · exact h
  · exact h
  · split at h
    · rename_i e he; simp only [he]; exact h
    · cases h
  · exact h
  · exact h
  · cases h
theorem oadd_ok {x : AV} {o : Option (Nat × TK)} {k : AV → Option β} {l} (h : oadd K x o k l = some r) : xadd K x o (fun v => k v = some r) () := by
  unfold oadd at h
  unfold xadd
  split at h
  · split at h
    · rename_i e he; simp only [he]; exact h
    · cases h
  · exact h
  · cases h
theorem oidx_ok {t : TI} {x i : AV} {k : AV → Option β} {l} (h : oidx K t x i k l = some r) : xidx K t x i (fun v => k v = some r) () := by
  unfold oidx at h
  unfold xidx
  split at h
  · obtain ⟨hm, h⟩ := ite_some h
    obtain ⟨h1, h2⟩ := need_some h
    exact pos_ite hm ⟨inb_iff.1 h1, h2⟩
  · split at h
    · rename_i e he
      obtain ⟨hm, h⟩ := ite_some h
      simp only [he]
      obtain ⟨h1, h2⟩ := need_some h
      exact pos_ite hm ⟨inb_iff.1 h1, h2⟩
    · cases h
  · split at h
    · rename_i e he
      simp only [he]
      obtain ⟨h1, h2⟩ := need_some h
      exact ⟨by simpa [inbK] using h1, h2⟩
    · cases h
  · cases h
theorem oload_ok {t : TK} {cs : List AV} {k : AV → Option β} {l} (h : oload t cs k l = some r) : xload t cs (fun v => k v = some r) () := by
  unfold oload at h
  unfold xload
  split at h
  · split at h
    · exact h
    · cases h
  · obtain ⟨hm, h⟩ := ite_some h
    exact pos_ite hm (h)
  · cases h
theorem oput_ok {cs : List AV} {o : Nat} {t : TK} {v : AV} {ok : AV → Bool} {k : List AV → Option β} {l} (h : oput cs o t v ok k l = some r) : xput cs o t v ok (fun v => k v = some r) () := by
  unfold oput at h
  unfold xput
  split at h
  · obtain ⟨hm, h⟩ := ite_some h
    exact pos_ite hm (h)
  · obtain ⟨hm, h⟩ := ite_some h
    exact pos_ite hm (h)
  · cases h
theorem ostore_ok {t : TK} {p v : AV} {k : KS → Option β} {l} (h : ostore K t p v k l = some r) : xstore K t p v (fun K => k K = some r) () := by
  unfold ostore at h
  unfold xstore
  split at h
  · split at h
    · rename_i cs hj
      simp only [hj]
      obtain ⟨hm, h⟩ := ite_some h
      exact pos_ite hm (oput_ok h)
    · rename_i n rows hj
      simp only [hj]
      obtain ⟨hm, h⟩ := ite_some h
      exact pos_ite hm (oput_ok h)
    · cases h
  · cases h
theorem ostoreA_ok {t : TK} {j i o n : Nat} {rows : List (List AV)} {v : AV} {k : KS → Option β} {l} {ns : List Nat} (h : ostoreA ns K t j i o n rows v k l = some r) : xstoreA ns K t j i o n rows v (fun K => k K = some r) () := by
  unfold ostoreA at h
  unfold xstoreA
  obtain ⟨hm, h⟩ := ite_some h
  rw [if_pos hm]
  split at h
  · rename_i K1 ds hab
    obtain ⟨hc, h⟩ := ite_some h
    simp only [hab]
    exact pos_ite hc h
  · cases h
theorem ostoreX_ok {fl : Bool} {t : TK} {p v : AV} {k : KS → Option β} {l} {ns : List Nat} (h : ostoreX fl ns K t p v k l = some r) : xstoreX fl ns K t p v (fun K => k K = some r) () := by
  unfold ostoreX at h
  unfold xstoreX
  split at h
  · split at h
    · rename_i n rows hj
      simp only [hj]
      split at h
      · rename_i hc; rw [if_pos hc]; exact ostore_ok h
      · rename_i hc
        rw [if_neg hc]
        obtain ⟨hf, h⟩ := ite_some h
        exact pos_ite hf (ostoreA_ok h)
    · rename_i hj
      cases hk : kg K _ with
      | none => simp only [hk]; exact ostore_ok h
      | some e =>
        cases e with
        | box cs => simp only [hk]; exact ostore_ok h
        | lst n rows => exact absurd hk (hj n rows)
  · cases h
theorem obox_ok {v : AV} {k : AV → KS → Option β} {l} (h : obox K v k l = some r) : xbox K v (fun v K => k v K = some r) () := by
  unfold obox at h
  unfold xbox
  split at h
  · obtain ⟨hm, h⟩ := ite_some h
    exact pos_ite hm h
  · rename_i hn
    obtain ⟨hm, h⟩ := ite_some h
    cases v with
    | agg cs => exact absurd rfl (hn cs)
    | _ => exact pos_ite hm h
theorem oalloc_ok {z : Option (List AV)} {k : AV → KS → Option β} {l} (h : oalloc K z k l = some r) : xalloc K z (fun v K => k v K = some r) () := by
  unfold oalloc at h
  unfold xalloc
  split at h
  · exact h
  · cases h
theorem obuild_ok {t : TB} {parts : List (Nat × AV)} {k : AV → Option β} {l} (h : obuild K t parts k l = some r) : xbuild K t parts (fun v => k v = some r) () := by
  unfold obuild at h
  unfold xbuild
  split at h
  · split at h
    · rename_i cs hc; simp only [hc]; exact h
    · cases h
  · split at h
    · rename_i cs hc; simp only [hc]; exact h
    · cases h
  · cases h
theorem obslice_ok {t : Option (TypeId × Nat × List AV)} {len : Nat} {parts : List (Nat × AV)} {k : AV → KS → Option β} {l} {fl : Bool} {ns : List Nat} (h : obslice fl ns K t len parts k l = some r) : (fl = true → flatB K t len parts = true) ∧ xbslice ns K t len parts (fun v K => k v K = some r) () := by
  unfold obslice at h
  unfold xbslice flatB
  cases t with
  | none => cases h
  | some q =>
    obtain ⟨e, m, z⟩ := q
    simp only at h ⊢
    by_cases h0 : len = 0
    · rw [if_pos h0] at h ⊢
      subst h0
      cases parts with
      | nil => exact ⟨fun _ => by simp [xfill, zeros, noS], h⟩
      | cons _ _ => cases h
    · rw [if_neg h0] at h ⊢
      obtain ⟨hm, h⟩ := ite_some h
      rw [if_pos hm]
      cases hx : xfill K (fun i => some (i * m, m)) (zeros len z) parts with
      | none => rw [hx] at h; cases h
      | some cs =>
        rw [hx] at h
        simp only at h ⊢
        cases hf : yB fl cs with
        | false => rw [hf] at h; cases h
        | true =>
          rw [hf] at h
          simp only [cond_true] at h
          refine ⟨fun hfl => ?_, ?_⟩
          · rw [hfl] at hf; exact hf
          · cases ha : absorb K cs with
            | none => rw [ha] at h; cases h
            | some q =>
              obtain ⟨K1, ds⟩ := q
              rw [ha] at h
              exact h
theorem otup_ok {v : AV} {i : Nat} {k : AV → Option β} {l} (h : otup v i k l = some r) : xtup v i (fun v => k v = some r) () := by
  unfold otup at h
  unfold xtup
  split at h
  · split at h
    · rename_i c hc; simp only [hc]; exact h
    · cases h
  · cases h
theorem oappend_ok {t : Option (TypeId × Nat × List AV)} {b : Option Nat} {s x : AV} {k : AV → KS → Option β} {l} (h : oappend K t b s x k l = some r) : xappend K t b s x (fun v K => k v K = some r) () := by
  unfold oappend at h
  unfold xappend
  split at h
  · simp only
    split at h
    · rename_i rows K1 hs
      simp only [hs]
      split at h
      · split at h
        · rename_i n rows hj
          simp only [hj]
          obtain ⟨hm, h⟩ := ite_some h
          obtain ⟨h1, h2⟩ := need_some h
          exact pos_ite hm ⟨by simpa using h1, h2⟩
        · cases h
      · obtain ⟨h1, h2⟩ := need_some h
        exact ⟨by simpa using h1, h2⟩
      · cases h
    · cases h
  · cases h
theorem omin_ok {x y : AV} {k : AV → Option β} {l} (h : omin x y k l = some r) : xmin x y (fun v => k v = some r) () := by
  unfold omin at h
  unfold xmin
  split at h
  · exact h
  · cases h
theorem omax_ok {x y : AV} {k : AV → Option β} {l} (h : omax x y k l = some r) : xmax x y (fun v => k v = some r) () := by
  unfold omax at h
  unfold xmax
  split at h
  · exact h
  · cases h
theorem oconv_ok {t : TI} {x : AV} {k : AV → Option β} {l} (h : oconv t x k l = some r) : xconv t x (fun v => k v = some r) () := by
  unfold oconv at h
  unfold xconv
  split at h
  · exact h
  · cases h
theorem obstr_ok {K : KS} {t : TI} {x : AV} {k : AV → Option β} {l} (h : obstr K t x k l = some r) : xbstr K t x (fun v => k v = some r) () := by
  unfold obstr at h
  unfold xbstr
  split at h
  · split at h
    · rename_i h1
      split at h
      · rename_i h2; simp only [h1, h2]; exact h
      · cases h
    · cases h
  · cases h
theorem oisnil_ok {op : BinOp} {x : AV} {k : AV → Option β} {l} (h : oisnil op x k l = some r) : xisnil op x (fun v => k v = some r) () := by
  have key : ∀ {b : Bool} {x y : Option β}, oemp b x y = some r → (b = true → x = some r) ∧ y = some r := by
    intro b x y h
    unfold oemp at h
    cases b with
    | false => exact ⟨fun h => (by cases h), h⟩
    | true =>
      simp only [cond_true, oeq] at h
      split at h
      · rename_i he; exact ⟨fun _ => h, by rw [← he]; exact h⟩
      · cases h
  unfold oisnil at h
  unfold xisnil
  split at h
  · exact key h
  · exact key h
  · cases h
theorem omake_ok {t : Option (TypeId × Nat × List AV)} {b : Option Nat} {x c : AV} {k : AV → KS → Option β} {l} {ns : List Nat} (h : omake ns K t b x c k l = some r) : xmake ns K t b x c (fun v K => k v K = some r) () := by
  unfold omake at h
  unfold xmake
  split at h
  · simp only
    obtain ⟨h1, h2⟩ := need_some h
    obtain ⟨h3, h4⟩ := need_some h2
    rw [if_pos (by simpa using h1)]
    exact ⟨by simpa [mkB] using h3, h4⟩
  · cases h
/-- What is told of calls is so. -/
def SortP [Wd] (P : Program) (g : FuncId) : Prop := ∀ (K : KS) (j : Nat) (rows : List (List AV)) (xs : List Int), kg K j = some (.lst 1 rows) → intsOf rows = some xs → xs.length < 4611686018427387904 →
  AC P g K [.sl j] (fun x K' => x = .tup [] ∧ K' = K.set j (some (.lst 1 ((sortI xs).map cI))))
def CompP [Wd] (P : Program) (g : FuncId) : Prop := ∀ (K : KS) (j : Nat) (rows : List (List AV)) (xs : List Int), kg K j = some (.lst 1 rows) → intsOf rows = some xs → xs.length < 4611686018427387904 →
  AC P g K [.sl j] (fun x K' => x = .sl K.length ∧ K' = K.set j none ++ [some (.lst 1 ((compI xs).map cI))])
theorem ndB_nodup : ∀ {l : List Nat}, ndB l = true → l.Nodup
  | [], _ => by simp
  | x :: l, h => by
    simp only [ndB, Bool.and_eq_true, Bool.not_eq_true'] at h
    rw [List.nodup_cons]
    exact ⟨by simpa using h.1, ndB_nodup h.2⟩
/-- What is told of the calls that write the regions they are given is so. -/
def ArP [Wd] (P : Program) (D : Orc) : Prop := ∀ g K args x, D.a g K args = some x → AC P g K args (fun v K' => (v = x.1 ∧ K'.take x.2.length = x.2) ∧ rok x.2.length x.1 = true ∧ (∀ e ∈ x.2, clE e = true) ∧ K.length ≤ x.2.length)
/-- What is told of the calls that are given regions for good is so. -/
def MrP [Wd] (P : Program) (D : Orc) : Prop := ∀ g K args x, D.m g K args = some x → MC P g K args (· = x)
def OrcP [Wd] (P : Program) (D : Orc) : Prop := (∀ g args x, D.p g args = some x → PC P g args (· = x)) ∧ (∀ g, D.s g = true → SortP P g) ∧ (∀ g, D.q g = true → CompP P g) ∧ ArP P D ∧ MrP P D
theorem allL_ok : ∀ {K : KS}, allL K = true → ∀ e ∈ K, isLst e = true
  | [], _, e, he => by cases he
  | some (.lst n rows) :: K, h, e, he => by
    rcases List.mem_cons.1 he with rfl | he
    · rfl
    · exact allL_ok (K := K) h e he
  | none :: K, h, e, he => by cases h
  | some (.box cs) :: K, h, e, he => by cases h
theorem allC_ok : ∀ {K : KS}, allC K = true → ∀ e ∈ K, clE e = true
  | [], _, e, he => by cases he
  | some (.lst n rows) :: K, h, e, he => by
    rcases List.mem_cons.1 he with rfl | he
    · rfl
    · exact allC_ok (K := K) h e he
  | none :: K, h, e, he => by cases h
  | some (.box cs) :: K, h, e, he => by
    simp only [allC, Bool.and_eq_true] at h
    rcases List.mem_cons.1 he with rfl | he
    · exact h.1
    · exact allC_ok (K := K) h.2 e he
theorem nilC_sl {s : Operand} (hs : isNilC s = true) (f : Fr) : isSlA (ev f s) = false := by
  cases s with
  | const v =>
    cases v <;> first | (cases hs; done) | skip
    rename_i a l c
    cases a <;> cases l <;> cases c <;> first | rfl | cases hs
  | _ => cases hs
theorem oop_ok [Wd] {P : Program} {D : Orc} (hD : OrcP P D) {o : Op} {f : Fr} {k : AV → KS → Option β} {l} (h : oop P D o f K k l = some r) : xopP P o f K (fun v K => k v K = some r) () := by
  unfold oop at h
  unfold xopP
  split at h
  case h_21 x args _ =>
    simp only
    unfold owho at h
    unfold xwho
    split at h
    · rename_i g caps hg
      unfold ocall obind at h
      obtain ⟨x, hx, h⟩ := Option.bind_eq_some_iff.1 h
      simp only [hg]
      exact ⟨_, (hD.1 _ _ _ hx).fix, fun y hy => by rw [hy]; exact h⟩
    · cases h
  all_goals (simp only; unfold xop; simp only)
  case h_1 => exact h
  case h_2 => exact h
  case h_3 => exact opick_ok h
  case h_4 => exact oalloc_ok h
  case h_5 => exact obox_ok h
  case h_6 => exact obuild_ok h
  case h_7 => exact obslice_ok h
  case h_8 => exact oload_ok h
  case h_9 => exact ostoreX_ok h
  case h_10 =>
    split at h
    · rename_i hn
      obtain ⟨hm, h⟩ := ite_some h
      rw [if_pos hn]
      exact pos_ite hm (oisnil_ok h)
    · rename_i hn
      rw [if_neg hn]
      exact obin_ok h
  case h_11 => exact oun_ok h
  case h_12 =>
    split at h
    · rename_i hb; rw [if_pos hb]; exact obstr_ok h
    · rename_i hb
      obtain ⟨hm, h⟩ := ite_some h
      rw [if_neg hb]
      exact pos_ite hm (oconv_ok h)
  case h_13 =>
    obtain ⟨hm, h⟩ := ite_some h
    exact pos_ite hm (h)
  case h_14 => exact oadd_ok h
  case h_15 => exact oidx_ok h
  case h_16 => exact otup_ok h
  case h_17 =>
    split at h
    · rename_i h1 h2; simp only [h1, h2]; exact olen_ok h
    · cases h
  case h_18 =>
    split at h
    · rename_i h1 h2
      obtain ⟨⟨hm, hn⟩, h⟩ := ite_some h
      simp only [h1, h2]
      refine ⟨fun hc => ?_, pos_ite hm (oappend_ok h)⟩
      rename_i s x _ _ _ _
      have hs : isNilC s = true := hc
      rw [hs] at hn
      have hs2 : isSlA (ev f s) = false := nilC_sl hs f
      have hx2 : isSlA (ev f x) = false := hn
      simp [hs2, hx2]
    · cases h
  case h_19 =>
    split at h
    · rename_i h1; simp only [h1]; exact omin_ok h
    · cases h
  case h_20 =>
    split at h
    · rename_i h1; simp only [h1]; exact omax_ok h
    · cases h
  case h_22 => exact omake_ok h
  case h_23 => exact oslc_ok h
  case h_24 => exact osix_ok h
  case h_25 =>
    unfold onil at h
    unfold xnil
    split at h
    · rename_i hv
      simp only [hv]
      unfold onilE at h
      split at h
      · rename_i hj; simp only [hj]; exact h
      · cases h
    · rename_i hv
      simp only [hv]; exact h
    · cases h
  case h_26 => cases h
theorem oopA_ok [Wd] {P : Program} {D : Orc} (hD : OrcP P D) {o : Op} {f : Fr} {K : KS} {k : AV → KS → Option β} {k' : AV → KS → Prop} {l} (h : oopA P D o f K k l = some r) (hk : ∀ v K, k v K = some r → k' v K) : xop P o f K k' () := by
  unfold oopA at h
  split at h
  · rename_i x args ts _
    show xwho (ev f x) (fun g caps => xcall P g K (args.toList.map (ev f) ++ caps) k' ()) ()
    unfold owho at h
    unfold xwho
    split at h
    · rename_i g caps hg
      simp only [hg]
      simp only at h
      cases hs : D.s g with
      | false =>
        rw [hs] at h
        have h : cond (D.q g) (ocomp K (args.toList.map (ev f) ++ caps) k ()) (cond (D.w g) (ocallA D g K (args.toList.map (ev f) ++ caps) k ()) (cond (D.v g) (ocallM D g K (args.toList.map (ev f) ++ caps) k ()) (ocall D g K (args.toList.map (ev f) ++ caps) k ()))) = some r := h
        cases hq : D.q g with
        | false =>
          rw [hq] at h
          have h : cond (D.w g) (ocallA D g K (args.toList.map (ev f) ++ caps) k ()) (cond (D.v g) (ocallM D g K (args.toList.map (ev f) ++ caps) k ()) (ocall D g K (args.toList.map (ev f) ++ caps) k ())) = some r := h
          cases hw : D.w g with
          | false =>
            rw [hw] at h
            have h : cond (D.v g) (ocallM D g K (args.toList.map (ev f) ++ caps) k ()) (ocall D g K (args.toList.map (ev f) ++ caps) k ()) = some r := h
            cases hv : D.v g with
            | false =>
              rw [hv] at h
              have h' : ocall D g K (args.toList.map (ev f) ++ caps) k () = some r := h
              unfold ocall obind at h'
              obtain ⟨x, hx, h'⟩ := Option.bind_eq_some_iff.1 h'
              exact .inl ⟨_, (hD.1 _ _ _ hx).fix, fun y hy => by rw [hy]; exact hk _ _ h'⟩
            | true =>
              rw [hv] at h
              have h' : ocallM D g K (args.toList.map (ev f) ++ caps) k () = some r := h
              unfold ocallM ocallMj at h'
              obtain ⟨h1, h2⟩ := need_some h'
              unfold ocallMs at h2
              split at h2
              · rename_i cs hcs
                obtain ⟨h3, h4⟩ := need_some h2
                unfold obind at h4
                obtain ⟨x, hx, h5⟩ := Option.bind_eq_some_iff.1 h4
                have hls : ∀ j ∈ refAs (args.toList.map (ev f) ++ caps), isLst (kg K j) = true := fun j hj => allL_ok h3 _ (by unfold subK; exact List.mem_map_of_mem hj)
                exact .inr ⟨_, MC.sub (ndB_nodup h1) hls (hD.2.2.2.2 _ _ _ _ hx) hcs, fun v K' ⟨hv, hK⟩ => by rw [hv, hK]; exact hk _ _ h5⟩
              · cases h2
          | true =>
            rw [hw] at h
            have h' : ocallA D g K (args.toList.map (ev f) ++ caps) k () = some r := h
            unfold ocallA ocallAj at h'
            obtain ⟨h1, h2⟩ := need_some h'
            unfold ocallAs at h2
            split at h2
            · rename_i cs hcs
              obtain ⟨h3, h4⟩ := need_some h2
              unfold obind at h4
              obtain ⟨x, hx, h5⟩ := Option.bind_eq_some_iff.1 h4
              have x4 := hD.2.2.2.1 _ _ _ _ hx
              have hlen : (subK K (refAs (args.toList.map (ev f) ++ caps))).length = (refAs (args.toList.map (ev f) ++ caps)).length := by simp [subK]
              rw [hlen] at x4
              have hls : ∀ j ∈ refAs (args.toList.map (ev f) ++ caps), clE (kg K j) = true := fun j hj => allC_ok h3 _ (by unfold subK; exact List.mem_map_of_mem hj)
              exact .inr ⟨_, AC.subB (ndB_nodup h1) hls x4 hcs, fun v K' ⟨hv, hK⟩ => by rw [hv, hK]; exact hk _ _ h5⟩
            · cases h2
        | true =>
          rw [hq] at h
          have h' : ocomp K (args.toList.map (ev f) ++ caps) k () = some r := h
          unfold ocomp at h'
          split at h'
          · rename_i j hv
            rw [hv]
            split at h'
            · rename_i rows hj
              split at h'
              · rename_i xs hxs
                obtain ⟨h1, h2⟩ := need_some h'
                exact .inr ⟨_, hD.2.2.1 g hq K j rows xs hj hxs (by simpa using h1), fun x K' ⟨hx, hK⟩ => by rw [hx, hK]; exact hk _ _ h2⟩
              · cases h'
            · cases h'
          · cases h'
      | true =>
        rw [hs] at h
        have h' : osort K (args.toList.map (ev f) ++ caps) k () = some r := h
        unfold osort at h'
        split at h'
        · rename_i j hv
          rw [hv]
          split at h'
          · rename_i rows hj
            split at h'
            · rename_i xs hxs
              obtain ⟨h1, h2⟩ := need_some h'
              exact .inr ⟨_, hD.2.1 g hs K j rows xs hj hxs (by simpa using h1), fun x K' ⟨hx, hK⟩ => by rw [hx, hK]; exact hk _ _ h2⟩
            · cases h'
          · cases h'
        · cases h'
    · cases h
  · exact xopP_xop (xopP_mono (oop_ok hD h) hk)
theorem oopsA_ok [Wd] {P : Program} {D : Orc} (hD : OrcP P D) {ops : Array Oper} : ∀ (l : List Oper) {f : Fr} {K : KS} {k : Fr → KS → Option β}, oopsA P D ops l f K k () = some r → xops P ops l f K (fun f K => k f K = some r) ()
  | [], f, K, k, h => h
  | o :: l, f, K, k, h => by
    unfold oopsA at h
    unfold xops
    split at h
    · rename_i hg
      simp only [hg]
      refine oopA_ok hD h fun v K' h => ?_
      unfold oset at h
      unfold xset
      split at h
      · rename_i d hd; simp only [hd]; exact oopsA_ok hD l h
      · rename_i hd; simp only [hd]; exact oopsA_ok hD l h
    · cases h
theorem drop_hd {α : Type} : ∀ {l : List α} {o : Nat} {c : α} {cs : List α}, l.drop o = c :: cs → l[o]? = some c
  | [], o, c, cs, h => by simp at h
  | x :: l, 0, c, cs, h => by simp at h; simp [h.1]
  | x :: l, o + 1, c, cs, h => by simp at h; simpa using drop_hd h
theorem onp_ok [Wd] {P : Program} {D : Orc} (hD : OrcP P D) {f : Fr} {K : KS} {p x : AV} {g : FuncId} {k : AV → KS → Option β} {l} (h : onp D f K p x g k l = some r) :
    ∃ j i o q m m' rows rs rs' rv, p = .ptr j i o ∧ kg K j = some (.lst q rows) ∧ (rowOf rows i)[o]? = some (.own m rs) ∧ x.scal = true ∧
      AC P g [some (.lst m rs)] [.sl 0, x] (fun v K' => (v = rv ∧ K'.take 1 = [some (.lst m' rs')]) ∧ rv.flat = true) ∧ k rv (nestK K j i o q m' rows rs') = some r := by
  unfold onp at h
  split at h
  · rename_i j i o
    unfold onj at h
    split at h
    · rename_i q rows hj
      unfold onx at h
      split at h
      · rename_i m rs cs hcs
        obtain ⟨h1, h2⟩ := need_some h
        unfold obind at h2
        obtain ⟨y, hy, h3⟩ := Option.bind_eq_some_iff.1 h2
        unfold onr at h3
        split at h3
        · rename_i m' rs' hy2
          obtain ⟨h4, h5⟩ := need_some h3
          have y4 := hD.2.2.2.1 _ _ _ _ hy
          rw [hy2] at y4
          simp only [Bool.and_eq_true] at h4
          exact ⟨j, i, o, q, m, m', rows, rs, rs', y.1, rfl, hj, drop_hd hcs, h1, y4.mono fun v K' ⟨z1, z2, _⟩ => ⟨z1, h4.1⟩, h5⟩
        · cases h3
      · cases h
    · cases h
  · cases h
theorem oopsN_ok [Wd] {P : Program} {D : Orc} (hD : OrcP P D) {ops : Array Oper} : ∀ (us : List Nat) (l : List Oper) {f : Fr} {K : KS} {k : Fr → KS → Option β}, oopsN P D ops us l f K k () = some r → xopsN P ops us l f K (fun f K => k f K = some r)
  | _ :: us, o :: l, f, K, k, h => by
    unfold oopsN at h
    unfold xopsN
    split at h
    · rename_i hg
      refine ⟨hg, xopP_xop (xopP_mono (oop_ok hD h) fun v K' h => ?_)⟩
      unfold oset at h
      unfold xset
      split at h
      · rename_i d hd; simp only [hd]; exact oopsN_ok hD us l h
      · rename_i hd; simp only [hd]; exact oopsN_ok hD us l h
    · cases h
  | _ :: _, [], f, K, k, h => by unfold oopsN at h; cases h
  | [], l, f, K, k, h => by
    unfold oopsN at h
    split at h
    · rename_i he; cases he
    · rename_i _ _ d t p _ _ _ e x _ _ _ dst g args ts _ _ _ l' _
      split at h
      · rename_i d' e' hargs
        obtain ⟨h1, h2⟩ := need_some h
        simp only [Bool.and_eq_true, Bool.not_eq_true'] at h1
        obtain ⟨ht, hd', he', hde⟩ := h1
        obtain ⟨j, i, o, q, m, m', rows, rs, rs', rv, q1, q2, q3, q4, q6, q7⟩ := onp_ok hD h2
        have e1 : d = d' := Nat.eq_of_beq_eq_true hd'
        have e2 : e = e' := Nat.eq_of_beq_eq_true he'
        subst e1 e2
        have ea : args = #[.tmp d, .tmp e] := Array.toList_inj.1 hargs
        subst ea
        unfold xopsN
        refine ⟨d, e, t, p, x, g, ts, j, i, o, q, m, m', rows, rs, rs', rv, ⟨rfl, rfl, rfl⟩, ⟨rfl, rfl, rfl⟩, ⟨rfl, rfl⟩, (fun hh => by subst hh; rw [Nat.beq_refl] at hde; cases hde), ?_, q1, q2, q3, q4, q6, ?_⟩
        · revert ht
          cases tk P t <;> intro ht <;> first | rfl | cases ht
        · unfold oset at q7
          unfold xset
          split at q7
          · exact oopsA_ok hD _ q7
          · exact oopsA_ok hD _ q7
      · cases h
    · cases h
theorem oops_ok [Wd] {P : Program} {D : Orc} (hD : OrcP P D) {ops : Array Oper} : ∀ (l : List Oper) {f : Fr} {K : KS} {k : Fr → KS → Option β}, oops P D ops l f K k () = some r → xseq P ops l f K (fun f K => k f K = some r)
  | [], f, K, k, h => h
  | o :: l, f, K, k, h => by
    unfold oops at h
    unfold xseq
    refine xone_eq.2 ?_
    have yes : ∀ {f}, oop P D o.op f K (fun v K' => oset o.dst v f (fun f => oops P D ops l f K' k ()) ()) () = some r → xopP P o.op f K (fun v K' => xseq P ops l (updO f o.dst v) K' (fun f K => k f K = some r)) () := fun {f} h =>
      xopP_mono (oop_ok hD h) fun v K' h => oops_ok hD l (by
        unfold oset at h
        unfold updO
        cases hd : o.dst with
        | none => simp only [hd] at h; exact h
        | some d => simp only [hd] at h; exact h)
    have no : ∀ {f}, oset o.dst (.tup []) f (fun f => oops P D ops l f K k ()) () = some r → xseq P ops l (updO f o.dst (.tup [])) K (fun f K => k f K = some r) := fun {f} h => oops_ok hD l (by
        unfold oset at h
        unfold updO
        cases hd : o.dst with
        | none => simp only [hd] at h; exact h
        | some d => simp only [hd] at h; exact h)
    unfold gd
    split at h
    · rename_i hg; simp only [hg]; exact yes h
    · rename_i j want hg
      simp only [hg]
      unfold ogd at h
      split at h
      · rename_i d hj
        simp only [hj]
        split at h
        · rename_i b hb
          simp only [hb]
          have e1 : up f d (.b b) = f := up_self f d _ hb
          cases b <;> cases want <;> simp at h ⊢ <;> rw [e1] at h
          · exact yes h
          · exact no h
          · exact no h
          · exact yes h
        · rename_i hb
          simp only [hb]
          exact no h
        · cases h
      · cases h
theorem oopB_ok [Wd] {vs : List Nat} {P : Program} {D : Orc} (hD : OrcP P D) {o : Op} {f : Fr} {K : KS} {k : AV → KS → Option β} {k' : AV → KS → Prop} {l} (h : oopB vs P D o f K k l = some r) (hk : ∀ v K, k v K = some r → k' v K) : xopV vs P o f K k' := by
  have key : (∃ g args ts, o = .call ⟨.value (.func g), args, ts⟩) ∨ (vOp vs o = false ∧ oopB vs P D o f K k l = oop P D o f K k ()) := by
    cases o with
    | call c =>
      obtain ⟨cal, args, ts⟩ := c
      cases cal with
      | value x =>
        cases x with
        | func g => exact .inl ⟨g, args, ts, rfl⟩
        | _ => exact .inr ⟨rfl, rfl⟩
      | _ => exact .inr ⟨rfl, rfl⟩
    | _ => exact .inr ⟨rfl, rfl⟩
  unfold xopV
  rcases key with ⟨g, args, ts, rfl⟩ | ⟨hv, he⟩
  · have h : cond (vs.contains g) (oopA P D (.call ⟨.value (.func g), args, ts⟩) f K k ()) (oop P D (.call ⟨.value (.func g), args, ts⟩) f K k ()) = some r := h
    have hv : vOp vs (.call ⟨.value (.func g), args, ts⟩) = vs.contains g := rfl
    rw [hv]
    cases hc : vs.contains g with
    | true =>
      rw [hc] at h
      rw [if_pos rfl]
      exact oopA_ok (l := ()) hD h hk
    | false =>
      rw [hc] at h
      rw [if_neg (by simp)]
      exact xopP_mono (oop_ok (l := ()) hD h) hk
  · rw [he] at h
    rw [hv, if_neg (by simp)]
    exact xopP_mono (oop_ok (l := ()) hD h) hk
theorem oopsB_ok [Wd] {vs : List Nat} {P : Program} {D : Orc} (hD : OrcP P D) {ops : Array Oper} : ∀ (l : List Oper) {f : Fr} {K : KS} {k : Fr → KS → Option β}, oopsB vs P D ops l f K k () = some r → xseqV vs P ops l f K (fun f K => k f K = some r)
  | [], f, K, k, h => h
  | o :: l, f, K, k, h => by
    unfold oopsB at h
    unfold xseqV xoneV
    have yes : ∀ {f}, oopB vs P D o.op f K (fun v K' => oset o.dst v f (fun f => oopsB vs P D ops l f K' k ()) ()) () = some r → xopV vs P o.op f K (fun v K' => xseqV vs P ops l (updO f o.dst v) K' (fun f K => k f K = some r)) := fun {f} h =>
      oopB_ok hD h fun v K' h => oopsB_ok hD l (by
        unfold oset at h
        unfold updO
        cases hd : o.dst with
        | none => simp only [hd] at h; exact h
        | some d => simp only [hd] at h; exact h)
    have no : ∀ {f}, oset o.dst (.tup []) f (fun f => oopsB vs P D ops l f K k ()) () = some r → xseqV vs P ops l (updO f o.dst (.tup [])) K (fun f K => k f K = some r) := fun {f} h => oopsB_ok hD l (by
        unfold oset at h
        unfold updO
        cases hd : o.dst with
        | none => simp only [hd] at h; exact h
        | some d => simp only [hd] at h; exact h)
    unfold gd
    split at h
    · rename_i hg; simp only [hg]; exact yes h
    · rename_i j want hg
      simp only [hg]
      unfold ogd at h
      split at h
      · rename_i d hj
        simp only [hj]
        split at h
        · rename_i b hb
          simp only [hb]
          have e1 : up f d (.b b) = f := up_self f d _ hb
          cases b <;> cases want <;> simp at h ⊢ <;> rw [e1] at h
          · exact yes h
          · exact no h
          · exact no h
          · exact yes h
        · rename_i hb
          simp only [hb]
          exact no h
        · cases h
      · cases h
theorem xops_seq [Wd] {P : Program} {ops : Array Oper} : ∀ (l : List Oper) {f : Fr} {K : KS} {k : Fr → KS → Prop}, xseq P ops l f K k → xops P ops l f K k ()
  | [], f, K, k, h => h
  | o :: l, f, K, k, h => by
    unfold xseq xone at h
    unfold xops
    have st : ∀ {f : Fr} {K : KS} {d : Option Tmp} {v : AV}, xset d v f (fun f => xseq P ops l f K k) () → xset d v f (fun f => xops P ops l f K k ()) () := fun {f K d v} h => by
      rw [xset_eq] at h ⊢; exact xops_seq l h
    have yes : ∀ {f}, xopP P o.op f K (fun v K' => xset o.dst v f (fun f => xseq P ops l f K' k) ()) () → xop P o.op f K (fun v K' => xset o.dst v f (fun f => xops P ops l f K' k ()) ()) () := fun {f} h =>
      xopP_xop (xopP_mono h fun v K' h => st h)
    split at h
    · rename_i hg; try simp only [hg]
      exact yes h
    · rename_i j want hg
      try simp only [hg]
      unfold xgd at h ⊢
      split at h
      · rename_i d hj
        try simp only [hj]
        split at h
        · rename_i b hb
          unfold XBr at h ⊢
          refine ⟨fun hx => ?_, fun hx => ?_⟩
          · have := h.1 hx
            cases want
            · exact st this
            · exact yes this
          · have := h.2 hx
            cases want
            · exact yes this
            · exact st this
        · rename_i hb
          exact st h
        · exact h.elim
      · exact h.elim
end
end Go.Proofs.YtkbilciipmijjaaGreatDoor.Am
