/- Loops over lists, plainly. No condition. -/
import Derived.Test.YtkbilciipmijjaaGreatDoorPw
namespace Go.Proofs.YtkbilciipmijjaaGreatDoor
open Go
set_option linter.unusedVariables false
set_option linter.unusedSimpArgs false
section
variable {α β γ σ ρ S : Type}
theorem lt_ln {l : List α} {i : Nat} (h : i < l.length) : decide ((i : Int) < ln l) = true := by unfold ln; simp; omega
theorem ge_ln {l : List α} {i : Nat} (h : l.length ≤ i) : decide ((i : Int) < ln l) = false := by unfold ln; simp; omega
theorem inb_n {l : List α} {i : Nat} (h : i < l.length) : inb l (i : Int) = true := by rw [inb_iff]; omega
theorem gt_n [Inhabited α] {l : List α} {i : Nat} (h : i < l.length) : gt l (i : Int) = l[i] := by
  unfold gt; simp [List.getD_eq_getElem?_getD, h]
theorem w64_n {i : Nat} (h : (i : Int) < 9223372036854775807) : w64 ((i : Int) + 1) = ((i + 1 : Nat) : Int) := by rw [w64_in] <;> omega
theorem ln_eq (l : List α) : ln l = (l.length : Int) := rfl
theorem b_and (a b : Bool) : (bif a then some b else some false) = some (a && b) := by cases a <;> rfl
theorem b_or (a b : Bool) : (bif a then some true else some b) = some (a || b) := by cases a <;> rfl
theorem b_nand (a b : Bool) : (bif a then some false else some b) = some (!a && b) := by cases a <;> rfl
/-- A loop over a list, from its i-th element on. -/
def loopI (body : Nat → σ → α → Option (σ ⊕ ρ)) (fin : σ → Option ρ) : Nat → List α → σ → Option ρ
  | _, [], s => fin s
  | i, x :: xs, s => (body i s x).bind fun o => match o with | .inl s' => loopI body fin (i + 1) xs s' | .inr r => some r
theorem run_from (l : List α) {step : S → Option (S ⊕ ρ)} {enc : Nat → σ → S} {body : Nat → σ → α → Option (σ ⊕ ρ)} {fin : σ → Option ρ}
    (h1 : ∀ (i : Nat) (s : σ) (h : i < l.length), step (enc i s) = (body i s l[i]).map (Sum.map (enc (i + 1)) id)) (h2 : ∀ s, step (enc l.length s) = (fin s).map .inr) :
    ∀ (m i : Nat) (s : σ), i + m = l.length → run step (enc i s) = loopI body fin i (l.drop i) s := by
  intro m
  induction m with
  | zero =>
    intro i s hi
    have : i = l.length := by omega
    subst this
    rw [run_eq, h2, List.drop_length, loopI]
    cases fin s <;> rfl
  | succ m ih =>
    intro i s hi
    have hlt : i < l.length := by omega
    rw [run_eq, h1 i s hlt, List.drop_eq_getElem_cons hlt, loopI]
    cases body i s l[i] with
    | none => rfl
    | some o =>
      cases o with
      | inl s' => exact ih (i + 1) s' (by omega)
      | inr r => rfl
theorem run_loop (l : List α) {step : S → Option (S ⊕ ρ)} (enc : Nat → σ → S) (body : Nat → σ → α → Option (σ ⊕ ρ)) (fin : σ → Option ρ) (s : σ)
    (h1 : ∀ (i : Nat) (s : σ) (h : i < l.length), step (enc i s) = (body i s l[i]).map (Sum.map (enc (i + 1)) id)) (h2 : ∀ s, step (enc l.length s) = (fin s).map .inr) :
    run step (enc 0 s) = loopI body fin 0 l s := by
  have := run_from l h1 h2 l.length 0 s (by omega)
  simpa using this
/-- A loop that is never left early. -/
theorem loopI_fold {body : Nat → σ → α → Option (σ ⊕ ρ)} {fin : σ → Option ρ} {g : σ → α → σ} : ∀ (l : List α) (i : Nat) (s : σ), (∀ i s x, x ∈ l → body i s x = some (.inl (g s x))) → loopI body fin i l s = fin (l.foldl g s)
  | [], i, s, h => rfl
  | x :: l, i, s, h => by
    rw [loopI, h i s x (by simp)]
    exact loopI_fold l (i + 1) (g s x) fun i s y hy => h i s y (by simp [hy])
/-- A loop that asks each element. -/
theorem loopI_all {body : Nat → Unit → α → Option (Unit ⊕ ρ)} {fin : Unit → Option ρ} {p : α → Bool} {r : ρ} : ∀ (l : List α) (i : Nat), (∀ i x, x ∈ l → body i () x = some (if p x then .inl () else .inr r)) → loopI body fin i l () = if l.all p then fin () else some r
  | [], i, h => rfl
  | x :: l, i, h => by
    rw [loopI, h i x (by simp)]
    cases hp : p x with
    | true =>
      have := loopI_all (p := p) (r := r) (fin := fin) l (i + 1) fun i y hy => h i y (by simp [hy])
      simp only [List.all_cons, hp, Bool.true_and, if_true]
      exact this
    | false => simp [hp]
theorem loopI_congr {body body' : Nat → σ → α → Option (σ ⊕ ρ)} {fin : σ → Option ρ} : ∀ (l : List α) (i : Nat) (s : σ), (∀ i s x, x ∈ l → body i s x = body' i s x) → loopI body fin i l s = loopI body' fin i l s
  | [], i, s, h => rfl
  | x :: l, i, s, h => by
    rw [loopI, loopI, h i s x (by simp)]
    cases body' i s x with
    | none => rfl
    | some o =>
      cases o with
      | inl s' => exact loopI_congr l (i + 1) s' fun i s y hy => h i s y (by simp [hy])
      | inr r => rfl
theorem loopI_some {body : Nat → σ → α → Option (σ ⊕ ρ)} {fin : σ → Option ρ} (hf : ∀ s, ∃ r, fin s = some r) : ∀ (l : List α) (i : Nat) (s : σ), (∀ i s x, x ∈ l → ∃ o, body i s x = some o) → ∃ r, loopI body fin i l s = some r
  | [], i, s, h => hf s
  | x :: l, i, s, h => by
    obtain ⟨o, ho⟩ := h i s x (by simp)
    rw [loopI, ho]
    cases o with
    | inl s' => exact loopI_some hf l (i + 1) s' fun i s y hy => h i s y (by simp [hy])
    | inr r => exact ⟨r, rfl⟩
theorem loopI_two {body : Nat → Unit → α → Option (Unit ⊕ ρ)} {fin : Unit → Option ρ} {r0 r1 : ρ} (hf : fin () = some r1) : ∀ (l : List α) (i : Nat), (∀ j x, i ≤ j → l[j - i]? = some x → body j () x = some (.inl ()) ∨ body j () x = some (.inr r0)) → loopI body fin i l () = some r0 ∨ loopI body fin i l () = some r1
  | [], i, h => .inr hf
  | x :: l, i, h => by
    rw [loopI]
    rcases h i x (Nat.le_refl _) (by simp) with h1 | h1
    · rw [h1]
      exact loopI_two hf l (i + 1) fun j y hj hy => h j y (by omega) (by rw [show j - i = (j - (i + 1)) + 1 by omega]; simpa using hy)
    · rw [h1]; exact .inl rfl
/-- A list filled from the left. -/
theorem fill_step (f : α → β) (l : List α) (d : β) (i : Nat) (h : i < l.length) : ((l.take i).map f ++ List.replicate (l.length - i) d).set i (f l[i]) = (l.take (i + 1)).map f ++ List.replicate (l.length - (i + 1)) d := by
  have hl : ((l.take i).map f).length = i := by simp; omega
  rw [List.set_append_right _ _ (by omega), hl, Nat.sub_self]
  obtain ⟨m, hm⟩ : ∃ m, l.length - i = m + 1 := ⟨l.length - i - 1, by omega⟩
  rw [hm, List.replicate_succ, List.set_cons_zero, List.take_succ_eq_append_getElem h, List.map_append]
  simp
  omega
/-- A new slice, each element made out of one that is given. -/
theorem run_fill (l : List α) (f : α → β) (d : β) {step : List β × Int → Option ((List β × Int) ⊕ List β)} (hmax : (l.length : Int) ≤ 9223372036854775807)
    (h1 : ∀ (i : Nat) (out : List β) (h : i < l.length), out.length = l.length → step (out, (i : Int)) = some (.inl (out.set i (f l[i]), ((i + 1 : Nat) : Int)))) (h2 : ∀ out, step (out, (l.length : Int)) = some (.inr out)) :
    run step (List.replicate l.length d, 0) = some (l.map f) := by
  have key : ∀ (m i : Nat), i + m = l.length → run step ((l.take i).map f ++ List.replicate (l.length - i) d, (i : Int)) = some (l.map f) := by
    intro m
    induction m with
    | zero =>
      intro i hi
      have : i = l.length := by omega
      subst this
      rw [run_eq, h2]
      simp
    | succ m ih =>
      intro i hi
      rw [run_eq, h1 i _ (by omega) (by simp; omega), fill_step f l d i (by omega)]
      exact ih (i + 1) (by omega)
  have := key l.length 0 (by omega)
  simpa using this
/-- A loop by its states one after the other. -/
theorem run_traj {step : S → Option (S ⊕ ρ)} (st : Nat → S) {r : ρ} : ∀ (n : Nat), (∀ i, i < n → step (st i) = some (.inl (st (i + 1)))) → step (st n) = some (.inr r) → run step (st 0) = some r := by
  have key : ∀ (n : Nat) (st : Nat → S), (∀ i, i < n → step (st i) = some (.inl (st (i + 1)))) → step (st n) = some (.inr r) → run step (st 0) = some r := by
    intro n
    induction n with
    | zero => intro st _ h2; rw [run_eq, h2]; rfl
    | succ n ih =>
      intro st h1 h2
      rw [run_eq, h1 0 (by omega)]
      exact ih (fun i => st (i + 1)) (fun i hi => h1 (i + 1) (by omega)) h2
  intro n
  exact key n st
/-- A loop that picks elements. -/
theorem run_filter (l : List α) (p : α → Bool) (f : α → β) {step : List β × Int → Option ((List β × Int) ⊕ List β)}
    (h1 : ∀ (i : Nat) (out : List β) (h : i < l.length), out.length ≤ i → step (out, (i : Int)) = some (.inl (bif p l[i] then out ++ [f l[i]] else out, ((i + 1 : Nat) : Int)))) (h2 : ∀ out, step (out, (l.length : Int)) = some (.inr out)) :
    run step ([], 0) = some ((l.filter p).map f) := by
  have := run_traj (step := step) (fun i => (((l.take i).filter p).map f, (i : Int))) (r := (l.filter p).map f) l.length (fun i hi => by
    rw [h1 i _ hi (by have := List.length_filter_le p (l.take i); simp only [List.length_map]; have h3 := List.length_take_le i l; omega)]
    congr 2
    rw [List.take_succ_eq_append_getElem hi, List.filter_append, List.map_append]
    cases hp : p l[i] <;> simp [hp]) (by rw [h2]; simp)
  simpa using this
/-- A loop that looks for the first of a kind. -/
theorem run_find (l : List α) (p : α → Bool) (g : Nat → ρ) {step : Int → Option (Int ⊕ (Fl ρ Unit))}
    (h1 : ∀ (i : Nat) (h : i < l.length), step (i : Int) = some (bif p l[i] then .inr (.ret (g i)) else .inl ((i + 1 : Nat) : Int))) (h2 : step (l.length : Int) = some (.inr (.brk ()))) :
    run step 0 = some (match l.findIdx? p with | some i => .ret (g i) | none => .brk ()) := by
  have key : ∀ (m i : Nat), i + m = l.length → run step (i : Int) = some (match (l.drop i).findIdx? p with | some k => .ret (g (i + k)) | none => .brk ()) := by
    intro m
    induction m with
    | zero =>
      intro i hi
      have : i = l.length := by omega
      subst this
      rw [run_eq, h2, List.drop_length]; rfl
    | succ m ih =>
      intro i hi
      have hlt : i < l.length := by omega
      rw [run_eq, h1 i hlt, List.drop_eq_getElem_cons hlt, List.findIdx?_cons]
      cases hp : p l[i] with
      | true => simp
      | false =>
        have := ih (i + 1) (by omega)
        simp only [cond_false, Option.bind_some]
        rw [this]
        cases (l.drop (i + 1)).findIdx? p with
        | none => simp
        | some k =>
          have e : i + 1 + k = i + (k + 1) := by omega
          simp [e]
  have := key l.length 0 (by omega)
  simpa using this
theorem find_at {l : List α} {p : α → Bool} {i : Nat} (h : l.findIdx? p = some i) : ∃ hi : i < l.length, p l[i] = true := by
  obtain ⟨hi, hp, _⟩ := List.findIdx?_eq_some_iff_getElem.1 h
  exact ⟨hi, hp⟩
/-- Two lists alike, element by element. -/
def eqL (f : α → α → Bool) : List α → List α → Bool
  | [], [] => true
  | x :: xs, y :: ys => f x y && eqL f xs ys
  | _, _ => false
theorem eqL_len {f : α → α → Bool} : ∀ {a b : List α}, eqL f a b = true → a.length = b.length
  | [], [], _ => rfl
  | _ :: a, _ :: b, h => by
    simp only [eqL, Bool.and_eq_true] at h
    simp [eqL_len h.2]
  | [], _ :: _, h => by cases h
  | _ :: _, [], h => by cases h
theorem eqL_ne {f : α → α → Bool} {a b : List α} (h : a.length ≠ b.length) : eqL f a b = false := by
  cases he : eqL f a b with
  | false => rfl
  | true => exact absurd (eqL_len he) h
theorem run_eqL (a b : List α) (f : α → α → Bool) {step : Int → Option (Int ⊕ (Fl Bool Unit))} (hl : a.length = b.length)
    (h1 : ∀ (i : Nat) (h : i < a.length) (h' : i < b.length), step (i : Int) = some (bif !(f a[i] b[i]) then .inr (.ret false) else .inl ((i + 1 : Nat) : Int))) (h2 : step (a.length : Int) = some (.inr (.brk ()))) :
    run step 0 = some (bif eqL f a b then .brk () else .ret false) := by
  have key : ∀ (m i : Nat), i + m = a.length → run step (i : Int) = some (bif eqL f (a.drop i) (b.drop i) then .brk () else .ret false) := by
    intro m
    induction m with
    | zero =>
      intro i hi
      have : i = a.length := by omega
      subst this
      rw [run_eq, h2, List.drop_length, hl, List.drop_length]; rfl
    | succ m ih =>
      intro i hi
      have hlt : i < a.length := by omega
      have hlt' : i < b.length := by omega
      rw [run_eq, h1 i hlt hlt', List.drop_eq_getElem_cons hlt, List.drop_eq_getElem_cons hlt', eqL]
      cases hp : f a[i] b[i] with
      | false => simp
      | true =>
        have := ih (i + 1) (by omega)
        simp only [Bool.not_true, cond_false, Option.bind_some, Bool.true_and]
        exact this
  have := key a.length 0 (by omega)
  simpa using this
/-- A loop that asks every element. -/
theorem run_all (l : List α) (p : α → Bool) {r : ρ} {step : Int → Option (Int ⊕ (Fl ρ Unit))}
    (h1 : ∀ (i : Nat) (h : i < l.length), step (i : Int) = some (bif p l[i] then .inl ((i + 1 : Nat) : Int) else .inr (.ret r))) (h2 : step (l.length : Int) = some (.inr (.brk ()))) :
    run step 0 = some (bif l.all p then .brk () else .ret r) := by
  have hr := run_find l (fun x => !p x) (fun _ => r) (step := step) (fun i h => by rw [h1 i h]; cases p l[i] <;> rfl) h2
  rw [hr]
  cases hf : l.findIdx? (fun x => !p x) with
  | none =>
    have : l.all p = true := by
      rw [List.all_eq_true]
      intro x hx
      have := List.findIdx?_eq_none_iff.1 hf x hx
      simpa using this
    rw [this]; rfl
  | some i =>
    obtain ⟨hi, hp⟩ := find_at hf
    have : l.all p = false := by
      rw [List.all_eq_false]
      exact ⟨_, List.getElem_mem hi, by simpa using hp⟩
    rw [this]; rfl
theorem all_not (p : α → Bool) : ∀ (l : List α), l.all (fun x => !p x) = !l.any p
  | [] => rfl
  | x :: l => by rw [List.all_cons, List.any_cons, all_not p l, Bool.not_or]
/-- A loop that looks whether there is one. -/
theorem run_any (l : List α) (p : α → Bool) {r : ρ} {step : Int → Option (Int ⊕ (Fl ρ Unit))}
    (h1 : ∀ (i : Nat) (h : i < l.length), step (i : Int) = some (bif p l[i] then .inr (.ret r) else .inl ((i + 1 : Nat) : Int))) (h2 : step (l.length : Int) = some (.inr (.brk ()))) :
    run step 0 = some (bif l.any p then .ret r else .brk ()) := by
  have hr := run_all l (fun x => !p x) (r := r) (step := step) (fun i h => by rw [h1 i h]; cases p l[i] <;> rfl) h2
  rw [hr]
  rw [all_not]
  cases l.any p <;> rfl
theorem itr_congr {f g : S → Option (S ⊕ ρ)} (I : S → Prop) (h : ∀ s, I s → f s = g s) (hI : ∀ s s', I s → g s = some (.inl s') → I s') : ∀ (n : Nat) (s : S), I s → itr f n s = itr g n s
  | 0, s, hs => rfl
  | n + 1, s, hs => by
    simp only [itr, h s hs]
    cases hg : g s with
    | none => rfl
    | some o =>
      cases o with
      | inl s' => exact itr_congr I h hI n s' (hI s s' hs hg)
      | inr r => rfl
/-- Two loops whose rounds are alike. -/
theorem run_congr {f g : S → Option (S ⊕ ρ)} (I : S → Prop) (h : ∀ s, I s → f s = g s) (hI : ∀ s s', I s → g s = some (.inl s') → I s') {s : S} (hs : I s) : run f s = run g s := by
  apply Option.ext
  intro r
  rw [run_some, run_some]
  constructor
  · rintro ⟨n, hn⟩; exact ⟨n, by rw [← itr_congr I h hI n s hs]; exact hn⟩
  · rintro ⟨n, hn⟩; exact ⟨n, by rw [itr_congr I h hI n s hs]; exact hn⟩
/-- A loop that counts comes to an end. -/
theorem run_ends {step : S → Option (S ⊕ ρ)} (st : Nat → S → Prop) (n : Nat) (h1 : ∀ i s, i < n → st i s → (∃ r, step s = some (.inr r)) ∨ ∃ s', step s = some (.inl s') ∧ st (i + 1) s') (h2 : ∀ s, st n s → ∃ r, step s = some (.inr r)) :
    ∀ (m i : Nat) (s : S), i + m = n → st i s → ∃ r, run step s = some r
  | 0, i, s, hi, hs => by
    obtain ⟨r, hr⟩ := h2 s (by rw [← hi]; exact hs)
    exact ⟨r, by rw [run_eq, hr]; rfl⟩
  | m + 1, i, s, hi, hs => by
    rcases h1 i s (by omega) hs with ⟨r, hr⟩ | ⟨s', hs', h3⟩
    · exact ⟨r, by rw [run_eq, hr]; rfl⟩
    · obtain ⟨r, hr⟩ := run_ends st n h1 h2 m (i + 1) s' (by omega) h3
      exact ⟨r, by rw [run_eq, hs']; exact hr⟩
/-- A loop that is left at its end has gone through every round. -/
theorem run_through {α β : Type} {step : S → Option (S ⊕ (Fl α β))} (st : Nat → S → Prop) (n : Nat) (b : β) (h1 : ∀ i s, i < n → st i s → (∃ r, step s = some (.inr (.ret r))) ∨ ∃ s', step s = some (.inl s') ∧ st (i + 1) s') :
    ∀ (m i : Nat) (s : S), i + m = n → st i s → run step s = some (.brk b) → ∀ j, i ≤ j → j < n → ∃ s s', st j s ∧ step s = some (.inl s')
  | 0, i, s, hi, hs, hr, j, hij, hj => by omega
  | m + 1, i, s, hi, hs, hr, j, hij, hj => by
    rw [run_eq] at hr
    rcases h1 i s (by omega) hs with ⟨r, hr'⟩ | ⟨s', hs', h3⟩
    · rw [hr'] at hr; simp at hr
    · by_cases hji : i = j
      · subst hji; exact ⟨s, s', hs, hs'⟩
      · rw [hs'] at hr
        exact run_through st n b h1 m (i + 1) s' (by omega) h3 hr j (by omega) hj
end
end Go.Proofs.YtkbilciipmijjaaGreatDoor
