/- Two functions of the library, told by the kit's contracts: what they return, and that they write nothing that was there. The table of tens is known to lie in the world. -/
import Derived.Test.YtkbilciipmijjaaGreatDoorSh
import Derived.Test.YtkbilciipmijjaaGreatDoorEc
import Derived.Test.YtkbilciipmijjaaGreatDoorEvD
import Derived.MakeChecks
import Derived.Shelf.Unicode.PredsPay
import Derived.Stop.LaidErr
namespace Go.Proofs.YtkbilciipmijjaaGreatDoor
open Go Go.Proofs Go.Proofs.YtkbilciipmijjaaGreatDoor.Am
set_option linter.unusedVariables false
set_option linter.unusedSimpArgs false
theorem gTens : Tryz.prog.globalNamed "internal/strconv.uint64pow10" = some 0 := by kernel_rfl
instance wd0 : Wd := ⟨fun w => Lib.TabIs Tryz.prog w "internal/strconv.uint64pow10" .u64 Lib.pow10Tab, fun he h => TabIs_below gTens h (he.below (fun _ h => h))⟩
theorem ext_grow (w : World) (k : Nat) (os : Array Obj) : Ext FF w (Sort.grow (w.drewN k) os) := by
  have hb : Go.RowKit.Below w.heap.size w (Sort.grow (w.drewN k) os) := by
    refine ⟨rfl, rfl, rfl, ?_, fun b hb => ?_⟩
    · show w.heap.size ≤ (w.heap ++ os).size
      simp
    · show (w.heap ++ os)[b]? = w.heap[b]?
      rw [Array.getElem?_append_left hb]
  exact Ext.of_below hb _
theorem pc_itoa (x : Int) (h0 : -9223372036854775808 ≤ x) (h1 : x ≤ 9223372036854775807) : PC Tryz.prog 25 [.i .i64 x] (· = .s (Lib.itoa x)) := by
  refine ⟨EnterOK.of (fn := Tryz.f25) Tryz.func25 rfl (by decide), fun w vs hI hX => ?_⟩
  simp only [XRs, XR] at hX
  obtain ⟨v, vs', n1, n2, rfl, hn, ⟨rfl, _⟩, rfl, _⟩ := hX
  refine Calls.mono (Tryz.strconv_Itoa x h0 h1 w hI) ?_
  rintro e w' ⟨rfl, k, os, rfl⟩
  exact ⟨_, _, [], rfl, rfl, by simp [XR], List.nodup_nil, by simp, ext_grow w k os⟩
theorem strs_cells {w : World} {O : Nat → Prop} {E : EI} : ∀ {l : List (List UInt8)} {bl off : Nat} {nb : List Nat}, RR w O E 1 bl off (l.map c_s) nb →
    ∀ (j : Nat) x, (l.map fun x => (⟨x.toArray⟩ : ByteArray))[j]? = some x → w.cell? ⟨bl, off + j, none⟩ = some (.string x)
  | [], bl, off, nb, _, j, x, hj => by simp at hj
  | y :: l, bl, off, nb, h, j, x, hj => by
    simp only [List.map_cons, e_c_s, RR, CR, XR] at h
    obtain ⟨n1, n2, _, _, ⟨v, m1, m2, ⟨hv, _⟩, _, ⟨rfl, _⟩, _⟩, hrr⟩ := h
    cases j with
    | zero =>
      simp only [List.map_cons, List.getElem?_cons_zero, Option.some.injEq] at hj
      subst hj
      simpa using hv
    | succ j =>
      have := strs_cells hrr j x (by simpa using hj)
      rw [show off + (j + 1) = off + 1 + j by omega]
      exact this
theorem pc_join (l : List (List UInt8)) (s : List UInt8) (h0 : l.length ≤ 140737488355328) (h1 : (Lib.join l s).length ≤ 140737488355328) : PC Tryz.prog 27 [.imm 1 (l.map c_s), .s s] (· = .s (Lib.join l s)) := by
  refine ⟨EnterOK.of (fn := Tryz.f27) Tryz.func27 rfl (by decide), fun w vs hI hX => ?_⟩
  obtain ⟨v, vs', n1, n2, rfl, hn, ⟨_, a, cap, rfl, hcap, hr⟩, hX2⟩ := hX
  simp only [XRs, XR] at hX2
  obtain ⟨v', vs'', n1', n2', rfl, hn', ⟨rfl, _⟩, rfl, _⟩ := hX2
  rw [List.length_map] at hcap ⊢
  rcases hr with hr | ⟨bl, off, rfl, _, hbl, hrr⟩
  · have hl : l = [] := by simpa using hr
    subst hl
    refine Calls.mono (Tryz.strings_Join_none a cap ⟨s.toArray⟩ w) ?_
    rintro e w' ⟨rfl, rfl⟩
    exact ⟨_, _, [], rfl, rfl, by simp [XR, Lib.join_nil], List.nodup_nil, by simp, Ext.refl _ _⟩
  · have hm : (l.map fun x => (⟨x.toArray⟩ : ByteArray)).map (·.data.toList) = l := by
      rw [List.map_map]
      exact (congrArg (fun f => l.map f) (show ((fun b : ByteArray => b.data.toList) ∘ fun x : List UInt8 => (⟨x.toArray⟩ : ByteArray)) = id from rfl)).trans (List.map_id l)
    have hlen : (l.map fun x => (⟨x.toArray⟩ : ByteArray)).length = l.length := by simp
    have hc := Tryz.strings_Join bl off cap (l.map fun x => ⟨x.toArray⟩) ⟨s.toArray⟩ w (strs_cells hrr) hbl (by rw [hlen]; exact h0) (by rw [hlen]; exact hcap) (by rw [hm]; exact h1)
    rw [hm, hlen] at hc
    refine Calls.mono hc ?_
    rintro e w' ⟨rfl, hb⟩
    exact ⟨_, _, [], rfl, rfl, by simp [XR], List.nodup_nil, by simp, Ext.of_below hb _⟩
theorem strsOf_eq : ∀ {R : List (List AV)} {l : List (List UInt8)}, strsOf R = some l → R = l.map c_s
  | [], l, h => by injection h with h; subst h; rfl
  | r :: R, l, h => by
    unfold strsOf at h
    split at h
    · rename_i he; cases he
    · rename_i x r' he
      injection he with e1 e2
      subst e1 e2
      obtain ⟨l', h1, h2⟩ := Option.map_eq_some_iff.1 h
      subst h2
      rw [strsOf_eq h1]
      rfl
    · cases h
theorem need_some' {β : Type} {b : Bool} {q : Option β} {l} {r : β} (h : need b q l = some r) : b = true ∧ q = some r := by
  cases b with
  | false => cases h
  | true => exact ⟨rfl, h⟩
theorem T_xt : ∀ g args x, T.xt g args = some x → PC T.P g args (· = x) := by
  intro g args x h
  have h' : xt g args = some x := h
  show PC Tryz.prog g args (· = x)
  unfold xt at h'
  split at h'
  · rename_i R s
    split at h'
    · rename_i hg
      subst hg
      obtain ⟨l, h1, h2⟩ := Option.bind_eq_some_iff.1 h'
      obtain ⟨r, h3, h4⟩ := Option.map_eq_some_iff.1 h2
      unfold strings_Join at h3
      obtain ⟨h5, h6⟩ := need_some' h3
      injection h6 with h6
      simp only [Bool.and_eq_true, decide_eq_true_eq] at h5
      rw [strsOf_eq h1]
      exact (pc_join l s h5.1 h5.2).mono fun y hy => by rw [hy, ← h4, ← h6]
    · cases h'
  · rename_i x'
    split at h'
    · rename_i hg
      subst hg
      obtain ⟨r, h3, h4⟩ := Option.map_eq_some_iff.1 h'
      unfold strconv_Itoa at h3
      obtain ⟨h5, h6⟩ := need_some' h3
      injection h6 with h6
      simp only [Bool.and_eq_true, decide_eq_true_eq] at h5
      exact (pc_itoa x' h5.1 h5.2).mono fun y hy => by rw [hy, ← h4, ← h6]
    · cases h'
  · cases h'
end Go.Proofs.YtkbilciipmijjaaGreatDoor
