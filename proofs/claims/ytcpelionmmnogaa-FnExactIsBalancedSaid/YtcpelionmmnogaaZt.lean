/- Putting numbers in order, runs made one, and growing, told by the kit's contracts. No condition. -/
import Derived.Test.YtcpelionmmnogaaZs
import Derived.Test.YtcpelionmmnogaaSt
import Derived.Test.YtcpelionmmnogaaSg
import Derived.Test.YtcpelionmmnogaaEc
namespace Go.Proofs.Ytcpelionmmnogaa
open Go Go.Proofs Go.Proofs.Ytcpelionmmnogaa.Am
set_option linter.unusedVariables false
set_option linter.unusedSimpArgs false
set_option maxRecDepth 100000
instance wd0 : Wd := ⟨fun _ => True, fun _ _ => trivial⟩
theorem sort_told : SortP Try.prog 131 :=
  SortP.of (EnterOK.of (fn := Try.f131) Try.func131 rfl (by decide)) (fun blk off cap zs w h1 h2 h3 => Try.slices_Sort_int blk off cap zs w h1 h2 h3) (fun p cap w => Try.slices_Sort_int_none p cap w)
theorem T_st : ∀ g, T.st g = true → SortP T.P g := by
  intro g h
  have h' : Nat.beq g 131 = true := h
  have hg : g = 131 := Nat.eq_of_beq_eq_true h'
  subst hg
  exact sort_told
theorem comp_told : CompP Try.prog 132 :=
  CompP.of (EnterOK.of (fn := Try.f132) Try.func132 rfl (by decide)) (fun blk off cap zs w h1 h2 h3 => Try.slices_Compact_int blk off cap zs w h1 h2 h3) (fun p cap w => Try.slices_Compact_int_empty p cap w)
theorem T_qt : ∀ g, T.qt g = true → CompP T.P g := by
  intro g h
  have h' : Nat.beq g 132 = true := h
  have hg : g = 132 := Nat.eq_of_beq_eq_true h'
  subst hg
  exact comp_told
theorem grow_told (x : Int) (h0 : 0 ≤ x) (h1 : x ≤ 17592186044416) : PC Try.prog 133 [.nil, .i .i64 x] (· = .own 1 []) :=
  pc_grow (EnterOK.of (fn := Try.f133) Try.func133 rfl (by decide)) (fun base l c n w h1 h2 h3 h4 => Any8.slices_Grow_room Try.growI base l c n w h1 h2 h3 h4)
    (fun base l c n cs w h1 h2 h3 h4 h5 h6 h7 => Calls.mono (Any8.slices_Grow_grow Try.growI _ (.int .i64 0) rfl rfl (by decide) base l c n cs w h1 h2 h3 h4 h5 h6 h7) fun e w' h => ⟨_, h⟩) x h0 h1
theorem T_xt : ∀ g args x, T.xt g args = some x → PC T.P g args (· = x) := by
  intro g args x h0
  have h : xt g args = some x := h0
  clear h0
  unfold xt at h
  split at h
  · rename_i y
    split at h
    · rename_i hg
      subst hg
      unfold slices_Grow_int nd at h
      have hb : (decide (0 ≤ y) && decide (y ≤ 17592186044416)) = true := by
        cases hc : (decide (0 ≤ y) && decide (y ≤ 17592186044416)) with
        | true => rfl
        | false => rw [hc] at h; cases h
      rw [hb] at h
      simp only [Bool.and_eq_true, decide_eq_true_eq] at hb
      injection h with h
      subst h
      exact grow_told y hb.1 hb.2
    · cases h
  · cases h
end Go.Proofs.Ytcpelionmmnogaa
