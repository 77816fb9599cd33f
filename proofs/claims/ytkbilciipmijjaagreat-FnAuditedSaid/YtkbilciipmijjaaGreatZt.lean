import Derived.Test.YtkbilciipmijjaaGreatZs
import Derived.Test.YtkbilciipmijjaaGreatSt
import Derived.Test.YtkbilciipmijjaaGreatSg
import Derived.Test.YtkbilciipmijjaaGreatEc
namespace Go.Proofs.YtkbilciipmijjaaGreat
open Go Go.Proofs Go.Proofs.YtkbilciipmijjaaGreat.Am
set_option linter.unusedVariables false
set_option linter.unusedSimpArgs false
set_option maxRecDepth 100000
instance wd0 : Wd := ⟨fun _ => True, fun _ _ => trivial⟩
theorem Qto : SortP Tryz.prog 82 :=
 SortP.of (EnterOK.of (fn := Tryz.f82) Tryz.func82 rfl (by decide)) (fun blk off cap zs w h1 h2 h3 => Tryz.slices_Sort_int blk off cap zs w h1 h2 h3) (fun p cap w => Tryz.slices_Sort_int_none p cap w)
theorem QNz : ∀ g, T.st g = true → SortP T.P g := by
 intro g h
 have h' : Nat.beq g 82 = true := h
 have hg : g = 82 := Nat.eq_of_beq_eq_true h'
 subst hg
 exact Qto
theorem Qtx : CompP Tryz.prog 220 :=
 CompP.of (EnterOK.of (fn := Tryz.f220) Tryz.func220 rfl (by decide)) (fun blk off cap zs w h1 h2 h3 => Tryz.slices_Compact_int blk off cap zs w h1 h2 h3) (fun p cap w => Tryz.slices_Compact_int_empty p cap w)
theorem QLN : ∀ g, T.qt g = true → CompP T.P g := by
 intro g h
 have h' : Nat.beq g 220 = true := h
 have hg : g = 220 := Nat.eq_of_beq_eq_true h'
 subst hg
 exact Qtx
theorem Qtj (x : Int) (h0 : 0 ≤ x) (h1 : x ≤ 17592186044416) : PC Tryz.prog 277 [.nil, .i .i64 x] (· = .own 1 []) :=
 Qyr (EnterOK.of (fn := Tryz.f277) Tryz.func277 rfl (by decide)) (fun base l c n w h1 h2 h3 h4 => Any8.slices_Grow_room Tryz.growI base l c n w h1 h2 h3 h4)
  (fun base l c n cs w h1 h2 h3 h4 h5 h6 h7 => Calls.mono (Any8.slices_Grow_grow Tryz.growI _ (.int .i64 0) rfl rfl (by decide) base l c n cs w h1 h2 h3 h4 h5 h6 h7) fun e w' h => ⟨_, h⟩) x h0 h1
theorem QL9 : ∀ g args x, T.xt g args = some x → PC T.P g args (· = x) := by
 intro g args x h0
 have h : xt g args = some x := h0
 clear h0
 unfold xt at h
 split at h
 ·rename_i y
  split at h
  ·rename_i hg
   subst hg
   unfold J8 nd at h
   have hb : (decide (0 ≤ y) && decide (y ≤ 17592186044416)) = true := by
    cases hc : (decide (0 ≤ y) && decide (y ≤ 17592186044416)) with
    | true => rfl
    | false => rw [hc] at h; cases h
   rw [hb] at h
   simp only [Bool.and_eq_true, decide_eq_true_eq] at hb
   injection h with h
   subst h
   exact Qtj y hb.1 hb.2
  ·cases h
 ·cases h
end Go.Proofs.YtkbilciipmijjaaGreat
