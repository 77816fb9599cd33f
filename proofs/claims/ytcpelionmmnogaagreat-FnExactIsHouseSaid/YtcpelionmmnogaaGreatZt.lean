/- Putting numbers in order, told by the kit's contract. No condition. -/
import Derived.Test.YtcpelionmmnogaaGreatZs
import Derived.Test.YtcpelionmmnogaaGreatSt
import Derived.Test.YtcpelionmmnogaaGreatEc
namespace Go.Proofs.YtcpelionmmnogaaGreat
open Go Go.Proofs Go.Proofs.YtcpelionmmnogaaGreat.Am
set_option linter.unusedVariables false
set_option linter.unusedSimpArgs false
instance wd0 : Wd := ⟨fun _ => True, fun _ _ => trivial⟩
theorem sort_told : SortP Tryz.prog 123 :=
  SortP.of (EnterOK.of (fn := Tryz.f123) Tryz.func123 rfl (by decide)) (fun blk off cap zs w h1 h2 h3 => Tryz.slices_Sort_int blk off cap zs w h1 h2 h3) (fun p cap w => Tryz.slices_Sort_int_none p cap w)
theorem T_st : ∀ g, T.st g = true → SortP T.P g := by
  intro g h
  have h' : Nat.beq g 123 = true := h
  have hg : g = 123 := Nat.eq_of_beq_eq_true h'
  subst hg
  exact sort_told
end Go.Proofs.YtcpelionmmnogaaGreat
