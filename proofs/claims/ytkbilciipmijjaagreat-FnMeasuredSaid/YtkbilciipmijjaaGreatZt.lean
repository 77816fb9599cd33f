import Derived.Test.YtkbilciipmijjaaGreatZs
import Derived.Test.YtkbilciipmijjaaGreatSt
import Derived.Test.YtkbilciipmijjaaGreatEc
namespace Go.Proofs.YtkbilciipmijjaaGreat
open Go Go.Proofs Go.Proofs.YtkbilciipmijjaaGreat.Am
set_option linter.unusedVariables false
set_option linter.unusedSimpArgs false
instance wd0 : Wd := ⟨fun _ => True, fun _ _ => trivial⟩
theorem QtF : SortP Tryz.prog 82 :=
 SortP.of (EnterOK.of (fn := Tryz.f82) Tryz.func82 rfl (by decide)) (fun blk off cap zs w h1 h2 h3 => Tryz.slices_Sort_int blk off cap zs w h1 h2 h3) (fun p cap w => Tryz.slices_Sort_int_none p cap w)
theorem QMC : ∀ g, T.st g = true → SortP T.P g := by
 intro g h
 have h' : Nat.beq g 82 = true := h
 have hg : g = 82 := Nat.eq_of_beq_eq_true h'
 subst hg
 exact QtF
end Go.Proofs.YtkbilciipmijjaaGreat
