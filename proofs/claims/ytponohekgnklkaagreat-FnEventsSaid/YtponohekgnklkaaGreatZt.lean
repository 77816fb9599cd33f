import Derived.Test.YtponohekgnklkaaGreatZs
import Derived.Test.YtponohekgnklkaaGreatSt
import Derived.Test.YtponohekgnklkaaGreatEc
namespace Go.Proofs.YtponohekgnklkaaGreat
open Go Go.Proofs Go.Proofs.YtponohekgnklkaaGreat.Am
set_option linter.unusedVariables false
set_option linter.unusedSimpArgs false
instance wd0 : Wd := ⟨fun _ => True, fun _ _ => trivial⟩
theorem Qv2 : SortP Tryz.prog 114 :=
 SortP.of (EnterOK.of (fn := Tryz.f114) Tryz.func114 rfl (by decide)) (fun blk off cap zs w h1 h2 h3 => Tryz.slices_Sort_int blk off cap zs w h1 h2 h3) (fun p cap w => Tryz.slices_Sort_int_none p cap w)
theorem QRR : ∀ g, T.st g = true → SortP T.P g := by
 intro g h
 have h' : Nat.beq g 114 = true := h
 have hg : g = 114 := Nat.eq_of_beq_eq_true h'
 subst hg
 exact Qv2
end Go.Proofs.YtponohekgnklkaaGreat
