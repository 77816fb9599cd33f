import Derived.Test.YtcdffihcfeajfaaGreatZs
import Derived.Test.YtcdffihcfeajfaaGreatSt
import Derived.Test.YtcdffihcfeajfaaGreatEc
namespace Go.Proofs.YtcdffihcfeajfaaGreat
open Go Go.Proofs Go.Proofs.YtcdffihcfeajfaaGreat.Am
set_option linter.unusedVariables false
set_option linter.unusedSimpArgs false
instance wd0 : Wd := ⟨fun _ => True, fun _ _ => trivial⟩
theorem Qwm : SortP Tryz.prog 265 :=
 SortP.of (EnterOK.of (fn := Tryz.f265) Tryz.func265 rfl (by decide)) (fun blk off cap zs w h1 h2 h3 => Tryz.slices_Sort_int blk off cap zs w h1 h2 h3) (fun p cap w => Tryz.slices_Sort_int_none p cap w)
theorem QRA : ∀ g, T.st g = true → SortP T.P g := by
 intro g h
 have h' : Nat.beq g 265 = true := h
 have hg : g = 265 := Nat.eq_of_beq_eq_true h'
 subst hg
 exact Qwm
end Go.Proofs.YtcdffihcfeajfaaGreat
