import Derived.Test.YtncpklppoancgaaGreatZs
import Derived.Test.YtncpklppoancgaaGreatSt
import Derived.Test.YtncpklppoancgaaGreatEc
namespace Go.Proofs.YtncpklppoancgaaGreat
open Go Go.Proofs Go.Proofs.YtncpklppoancgaaGreat.Am
set_option linter.unusedVariables false
set_option linter.unusedSimpArgs false
instance wd0 : Wd:=⟨fun _=>True,fun _ _=>trivial⟩
theorem QwK : SortP Tryz.prog 55 :=
 SortP.of (EnterOK.of (fn:=Tryz.f55) Tryz.func55 rfl (by decide)) (fun blk off cap zs w h1 h2 h3=>Tryz.slices_Sort_int blk off cap zs w h1 h2 h3) (fun p cap w=>Tryz.slices_Sort_int_none p cap w)
theorem QVg : ∀ g,T.st g = true → SortP T.P g:=by
 intro g h
 have h' : Nat.beq g 55 = true:=h
 have hg : g = 55:=Nat.eq_of_beq_eq_true h'
 subst hg
 exact QwK
end Go.Proofs.YtncpklppoancgaaGreat
