/- Proves that the printed function of the law ExampleSlots answers true after ten rounds; no conditions. -/
import Derived.Test.YtbbnecdpcblcfaaPFnExactExampleSlotsx2
namespace Go.Proofs.Ytbbnecdpcblcfaa.Pure
open Go.RowKit Go.Proofs.Ytbbnecdpcblcfaa.PFnExactExampleSlots Go.Proofs.YtbbnecdpcblcfaaW.PrintWords Go.Proofs.YtbbnecdpcblcfaaW.PrintLast

/-- YOURS: ∃ k, laws_FnExactExampleSlots.f k  = some true
What it reaches (each with k first where it has rounds; `.mono`: more rounds tell the same; `.l0`, ..: its loops, with `.mono_l`): spec_ExampleSlots.f, impl_ExampleSlots.f, laws_eqSlot.f, laws_eqSlotS.f, laws_markSlotS.f, laws_heldSlotS.f, laws_FnExactExampleSlots.f -/
theorem FnExactExampleSlots : laws_FnExactExampleSlots.Pure := by
  exact ⟨10, by decide +kernel⟩

end Go.Proofs.Ytbbnecdpcblcfaa.Pure
