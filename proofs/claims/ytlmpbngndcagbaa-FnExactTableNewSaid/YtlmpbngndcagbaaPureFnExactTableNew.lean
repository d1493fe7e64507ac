/- The table that TableNew makes is the reference's, and its list is memory of its own: no input, no condition. -/
import Derived.Test.YtlmpbngndcagbaaPFnExactTableNewx2
namespace Go.Proofs.Ytlmpbngndcagbaa.Pure
open Go.RowKit Go.Proofs.Ytlmpbngndcagbaa.PFnExactTableNew Go.Proofs.YtlmpbngndcagbaaW.PrintWords Go.Proofs.YtlmpbngndcagbaaW.PrintLast

/-- YOURS: ∃ k, laws_FnExactTableNew.f k  = some true
What it reaches (each with k first where it has rounds; `.mono`: more rounds tell the same; `.l0`, ..: its loops, with `.mono_l`): spec_l01Num.f, spec_Flip.f, spec_DummyKey.f, spec_l19Dummy.f, spec_TableNew.f, impl_TableNew.f, laws_eqEntry.f, laws_eqEntryS.f, laws_eqTable.f, laws_markText.f, laws_markEntryS.f, laws_markTable.f, laws_heldEntryS.f, laws_heldTable.f, laws_FnExactTableNew.f -/
theorem FnExactTableNew : laws_FnExactTableNew.Pure := by
  exact ⟨100, by decide +kernel⟩

end Go.Proofs.Ytlmpbngndcagbaa.Pure
