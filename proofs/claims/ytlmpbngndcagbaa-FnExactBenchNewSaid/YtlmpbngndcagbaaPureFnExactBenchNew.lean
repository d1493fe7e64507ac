/- The bench that BenchNew makes is the reference's, and its lists are memory of its own: no input, no condition. -/
import Derived.Test.YtlmpbngndcagbaaG105
namespace Go.Proofs.Ytlmpbngndcagbaa.Pure
open Go.RowKit Go.Proofs.Ytlmpbngndcagbaa.G Go.Proofs.YtlmpbngndcagbaaW.PrintWords Go.Proofs.YtlmpbngndcagbaaW.PrintLast

/-- YOURS: ∃ k, laws_FnExactBenchNew.f k  = some true
What it reaches (each with k first where it has rounds; `.mono`: more rounds tell the same; `.l0`, ..: its loops, with `.mono_l`): spec_l01Num.f, laws_markText.f, spec_l10Clean.f, spec_l01In.f, spec_ItemOk.f, laws_eqItem.f, laws_eqItemS.f, laws_eqIntS.f, laws_eqThree.f, spec_l10Ghosts.f, spec_l10At.f, spec_l03Has.f, spec_ThreeOk.f, spec_ThreeNew.f, spec_BenchNew.f, impl_BenchNew.f, laws_eqCount.f, laws_eqStringS.f, laws_eqBench.f, laws_markItemS.f, laws_markIntS.f, laws_markThree.f, laws_markStringS.f, laws_markBench.f, laws_heldItemS.f, laws_heldIntS.f, laws_heldThree.f, laws_heldStringS.f, laws_heldBench.f, laws_FnExactBenchNew.f -/
theorem FnExactBenchNew : laws_FnExactBenchNew.Pure := by
  exact ⟨100, by decide +kernel⟩

end Go.Proofs.Ytlmpbngndcagbaa.Pure
