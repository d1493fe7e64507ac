-- written by gen.py's rowgen (this session's program)
import Derived.Test.YtlmpbngndcagbaaOks
import Derived.Test.YtlmpbngndcagbaaG47
import Derived.KernelRfl
namespace Go.Proofs.Ytlmpbngndcagbaa.G.fnExactScript
open Go.RowKit Go.Proofs.Ytlmpbngndcagbaa.Open Go.Proofs.Ytlmpbngndcagbaa.Ok Go.Proofs.Ytlmpbngndcagbaa.G Go.Proofs.YtlmpbngndcagbaaW.PrintWords Go.Proofs.YtlmpbngndcagbaaW.PrintLast
set_option linter.unusedVariables false
def FnExactScript.okIn (x0 : List S69) : Prop := okT35 x0
def FnExactScript.Pure : Prop := ∀ (x0 : List S69), FnExactScript.okIn x0 → ∃ k, laws_FnExactScript.f k x0 = some true
end Go.Proofs.Ytlmpbngndcagbaa.G.fnExactScript
