-- written by gen.py's rowgen (this session's program)
import Derived.Test.YtlmpbngndcagbaaOks
import Derived.Test.YtlmpbngndcagbaaG13
import Derived.KernelRfl
namespace Go.Proofs.Ytlmpbngndcagbaa.G.fnExactSameReplies
open Go.RowKit Go.Proofs.Ytlmpbngndcagbaa.Open Go.Proofs.Ytlmpbngndcagbaa.Ok Go.Proofs.Ytlmpbngndcagbaa.G Go.Proofs.YtlmpbngndcagbaaW.PrintWords Go.Proofs.YtlmpbngndcagbaaW.PrintLast
set_option linter.unusedVariables false
def FnExactSameReplies.okIn (x0 : List S82) (x1 : List S82) : Prop := okT22 x0 ∧ okT22 x1
def FnExactSameReplies.Pure : Prop := ∀ (x0 : List S82) (x1 : List S82), FnExactSameReplies.okIn x0 x1 → ∃ k, laws_FnExactSameReplies.f k x0 x1 = some true
end Go.Proofs.Ytlmpbngndcagbaa.G.fnExactSameReplies
