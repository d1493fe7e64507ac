/- The helpers of the exact laws at the type Op, on lists and numbers: written by families.py (this session's program); no conditions beside the sizes that a row reads. -/
import Derived.Test.YtlmpbngndcagbaaG29
import Derived.Test.YtlmpbngndcagbaaG37
import Derived.Test.YtlmpbngndcagbaaG45
import Derived.Test.YtlmpbngndcagbaaPureLib
import Derived.Test.YtlmpbngndcagbaaOks
namespace Go.Proofs.Ytlmpbngndcagbaa.Fam
open Go.RowKit Go.Proofs.Ytlmpbngndcagbaa.G Go.Proofs.Ytlmpbngndcagbaa.PL Go.Proofs.Ytlmpbngndcagbaa.Ok Go.Proofs.YtlmpbngndcagbaaW.PrintWords Go.Proofs.YtlmpbngndcagbaaW.PrintLast Go.Proofs.YtlmpbngndcagbaaW.PrintMore
set_option linter.unusedVariables false
set_option linter.unusedSimpArgs false

def cvOp (x : S69) : S74 := ⟨x.f0, x.f1, x.f2⟩
instance decOp : DecidableEq S74 := fun a b => decidable_of_iff (a.f0 = b.f0 ∧ a.f1 = b.f1 ∧ a.f2 = b.f2) (by cases a; cases b; simp)
def szmOp (x : S69) : Nat := x.f1.size + x.f2.size
theorem szOp_ev (x0 : Int) (x1 : ByteArray) (x2 : ByteArray) (a : Int) (h0 : 0 ≤ a) (h1 : a ≤ 1048576) (o0 : x1.size ≤ 140737488351232) (o1 : x2.size ≤ 140737488351232) : Ev (fun k => laws_szOp.f x0 x1 x2 a) (left a (x1.size + x2.size)) := by
  unfold laws_szOp.f
  by_cases c0 : ((x1.size : Nat) : Int) ≤ a
  rotate_left
  · rw [w64 (x := a - (x1.size : Int)) (by omega) (by omega)]
    refine Ev.pos (by omega) ?_
    exact Ev.const (congrArg some (left_neg (by omega)).symm)
  rw [w64 (x := a - (x1.size : Int)) (by omega) (by omega)]
  refine Ev.neg (by omega) ?_
  by_cases c1 : ((x2.size : Nat) : Int) ≤ a - (x1.size : Nat)
  rotate_left
  · rw [w64 (x := a - (x1.size : Nat) - (x2.size : Int)) (by omega) (by omega)]
    refine Ev.pos (by omega) ?_
    exact Ev.const (congrArg some (left_neg (by omega)).symm)
  rw [w64 (x := a - (x1.size : Nat) - (x2.size : Int)) (by omega) (by omega)]
  refine Ev.neg (by omega) ?_
  exact Ev.const (congrArg some (by rw [left_pos (by omega)]; omega))
theorem toOp_ev (x0 : Int) (x1 : ByteArray) (x2 : ByteArray)  : Ev (fun k => laws_toOp.f x0 x1 x2) (x0, x1, x2) := by
  unfold laws_toOp.f
  exact Ev.const rfl
theorem eqOp_ev (x0 : Int) (x1 : ByteArray) (x2 : ByteArray)  : Ev (fun k => laws_eqOp.f x0 x1 x2 x0 x1 x2) true := by
  unfold laws_eqOp.f
  refine Ev.pos rfl ?_
  refine Ev.pos rfl ?_
  refine Ev.pos rfl ?_
  exact Ev.const rfl
end Go.Proofs.Ytlmpbngndcagbaa.Fam
