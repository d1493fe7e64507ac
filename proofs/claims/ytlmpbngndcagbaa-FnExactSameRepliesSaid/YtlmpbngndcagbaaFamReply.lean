/- The helpers of the exact laws at the type Reply, on lists and numbers: written by families.py (this session's program); no conditions beside the sizes that a row reads. -/
import Derived.Test.YtlmpbngndcagbaaG11
import Derived.Test.YtlmpbngndcagbaaG4
import Derived.Test.YtlmpbngndcagbaaG7
import Derived.Test.YtlmpbngndcagbaaPureLib
import Derived.Test.YtlmpbngndcagbaaOks
namespace Go.Proofs.Ytlmpbngndcagbaa.Fam
open Go.RowKit Go.Proofs.Ytlmpbngndcagbaa.G Go.Proofs.Ytlmpbngndcagbaa.PL Go.Proofs.Ytlmpbngndcagbaa.Ok Go.Proofs.YtlmpbngndcagbaaW.PrintWords Go.Proofs.YtlmpbngndcagbaaW.PrintLast Go.Proofs.YtlmpbngndcagbaaW.PrintMore
set_option linter.unusedVariables false
set_option linter.unusedSimpArgs false

def cvReply (x : S82) : S83 := ⟨x.f0, x.f1, x.f2⟩
instance decReply : DecidableEq S83 := fun a b => decidable_of_iff (a.f0 = b.f0 ∧ a.f1 = b.f1 ∧ a.f2 = b.f2) (by cases a; cases b; simp)
def szmReply (x : S82) : Nat := x.f1.size + x.f2.size
theorem szReply_ev (x0 : Bool) (x1 : ByteArray) (x2 : ByteArray) (a : Int) (h0 : 0 ≤ a) (h1 : a ≤ 1048576) (o0 : x1.size ≤ 140737488351232) (o1 : x2.size ≤ 140737488351232) : Ev (fun k => laws_szReply.f x0 x1 x2 a) (left a (x1.size + x2.size)) := by
  unfold laws_szReply.f
  by_cases c0 : ((x1.size : Nat) : Int) ≤ a
  rotate_left
  · rw [w64 (x := a - (x1.size : Int)) (by omega) (by omega)]
    refine Ev.pos (by omega) ?_
    exact Ev.const (congrArg some (left_neg (by omega)).symm)
  rw [w64 (x := a - (x1.size : Int)) (by omega) (by omega)]
  refine Ev.neg (by omega) ?_
  by_cases c1 : ((x2.size : Nat) : Int) ≤ a - (x1.size : Nat)
  rotate_left
  · rw [w64 (x := a - (x1.size : Nat) - (x2.size : Int)) (by omega) (by omega)]
    refine Ev.pos (by omega) ?_
    exact Ev.const (congrArg some (left_neg (by omega)).symm)
  rw [w64 (x := a - (x1.size : Nat) - (x2.size : Int)) (by omega) (by omega)]
  refine Ev.neg (by omega) ?_
  exact Ev.const (congrArg some (by rw [left_pos (by omega)]; omega))
theorem toReply_ev (x0 : Bool) (x1 : ByteArray) (x2 : ByteArray)  : Ev (fun k => laws_toReply.f x0 x1 x2) (x0, x1, x2) := by
  unfold laws_toReply.f
  exact Ev.const rfl
theorem eqReply_ev (x0 : Bool) (x1 : ByteArray) (x2 : ByteArray)  : Ev (fun k => laws_eqReply.f x0 x1 x2 x0 x1 x2) true := by
  unfold laws_eqReply.f
  refine Ev.neg (by simp) ?_
  refine Ev.pos rfl ?_
  refine Ev.pos rfl ?_
  exact Ev.const rfl
end Go.Proofs.Ytlmpbngndcagbaa.Fam
