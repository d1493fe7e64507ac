/- The helpers of the exact laws at the type OpS, on lists and numbers: written by families.py (this session's program); no conditions beside the sizes that a row reads. -/
import Derived.Test.YtlmpbngndcagbaaG30
import Derived.Test.YtlmpbngndcagbaaG38
import Derived.Test.YtlmpbngndcagbaaG46
import Derived.Test.YtlmpbngndcagbaaFamOp
import Derived.Test.YtlmpbngndcagbaaPureLib
import Derived.Test.YtlmpbngndcagbaaOks
namespace Go.Proofs.Ytlmpbngndcagbaa.Fam
open Go.RowKit Go.Proofs.Ytlmpbngndcagbaa.G Go.Proofs.Ytlmpbngndcagbaa.PL Go.Proofs.Ytlmpbngndcagbaa.Ok Go.Proofs.YtlmpbngndcagbaaW.PrintWords Go.Proofs.YtlmpbngndcagbaaW.PrintLast Go.Proofs.YtlmpbngndcagbaaW.PrintMore
set_option linter.unusedVariables false
set_option linter.unusedSimpArgs false

def szmOpS (l : List S69) : Nat := l.length + (l.map fun x => (szmOp x)).sum
theorem szOpS_l0 (l : List S69) (ho : okT35 l) : ∀ (d i : Nat) (a : Int), i + d = l.length → 0 ≤ a → a ≤ 1048576 → Ev (fun k => laws_szOpS.l0 k l a i) (left a ((l.drop i).map fun x => (szmOp x)).sum) := by
  have hl := ho.2
  intro d
  induction d with
  | zero =>
    intro i a hi h0 h1
    refine Ev.step (fun _ => rfl) ?_
    simp only [laws_szOpS.l0]
    refine Ev.neg (by omega) ?_
    rw [List.drop_of_length_le (by omega)]
    exact Ev.const (congrArg some (left_zero h0).symm)
  | succ d ih =>
    intro i a hi h0 h1
    have hlt : i < l.length := by omega
    have er : rd_T69 l (i : Int) = l[i] := getD_at hlt _
    have hok := ho.1 _ (List.getElem_mem hlt)
    refine Ev.step (fun _ => rfl) ?_
    simp only [laws_szOpS.l0]
    refine Ev.pos (by omega) ?_
    refine Ev.pos (by omega) ?_
    rw [er, drop_at hlt, List.map_cons, List.sum_cons, wsucc (by omega)]
    have hz : (szmOp l[i]) = (l[i]).f1.size + (l[i]).f2.size := rfl
    refine Ev.bind (szOp_ev (l[i]).f0 (l[i]).f1 (l[i]).f2 a h0 h1 hok.2.1 hok.2.2) ?_
    rw [← hz]
    by_cases c : (((szmOp l[i]) : Nat) : Int) ≤ a
    · rw [left_pos c]
      refine Ev.neg (by omega) ?_
      refine Ev.to (ih (i + 1) (a - (szmOp l[i])) (by omega) (by omega) (by omega)) ?_
      exact left_add
    · rw [left_neg c]
      refine Ev.pos (by omega) ?_
      exact Ev.const (congrArg some (left_neg_add c).symm)
theorem szOpS_ev (l : List S69) (a : Int) (h0 : 0 ≤ a) (h1 : a ≤ 1048576) (o : okT35 l) : Ev (fun k => laws_szOpS.f k l a) (left a (szmOpS l)) := by
  have ho := o.2
  unfold laws_szOpS.f szmOpS
  rw [w64 (by omega) (by omega)]
  by_cases c : (l.length : Int) ≤ a
  · refine Ev.neg (by omega) ?_
    refine Ev.to (szOpS_l0 l o l.length 0 (a - l.length) (by omega) (by omega) (by omega)) ?_
    rw [List.drop_zero]
    exact left_add
  · refine Ev.pos (by omega) ?_
    exact Ev.const (congrArg some (left_neg_add c).symm)
theorem toOpS_l0 (l : List S69) (ho : okT35 l) : ∀ (d i : Nat) (ys : List S74), i + d = l.length → ys.length = l.length → ys.take i = (l.take i).map cvOp → Ev (fun k => laws_toOpS.l0 k l ys i) (l.map cvOp) := by
  have hl := ho.2
  intro d
  induction d with
  | zero =>
    intro i ys hi hy ht
    refine Ev.step (fun _ => rfl) ?_
    simp only [laws_toOpS.l0]
    refine Ev.neg (by omega) ?_
    rw [List.take_of_length_le (by omega), List.take_of_length_le (by omega)] at ht
    exact Ev.const (congrArg some ht)
  | succ d ih =>
    intro i ys hi hy ht
    have hlt : i < l.length := by omega
    have er : rd_T69 l (i : Int) = l[i] := getD_at hlt _
    have hok := ho.1 _ (List.getElem_mem hlt)
    refine Ev.step (fun _ => rfl) ?_
    simp only [laws_toOpS.l0]
    refine Ev.pos (by omega) ?_
    refine Ev.pos (by omega) ?_
    rw [er, wsucc (by omega)]
    refine Ev.bind (toOp_ev (l[i]).f0 (l[i]).f1 (l[i]).f2 ) ?_
    refine Ev.pos (by omega) ?_
    exact ih (i + 1) _ (by omega) (by simp [hy]) (take_drop_set cvOp l ys hlt hy ht)
theorem toOpS_ev (l : List S69) (o : okT35 l) : Ev (fun k => laws_toOpS.f k l) (l.map cvOp) := by
  have ho := o.2
  unfold laws_toOpS.f
  rw [Int.toNat_natCast]
  refine Ev.pos (by omega) ?_
  refine Ev.pos (by omega) ?_
  refine Ev.to (toOpS_l0 l o l.length 0 _ (by omega) (by simp) (by simp)) ?_
  rfl
theorem eqOpS_l0 (l : List S74) (ho : l.length ≤ 140737488351232) : ∀ (d i : Nat), i + d = l.length → Ev (fun k => laws_eqOpS.l0 k l l i) true := by
  have hl : l.length ≤ 140737488351232 := ho
  intro d
  induction d with
  | zero =>
    intro i hi
    refine Ev.step (fun _ => rfl) ?_
    simp only [laws_eqOpS.l0]
    refine Ev.neg (by omega) ?_
    exact Ev.const rfl
  | succ d ih =>
    intro i hi
    refine Ev.step (fun _ => rfl) ?_
    simp only [laws_eqOpS.l0]
    refine Ev.pos (by omega) ?_
    refine Ev.pos (by omega) ?_
    refine Ev.pos (by omega) ?_
    rw [wsucc (by omega)]
    refine Ev.bind (eqOp_ev _ _ _ ) ?_
    refine Ev.pos rfl ?_
    exact ih (i + 1) (by omega)
theorem eqOpS_ev (l : List S74) (ho : l.length ≤ 140737488351232) : Ev (fun k => laws_eqOpS.f k l l) true := by
  unfold laws_eqOpS.f
  refine Ev.pos rfl ?_
  exact eqOpS_l0 l ho l.length 0 (by omega)
end Go.Proofs.Ytlmpbngndcagbaa.Fam
