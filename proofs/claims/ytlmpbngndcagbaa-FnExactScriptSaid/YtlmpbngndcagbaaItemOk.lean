/- An item is right, told alike by the reference and the program; no conditions beside sizes. -/
import Derived.Test.YtlmpbngndcagbaaClean
import Derived.Test.YtlmpbngndcagbaaG32
import Derived.Test.YtlmpbngndcagbaaG33
import Derived.Test.YtlmpbngndcagbaaG39
import Derived.Test.YtlmpbngndcagbaaG41
namespace Go.Proofs.Ytlmpbngndcagbaa.Q
open Go.RowKit Go.Proofs.Ytlmpbngndcagbaa.G Go.Proofs.Ytlmpbngndcagbaa.PL Go.Proofs.YtlmpbngndcagbaaW.PrintWords
def itemOk (key val : ByteArray) (freq : Int) : Bool := decide (1 ≤ key.size) && decide (key.size ≤ 20) && clean key && decide (val.size ≤ 40) && clean val && decide (0 ≤ freq) && decide (freq ≤ 3)
theorem impl_within_eq (x lo hi : Int) : impl_within.f x lo hi = some (decide (lo ≤ x) && decide (x ≤ hi)) := by
  unfold impl_within.f
  by_cases h : x ≥ lo
  · rw [if_pos h]; simp [h]
  · rw [if_neg h]
    have : ¬ lo ≤ x := h
    simp [this]
theorem spec_l01In_eq (x lo hi : Int) : spec_l01In.f x lo hi = some (decide (lo ≤ x) && decide (x ≤ hi)) := by
  unfold spec_l01In.f
  by_cases h : x ≥ lo
  · rw [if_pos h]; simp [h]
  · rw [if_neg h]
    have : ¬ lo ≤ x := h
    simp [this]
theorem spec_ItemOk_ev (key val : ByteArray) (freq : Int) (h0 : key.size ≤ 140737488351232) (h1 : val.size ≤ 140737488351232) : Ev (fun k => spec_ItemOk.f k key val freq) (itemOk key val freq) := by
  unfold spec_ItemOk.f itemOk
  by_cases a : 1 ≤ key.size
  rotate_left
  · exact Ev.neg (by omega) (Ev.const (by simp [a]))
  refine Ev.pos (by omega) ?_
  by_cases b : key.size ≤ 20
  rotate_left
  · exact Ev.neg (by omega) (Ev.const (by simp [b]))
  refine Ev.pos (by omega) ?_
  refine Ev.bind (spec_l10Clean_ev key h0) ?_
  cases c : clean key
  · exact Ev.neg (by simp) (Ev.const (by simp))
  refine Ev.pos rfl ?_
  by_cases d : val.size ≤ 40
  rotate_left
  · exact Ev.neg (by omega) (Ev.const (by simp [d]))
  refine Ev.pos (by omega) ?_
  refine Ev.bind (spec_l10Clean_ev val h1) ?_
  cases e : clean val
  · exact Ev.neg (by simp) (Ev.const (by simp))
  refine Ev.pos rfl ?_
  refine Ev.bind (Ev.const (spec_l01In_eq _ _ _)) ?_
  exact Ev.const (by simp [a, b, d])
theorem impl_ItemOk_ev (key val : ByteArray) (freq : Int) (h0 : key.size ≤ 140737488351232) (h1 : val.size ≤ 140737488351232) : Ev (fun k => impl_ItemOk.f k key val freq) (itemOk key val freq) := by
  unfold impl_ItemOk.f itemOk
  refine Ev.bind (Ev.const (impl_within_eq _ _ _)) ?_
  by_cases a : 1 ≤ key.size
  rotate_left
  · exact Ev.neg (by simp; omega) (Ev.const (by simp [a]))
  by_cases b : key.size ≤ 20
  rotate_left
  · exact Ev.neg (by simp; omega) (Ev.const (by simp [b]))
  refine Ev.pos (by simp; omega) ?_
  by_cases d : val.size ≤ 40
  rotate_left
  · exact Ev.neg (by omega) (Ev.const (by simp [d]))
  refine Ev.pos (by omega) ?_
  refine Ev.bind (impl_isPlain_ev key h0) ?_
  cases c : clean key
  · exact Ev.neg (by simp) (Ev.const (by simp))
  refine Ev.pos rfl ?_
  refine Ev.bind (impl_isPlain_ev val h1) ?_
  cases e : clean val
  · exact Ev.neg (by simp) (Ev.const (by simp))
  refine Ev.pos rfl ?_
  refine Ev.bind (Ev.const (impl_within_eq _ _ _)) ?_
  exact Ev.const (by simp [a, b, d])
end Go.Proofs.Ytlmpbngndcagbaa.Q
