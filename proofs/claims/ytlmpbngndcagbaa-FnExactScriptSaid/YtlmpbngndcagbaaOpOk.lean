/- An op is right, and its text, told alike by the reference and the program; no conditions beside sizes. -/
import Derived.Test.YtlmpbngndcagbaaItemOk
import Derived.Test.YtlmpbngndcagbaaG34
import Derived.Test.YtlmpbngndcagbaaG35
import Derived.Test.YtlmpbngndcagbaaG42
import Derived.Test.YtlmpbngndcagbaaG43
namespace Go.Proofs.Ytlmpbngndcagbaa.Q
open Go.RowKit Go.Proofs.Ytlmpbngndcagbaa.G Go.Proofs.Ytlmpbngndcagbaa.PL Go.Proofs.YtlmpbngndcagbaaW.PrintWords
def opOk (kind : Int) (key val : ByteArray) : Bool := decide (1 ≤ kind) && decide (kind ≤ 3) && itemOk key val 0 && (decide (kind = 2) || decide (val = ⟨#[]⟩))
theorem nil_beq (a : ByteArray) : (a.toList == ([] : List UInt8)) = decide (a = ⟨#[]⟩) := by
  rw [Bool.eq_iff_iff]
  simp [toList_nil]
theorem spec_OpOk_ev (kind : Int) (key val : ByteArray) (h0 : key.size ≤ 140737488351232) (h1 : val.size ≤ 140737488351232) : Ev (fun k => spec_OpOk.f k kind key val) (opOk kind key val) := by
  unfold spec_OpOk.f opOk
  by_cases a : 1 ≤ kind
  rotate_left
  · exact Ev.neg (by omega) (Ev.const (by simp [a]))
  refine Ev.pos (by omega) ?_
  by_cases b : kind ≤ 3
  rotate_left
  · exact Ev.neg (by omega) (Ev.const (by simp [b]))
  refine Ev.pos (by omega) ?_
  refine Ev.bind (spec_ItemOk_ev key val 0 h0 h1) ?_
  cases c : itemOk key val 0
  · exact Ev.neg (by simp) (Ev.const (by simp))
  refine Ev.pos rfl ?_
  by_cases d : kind = 2
  · exact Ev.pos d (Ev.const (by simp [d]))
  · exact Ev.neg d (Ev.const (by rw [nil_beq]; simp [a, b, d]))
theorem impl_OpOk_ev (kind : Int) (key val : ByteArray) (h0 : key.size ≤ 140737488351232) (h1 : val.size ≤ 140737488351232) : Ev (fun k => impl_OpOk.f k kind key val) (opOk kind key val) := by
  unfold impl_OpOk.f opOk
  refine Ev.bind (Ev.const (impl_within_eq _ _ _)) ?_
  by_cases a : 1 ≤ kind
  rotate_left
  · exact Ev.neg (by simp; omega) (Ev.const (by simp [a]))
  by_cases b : kind ≤ 3
  rotate_left
  · exact Ev.neg (by simp; omega) (Ev.const (by simp [b]))
  refine Ev.pos (by simp; omega) ?_
  refine Ev.bind (impl_ItemOk_ev key val 0 h0 h1) ?_
  cases c : itemOk key val 0
  · exact Ev.neg (by simp) (Ev.const (by simp))
  refine Ev.pos rfl ?_
  by_cases d : kind = 2
  · exact Ev.pos d (Ev.const (by simp [d]))
  · exact Ev.neg d (Ev.const (by rw [nil_beq]; simp [a, b, d]))
/-- The text of an op. -/
def opText (kind : Int) (key val : ByteArray) : ByteArray :=
  if opOk kind key val = true then (if kind = 1 then (⟨#[103, 101, 116, 32]⟩ : ByteArray) ++ key else if kind = 2 then (((⟨#[112, 117, 116, 32]⟩ : ByteArray) ++ key) ++ (⟨#[32]⟩ : ByteArray)) ++ val else (⟨#[100, 114, 111, 112, 32]⟩ : ByteArray) ++ key) else ⟨#[]⟩
theorem spec_OpText_ev (kind : Int) (key val : ByteArray) (h0 : key.size ≤ 140737488351232) (h1 : val.size ≤ 140737488351232) : Ev (fun k => spec_OpText.f k kind key val) (opText kind key val) := by
  unfold spec_OpText.f opText
  refine Ev.bind (spec_OpOk_ev kind key val h0 h1) ?_
  cases c : opOk kind key val
  · exact Ev.neg (by simp) (Ev.const (by simp))
  refine Ev.pos rfl ?_
  rw [if_pos rfl]
  by_cases a : kind = 1
  · exact Ev.pos a (Ev.pos (by omega) (Ev.const (by rw [if_pos a])))
  refine Ev.neg a ?_
  by_cases b : kind = 2
  · exact Ev.pos b (Ev.pos (by omega) (Ev.pos (by omega) (Ev.pos (by omega) (Ev.const (by rw [if_neg a, if_pos b])))))
  exact Ev.neg b (Ev.pos (by omega) (Ev.const (by rw [if_neg a, if_neg b])))
theorem impl_OpText_ev (kind : Int) (key val : ByteArray) (h0 : key.size ≤ 140737488351232) (h1 : val.size ≤ 140737488351232) : Ev (fun k => impl_OpText.f k kind key val) (opText kind key val) := by
  unfold impl_OpText.f opText
  refine Ev.bind (impl_OpOk_ev kind key val h0 h1) ?_
  cases c : opOk kind key val
  · exact Ev.neg (by simp) (Ev.const (by simp))
  refine Ev.pos rfl ?_
  rw [if_pos rfl]
  by_cases a : kind = 1
  · exact Ev.pos a (Ev.pos (by omega) (Ev.const (by rw [if_pos a])))
  refine Ev.neg a ?_
  by_cases b : kind = 2
  · exact Ev.pos b (Ev.pos (by omega) (Ev.pos (by omega) (Ev.pos (by omega) (Ev.const (by rw [if_neg a, if_pos b])))))
  exact Ev.neg b (Ev.pos (by omega) (Ev.const (by rw [if_neg a, if_neg b])))
theorem opText_size (kind : Int) (key val : ByteArray) : (opText kind key val).size ≤ 66 := by
  unfold opText
  by_cases c : opOk kind key val = true
  · rw [if_pos c]
    have h : key.size ≤ 20 ∧ val.size ≤ 40 := by
      unfold opOk itemOk at c
      simp only [Bool.and_eq_true, decide_eq_true_eq] at c
      omega
    have e1 : (⟨#[103, 101, 116, 32]⟩ : ByteArray).size = 4 := rfl
    have e2 : (⟨#[112, 117, 116, 32]⟩ : ByteArray).size = 4 := rfl
    have e3 : (⟨#[100, 114, 111, 112, 32]⟩ : ByteArray).size = 5 := rfl
    have e4 : (⟨#[32]⟩ : ByteArray).size = 1 := rfl
    split
    · rw [ByteArray.size_append]; omega
    · split
      · rw [ByteArray.size_append, ByteArray.size_append, ByteArray.size_append]; omega
      · rw [ByteArray.size_append]; omega
  · rw [if_neg c]
    exact Nat.zero_le _
theorem opText_nil (kind : Int) (key val : ByteArray) : opText kind key val = ⟨#[]⟩ ↔ opOk kind key val = false := by
  unfold opText
  cases c : opOk kind key val
  · simp
  · rw [if_pos rfl]
    constructor
    · intro h
      have hz := congrArg ByteArray.size h
      have e1 : (⟨#[103, 101, 116, 32]⟩ : ByteArray).size = 4 := rfl
      have e2 : (⟨#[112, 117, 116, 32]⟩ : ByteArray).size = 4 := rfl
      have e3 : (⟨#[100, 114, 111, 112, 32]⟩ : ByteArray).size = 5 := rfl
      have e4 : (⟨#[]⟩ : ByteArray).size = 0 := rfl
      split at hz
      · rw [ByteArray.size_append] at hz; omega
      · split at hz
        · rw [ByteArray.size_append, ByteArray.size_append, ByteArray.size_append] at hz; omega
        · rw [ByteArray.size_append] at hz; omega
    · intro h; cases h
end Go.Proofs.Ytlmpbngndcagbaa.Q
