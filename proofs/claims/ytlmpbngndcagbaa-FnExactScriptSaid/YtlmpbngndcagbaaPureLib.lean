/- Small tools for the pure statements: rounds, indices, reads of lists; no conditions. -/
import Derived.Test.YtlmpbngndcagbaaWWords
namespace Go.Proofs.Ytlmpbngndcagbaa.PL
open Go.RowKit Go.Proofs.YtlmpbngndcagbaaW.PrintWords

theorem Ev.const {α : Type} {x : Option α} {r : α} (h : x = some r) : Ev (fun _ => x) r := ⟨0, fun _ _ => h⟩
theorem Ev.pos {α : Type} {c : Prop} [Decidable c] {f g : Nat → Option α} {r : α} (hc : c) (h : Ev f r) : Ev (fun k => if c then f k else g k) r := by
  obtain ⟨K, h⟩ := h
  exact ⟨K, fun k hk => (if_pos hc).trans (h k hk)⟩
theorem Ev.neg {α : Type} {c : Prop} [Decidable c] {f g : Nat → Option α} {r : α} (hc : ¬ c) (h : Ev g r) : Ev (fun k => if c then f k else g k) r := by
  obtain ⟨K, h⟩ := h
  exact ⟨K, fun k hk => (if_neg hc).trans (h k hk)⟩
theorem Ev.to {α : Type} {f : Nat → Option α} {r s : α} (h : Ev f r) (e : r = s) : Ev f s := e ▸ h
/-- What comes of it is one alone. -/
theorem Ev.unique {α : Type} {f : Nat → Option α} {r s : α} (h : Ev f r) (h' : Ev f s) : r = s := by
  obtain ⟨K, h⟩ := h
  obtain ⟨K', h'⟩ := h'
  have a := h (max K K') (Nat.le_max_left _ _)
  have b := h' (max K K') (Nat.le_max_right _ _)
  rw [a] at b
  exact Option.some.inj b
theorem w64 {x : Int} (h0 : -9223372036854775808 ≤ x) (h1 : x ≤ 9223372036854775807) : wrap64 x = x := by
  unfold wrap64
  omega
theorem wsucc {i : Nat} (h : i < 9223372036854775807) : wrap64 ((i : Int) + 1) = ((i + 1 : Nat) : Int) := by
  rw [w64 (by omega) (by omega)]
  omega
theorem getD_at {α : Type} {xs : List α} {i : Nat} (h : i < xs.length) (z : α) : xs.getD ((i : Nat) : Int).toNat z = xs[i] := by
  simp [List.getD_eq_getElem?_getD, h]
theorem drop_at {α : Type} {xs : List α} {i : Nat} (h : i < xs.length) : xs.drop i = xs[i] :: xs.drop (i + 1) := List.drop_eq_getElem_cons h
theorem bytes_eq {a b : ByteArray} : a.toList = b.toList ↔ a = b := by
  rw [ByteArray.toList_eq, ByteArray.toList_eq]
  constructor
  · intro h
    cases a; cases b
    simp at h
    simp [h]
  · intro h; rw [h]
theorem bytes_beq (a b : ByteArray) : (a.toList == b.toList) = decide (a = b) := by
  rw [Bool.eq_iff_iff]
  simp [bytes_eq]
theorem decide_cons {α : Type} [DecidableEq α] (a b : α) (l m : List α) : decide (a :: l = b :: m) = (decide (a = b) && decide (l = m)) := by
  rw [Bool.eq_iff_iff]; simp
/-- What is left of a when m are taken off, or -1. -/
def left (a : Int) (m : Nat) : Int := if (m : Int) ≤ a then a - m else -1
theorem left_pos {a : Int} {m : Nat} (h : (m : Int) ≤ a) : left a m = a - m := if_pos h
theorem left_neg {a : Int} {m : Nat} (h : ¬ (m : Int) ≤ a) : left a m = -1 := if_neg h
theorem left_zero {a : Int} (h : 0 ≤ a) : left a 0 = a := by unfold left; rw [if_pos (by omega)]; omega
theorem left_add {a : Int} {m n : Nat} : left (a - m) n = left a (m + n) := by
  unfold left
  by_cases c : (n : Int) ≤ a - m
  · rw [if_pos c, if_pos (by omega)]; omega
  · rw [if_neg c, if_neg (by omega)]
theorem left_neg_add {a : Int} {m n : Nat} (h : ¬ (m : Int) ≤ a) : left a (m + n) = -1 := left_neg (by omega)
theorem left_le {a : Int} {m : Nat} (h : 0 ≤ left a m) : (m : Int) ≤ a ∧ left a m = a - m := by
  by_cases c : (m : Int) ≤ a
  · exact ⟨c, left_pos c⟩
  · rw [left_neg c] at h; omega
theorem set_mid {α : Type} (pre : List α) (x y : α) (rest : List α) : (pre ++ x :: rest).set ((pre.length : Nat) : Int).toNat y = pre ++ y :: rest := by
  simp
theorem getD_mid {α : Type} (pre : List α) (x z : α) (rest : List α) : (pre ++ x :: rest).getD ((pre.length : Nat) : Int).toNat z = x := by
  simp [List.getD_eq_getElem?_getD]
theorem snoc_mid {α : Type} (pre : List α) (x : α) (rest : List α) : pre ++ x :: rest = (pre ++ [x]) ++ rest := by simp
theorem take_drop_set {α β : Type} (f : α → β) (xs : List α) (ys : List β) {i : Nat} (hi : i < xs.length) (hl : ys.length = xs.length) (h : ys.take i = (xs.take i).map f) : (ys.set ((i : Nat) : Int).toNat (f xs[i])).take (i + 1) = (xs.take (i + 1)).map f := by
  rw [Int.toNat_natCast, List.take_succ_eq_append_getElem (by simp; omega), List.take_succ_eq_append_getElem hi, List.map_append, ← h]
  simp [List.take_set_of_le]
end Go.Proofs.Ytlmpbngndcagbaa.PL
