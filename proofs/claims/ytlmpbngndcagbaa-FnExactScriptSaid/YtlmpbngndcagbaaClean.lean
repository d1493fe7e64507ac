/- No blank and no break in a text: the reference's test and the program's are one function; no conditions. -/
import Derived.Test.YtlmpbngndcagbaaBT
import Derived.Test.YtlmpbngndcagbaaG31
import Derived.Test.YtlmpbngndcagbaaG40
namespace Go.Proofs.Ytlmpbngndcagbaa.Q
open Go.RowKit Go.Proofs.Ytlmpbngndcagbaa.G Go.Proofs.Ytlmpbngndcagbaa.PL Go.Proofs.YtlmpbngndcagbaaW.PrintWords
def clean (s : ByteArray) : Bool := (bs s).all fun b => b != 32 && b != 10
theorem spec_l10Clean_l0 (s : ByteArray) (hs : s.size ≤ 140737488351232) : ∀ (d i : Nat), i + d = s.size → Ev (fun k => spec_l10Clean.l0 k s i) (((bs s).drop i).all fun b => b != 32 && b != 10) := by
  intro d
  induction d with
  | zero =>
    intro i hi
    refine Ev.step (fun _ => rfl) ?_
    simp only [spec_l10Clean.l0]
    refine Ev.neg (by omega) ?_
    rw [List.drop_of_length_le (by rw [bs_length]; omega)]
    exact Ev.const rfl
  | succ d ih =>
    intro i hi
    have hlt : i < s.size := by omega
    refine Ev.step (fun _ => rfl) ?_
    simp only [spec_l10Clean.l0]
    rw [bt_eq s i hlt, drop_bs s i hlt, List.all_cons, wsucc (by omega)]
    refine Ev.pos (by omega) ?_
    refine Ev.pos (by omega) ?_
    generalize (bs s)[i]'_ = b
    by_cases c : (b.toNat : Int) = 32
    · refine Ev.pos c ?_
      have : b = 32 := (u8_eq (n := 32) (by omega)).1 c
      exact Ev.const (by simp [this])
    · refine Ev.neg c ?_
      have h1 : ¬ b = 32 := fun h => c ((u8_eq (n := 32) (by omega)).2 h)
      by_cases c2 : (b.toNat : Int) = 10
      · refine Ev.pos c2 ?_
        have : b = 10 := (u8_eq (n := 10) (by omega)).1 c2
        exact Ev.const (by simp [this])
      · refine Ev.neg c2 ?_
        have h2 : ¬ b = 10 := fun h => c2 ((u8_eq (n := 10) (by omega)).2 h)
        refine Ev.to (ih (i + 1) (by omega)) ?_
        simp [h1, h2]
theorem spec_l10Clean_ev (s : ByteArray) (hs : s.size ≤ 140737488351232) : Ev (fun k => spec_l10Clean.f k s) (clean s) := by
  unfold spec_l10Clean.f
  exact spec_l10Clean_l0 s hs s.size 0 (by omega)
theorem impl_isPlain_l0 (s : ByteArray) (hs : s.size ≤ 140737488351232) : ∀ (d i : Nat), i + d = s.size → Ev (fun k => impl_isPlain.l0 k s i) (((bs s).drop i).all fun b => b != 32 && b != 10) := by
  intro d
  induction d with
  | zero =>
    intro i hi
    refine Ev.step (fun _ => rfl) ?_
    simp only [impl_isPlain.l0]
    refine Ev.neg (by omega) ?_
    rw [List.drop_of_length_le (by rw [bs_length]; omega)]
    exact Ev.const rfl
  | succ d ih =>
    intro i hi
    have hlt : i < s.size := by omega
    refine Ev.step (fun _ => rfl) ?_
    simp only [impl_isPlain.l0]
    rw [bt_eq s i hlt, drop_bs s i hlt, List.all_cons, wsucc (by omega)]
    refine Ev.pos (by omega) ?_
    refine Ev.pos (by omega) ?_
    generalize (bs s)[i]'_ = b
    by_cases c : (b.toNat : Int) = 32
    · refine Ev.pos c ?_
      have : b = 32 := (u8_eq (n := 32) (by omega)).1 c
      exact Ev.const (by simp [this])
    · refine Ev.neg c ?_
      have h1 : ¬ b = 32 := fun h => c ((u8_eq (n := 32) (by omega)).2 h)
      by_cases c2 : (b.toNat : Int) = 10
      · refine Ev.pos c2 ?_
        have : b = 10 := (u8_eq (n := 10) (by omega)).1 c2
        exact Ev.const (by simp [this])
      · refine Ev.neg c2 ?_
        have h2 : ¬ b = 10 := fun h => c2 ((u8_eq (n := 10) (by omega)).2 h)
        refine Ev.to (ih (i + 1) (by omega)) ?_
        simp [h1, h2]
theorem impl_isPlain_ev (s : ByteArray) (hs : s.size ≤ 140737488351232) : Ev (fun k => impl_isPlain.f k s) (clean s) := by
  unfold impl_isPlain.f
  exact impl_isPlain_l0 s hs s.size 0 (by omega)
end Go.Proofs.Ytlmpbngndcagbaa.Q
