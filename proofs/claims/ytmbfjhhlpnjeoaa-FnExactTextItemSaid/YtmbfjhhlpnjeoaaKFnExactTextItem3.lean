/- TextItem is the reference's; no conditions beside the sizes that a row reads. Part 3 of the claim FnExactTextItem, merged by pack.py (this session's program) out of: the print's words, cut to what is needed; texts that gen.py printed (it runs the kit's print in place); texts of this session. -/
import Derived.ChangeArms
import Derived.SizedLaws
import Derived.DataReads
import Derived.WalkKit
import Derived.RowKit
import Derived.KernelRfl
import Derived.Test.YtmbfjhhlpnjeoaaRows
import Derived.ProofKit
import Derived.OpenShut
import Derived.ShutString
import Derived.ChangeOld
import Derived.Below
import Derived.Test.YtmbfjhhlpnjeoaaKFnExactTextItem0
import Derived.Test.YtmbfjhhlpnjeoaaKFnExactTextItem1
import Derived.Test.YtmbfjhhlpnjeoaaKFnExactTextItem2
namespace Go.Proofs.Ytmbfjhhlpnjeoaa.CutL
end Go.Proofs.Ytmbfjhhlpnjeoaa.CutL
namespace Go.Proofs.Ytmbfjhhlpnjeoaa.Fam
end Go.Proofs.Ytmbfjhhlpnjeoaa.Fam
namespace Go.Proofs.Ytmbfjhhlpnjeoaa.G
end Go.Proofs.Ytmbfjhhlpnjeoaa.G
namespace Go.Proofs.Ytmbfjhhlpnjeoaa.Man
end Go.Proofs.Ytmbfjhhlpnjeoaa.Man
namespace Go.Proofs.Ytmbfjhhlpnjeoaa.Ok
end Go.Proofs.Ytmbfjhhlpnjeoaa.Ok
namespace Go.Proofs.Ytmbfjhhlpnjeoaa.PL
end Go.Proofs.Ytmbfjhhlpnjeoaa.PL
namespace Go.Proofs.Ytmbfjhhlpnjeoaa.Q
end Go.Proofs.Ytmbfjhhlpnjeoaa.Q
namespace Go.Proofs.Ytmbfjhhlpnjeoaa.PL
open Go.RowKit Go.Proofs.YtmbfjhhlpnjeoaaW.PrintWords
theorem Ev.const {α : Type} {x : Option α} {r : α} (h : x = some r) : Ev (fun _ => x) r := ⟨0, fun _ _ => h⟩
theorem Ev.pos {α : Type} {c : Prop} [Decidable c] {f g : Nat → Option α} {r : α} (hc : c) (h : Ev f r) : Ev (fun k => if c then f k else g k) r := by
  obtain ⟨K, h⟩ := h
  exact ⟨K, fun k hk => (if_pos hc).trans (h k hk)⟩
theorem Ev.neg {α : Type} {c : Prop} [Decidable c] {f g : Nat → Option α} {r : α} (hc : ¬ c) (h : Ev g r) : Ev (fun k => if c then f k else g k) r := by
  obtain ⟨K, h⟩ := h
  exact ⟨K, fun k hk => (if_neg hc).trans (h k hk)⟩
theorem Ev.to {α : Type} {f : Nat → Option α} {r s : α} (h : Ev f r) (e : r = s) : Ev f s := e ▸ h
theorem w64 {x : Int} (h0 : -9223372036854775808 ≤ x) (h1 : x ≤ 9223372036854775807) : wrap64 x = x := by
  unfold wrap64
  omega
theorem wsucc {i : Nat} (h : i < 9223372036854775807) : wrap64 ((i : Int) + 1) = ((i + 1 : Nat) : Int) := by
  rw [w64 (by omega) (by omega)]
  omega
theorem bytes_eq {a b : ByteArray} : a.toList = b.toList ↔ a = b := by
  rw [ByteArray.toList_eq, ByteArray.toList_eq]
  constructor
  · intro h
    cases a; cases b
    simp at h
    simp [h]
  · intro h; rw [h]
end Go.Proofs.Ytmbfjhhlpnjeoaa.PL

namespace Go.Proofs.Ytmbfjhhlpnjeoaa.Q
open Go.RowKit Go.Proofs.Ytmbfjhhlpnjeoaa.PL Go.Proofs.YtmbfjhhlpnjeoaaW.PrintWords
def bs (s : ByteArray) : List UInt8 := s.data.toList
theorem bs_length (s : ByteArray) : (bs s).length = s.size := by unfold bs; rw [Array.length_toList]; rfl
theorem bs_inj {a b : ByteArray} (h : bs a = bs b) : a = b := by
  cases a; cases b
  simp [bs] at h
  simp [h]
theorem bs_mk (l : List UInt8) : bs ⟨l.toArray⟩ = l := by simp [bs]
theorem bs_append (a b : ByteArray) : bs (a ++ b) = bs a ++ bs b := by simp [bs]
theorem append_empty (a : ByteArray) : a ++ (⟨#[]⟩ : ByteArray) = a := bs_inj (by rw [bs_append]; exact List.append_nil _)
theorem bt_eq (s : ByteArray) (i : Nat) (h : i < s.size) : bt s (i : Int) = (((bs s)[i]'(by rw [bs_length]; exact h)).toNat : Int) := by
  unfold bt bs
  simp only [Int.toNat_natCast, h, dif_pos]
  rfl
theorem drop_bs (s : ByteArray) (i : Nat) (h : i < s.size) : (bs s).drop i = (bs s)[i]'(by rw [bs_length]; exact h) :: (bs s).drop (i + 1) := List.drop_eq_getElem_cons (by rw [bs_length]; exact h)
theorem u8_eq {a : UInt8} {n : Nat} (hn : n < 256) : ((a.toNat : Int) = (n : Int)) ↔ a = UInt8.ofNat n := by
  constructor
  · intro h
    apply UInt8.toNat.inj
    rw [UInt8.toNat_ofNat']
    omega
  · intro h
    rw [h, UInt8.toNat_ofNat']
    omega
end Go.Proofs.Ytmbfjhhlpnjeoaa.Q

namespace Go.Proofs.Ytmbfjhhlpnjeoaa.Q
open Go.RowKit Go.Proofs.Ytmbfjhhlpnjeoaa.G Go.Proofs.Ytmbfjhhlpnjeoaa.PL Go.Proofs.YtmbfjhhlpnjeoaaW.PrintWords
def clean (s : ByteArray) : Bool := (bs s).all fun b => b != 32 && b != 10
theorem spec_l10Clean_l0 (s : ByteArray) (hs : s.size ≤ 140737488351232) : ∀ (d i : Nat), i + d = s.size → Ev (fun k => spec_l10Clean.l0 k s i) (((bs s).drop i).all fun b => b != 32 && b != 10) := by
  intro d
  induction d with
  | zero =>
    intro i hi
    refine Ev.step (fun _ => rfl) ?_
    simp only [spec_l10Clean.l0]
    refine Ev.neg (by omega) ?_
    rw [List.drop_of_length_le (by rw [bs_length]; omega)]
    exact Ev.const rfl
  | succ d ih =>
    intro i hi
    have hlt : i < s.size := by omega
    refine Ev.step (fun _ => rfl) ?_
    simp only [spec_l10Clean.l0]
    rw [bt_eq s i hlt, drop_bs s i hlt, List.all_cons, wsucc (by omega)]
    refine Ev.pos (by omega) ?_
    refine Ev.pos (by omega) ?_
    generalize (bs s)[i]'_ = b
    by_cases c : (b.toNat : Int) = 32
    · refine Ev.pos c ?_
      have : b = 32 := (u8_eq (n := 32) (by omega)).1 c
      exact Ev.const (by simp [this])
    · refine Ev.neg c ?_
      have h1 : ¬ b = 32 := fun h => c ((u8_eq (n := 32) (by omega)).2 h)
      by_cases c2 : (b.toNat : Int) = 10
      · refine Ev.pos c2 ?_
        have : b = 10 := (u8_eq (n := 10) (by omega)).1 c2
        exact Ev.const (by simp [this])
      · refine Ev.neg c2 ?_
        have h2 : ¬ b = 10 := fun h => c2 ((u8_eq (n := 10) (by omega)).2 h)
        refine Ev.to (ih (i + 1) (by omega)) ?_
        simp [h1, h2]
theorem spec_l10Clean_ev (s : ByteArray) (hs : s.size ≤ 140737488351232) : Ev (fun k => spec_l10Clean.f k s) (clean s) := by
  unfold spec_l10Clean.f
  exact spec_l10Clean_l0 s hs s.size 0 (by omega)
theorem impl_isPlain_l0 (s : ByteArray) (hs : s.size ≤ 140737488351232) : ∀ (d i : Nat), i + d = s.size → Ev (fun k => impl_isPlain.l0 k s i) (((bs s).drop i).all fun b => b != 32 && b != 10) := by
  intro d
  induction d with
  | zero =>
    intro i hi
    refine Ev.step (fun _ => rfl) ?_
    simp only [impl_isPlain.l0]
    refine Ev.neg (by omega) ?_
    rw [List.drop_of_length_le (by rw [bs_length]; omega)]
    exact Ev.const rfl
  | succ d ih =>
    intro i hi
    have hlt : i < s.size := by omega
    refine Ev.step (fun _ => rfl) ?_
    simp only [impl_isPlain.l0]
    rw [bt_eq s i hlt, drop_bs s i hlt, List.all_cons, wsucc (by omega)]
    refine Ev.pos (by omega) ?_
    refine Ev.pos (by omega) ?_
    generalize (bs s)[i]'_ = b
    by_cases c : (b.toNat : Int) = 32
    · refine Ev.pos c ?_
      have : b = 32 := (u8_eq (n := 32) (by omega)).1 c
      exact Ev.const (by simp [this])
    · refine Ev.neg c ?_
      have h1 : ¬ b = 32 := fun h => c ((u8_eq (n := 32) (by omega)).2 h)
      by_cases c2 : (b.toNat : Int) = 10
      · refine Ev.pos c2 ?_
        have : b = 10 := (u8_eq (n := 10) (by omega)).1 c2
        exact Ev.const (by simp [this])
      · refine Ev.neg c2 ?_
        have h2 : ¬ b = 10 := fun h => c2 ((u8_eq (n := 10) (by omega)).2 h)
        refine Ev.to (ih (i + 1) (by omega)) ?_
        simp [h1, h2]
theorem impl_isPlain_ev (s : ByteArray) (hs : s.size ≤ 140737488351232) : Ev (fun k => impl_isPlain.f k s) (clean s) := by
  unfold impl_isPlain.f
  exact impl_isPlain_l0 s hs s.size 0 (by omega)
def itemOk (key val : ByteArray) (freq : Int) : Bool := decide (1 ≤ key.size) && decide (key.size ≤ 20) && clean key && decide (val.size ≤ 40) && clean val && decide (0 ≤ freq) && decide (freq ≤ 3)
theorem impl_within_eq (x lo hi : Int) : impl_within.f x lo hi = some (decide (lo ≤ x) && decide (x ≤ hi)) := by
  unfold impl_within.f
  by_cases h : x ≥ lo
  · rw [if_pos h]; simp [h]
  · rw [if_neg h]
    have : ¬ lo ≤ x := h
    simp [this]
theorem spec_l01In_eq (x lo hi : Int) : spec_l01In.f x lo hi = some (decide (lo ≤ x) && decide (x ≤ hi)) := by
  unfold spec_l01In.f
  by_cases h : x ≥ lo
  · rw [if_pos h]; simp [h]
  · rw [if_neg h]
    have : ¬ lo ≤ x := h
    simp [this]
theorem spec_ItemOk_ev (key val : ByteArray) (freq : Int) (h0 : key.size ≤ 140737488351232) (h1 : val.size ≤ 140737488351232) : Ev (fun k => spec_ItemOk.f k key val freq) (itemOk key val freq) := by
  unfold spec_ItemOk.f itemOk
  by_cases a : 1 ≤ key.size
  rotate_left
  · exact Ev.neg (by omega) (Ev.const (by simp [a]))
  refine Ev.pos (by omega) ?_
  by_cases b : key.size ≤ 20
  rotate_left
  · exact Ev.neg (by omega) (Ev.const (by simp [b]))
  refine Ev.pos (by omega) ?_
  refine Ev.bind (spec_l10Clean_ev key h0) ?_
  cases c : clean key
  · exact Ev.neg (by simp) (Ev.const (by simp))
  refine Ev.pos rfl ?_
  by_cases d : val.size ≤ 40
  rotate_left
  · exact Ev.neg (by omega) (Ev.const (by simp [d]))
  refine Ev.pos (by omega) ?_
  refine Ev.bind (spec_l10Clean_ev val h1) ?_
  cases e : clean val
  · exact Ev.neg (by simp) (Ev.const (by simp))
  refine Ev.pos rfl ?_
  refine Ev.bind (Ev.const (spec_l01In_eq _ _ _)) ?_
  exact Ev.const (by simp [a, b, d])
theorem impl_ItemOk_ev (key val : ByteArray) (freq : Int) (h0 : key.size ≤ 140737488351232) (h1 : val.size ≤ 140737488351232) : Ev (fun k => impl_ItemOk.f k key val freq) (itemOk key val freq) := by
  unfold impl_ItemOk.f itemOk
  refine Ev.bind (Ev.const (impl_within_eq _ _ _)) ?_
  by_cases a : 1 ≤ key.size
  rotate_left
  · exact Ev.neg (by simp; omega) (Ev.const (by simp [a]))
  by_cases b : key.size ≤ 20
  rotate_left
  · exact Ev.neg (by simp; omega) (Ev.const (by simp [b]))
  refine Ev.pos (by simp; omega) ?_
  by_cases d : val.size ≤ 40
  rotate_left
  · exact Ev.neg (by omega) (Ev.const (by simp [d]))
  refine Ev.pos (by omega) ?_
  refine Ev.bind (impl_isPlain_ev key h0) ?_
  cases c : clean key
  · exact Ev.neg (by simp) (Ev.const (by simp))
  refine Ev.pos rfl ?_
  refine Ev.bind (impl_isPlain_ev val h1) ?_
  cases e : clean val
  · exact Ev.neg (by simp) (Ev.const (by simp))
  refine Ev.pos rfl ?_
  refine Ev.bind (Ev.const (impl_within_eq _ _ _)) ?_
  exact Ev.const (by simp [a, b, d])
def isNum (a : Int) : Bool := decide (0 ≤ a) && decide (a ≤ 4294967295)
theorem spec_l01Num_eq (a : Int) : spec_l01Num.f a = some (isNum a) := by
  unfold spec_l01Num.f isNum
  by_cases h : a ≥ 0
  · rw [if_pos h]; simp [h]
  · rw [if_neg h]
    have : ¬ 0 ≤ a := h
    simp [this]
theorem impl_isNum_eq (a : Int) : impl_isNum.f a = some (isNum a) := by
  unfold impl_isNum.f isNum
  rw [impl_within_eq]
  rfl
def dg (n : Nat) : ByteArray := strOfNums [(48 + (n : Int))]
def dec (n : Nat) : ByteArray := if n < 10 then dg n else dec (n / 10) ++ dg (n % 10)
termination_by n
decreasing_by omega
theorem strOfNums_size1 (x : Int) : (strOfNums [x]).size = 1 := by simp [strOfNums, ByteArray.size]
theorem dg_size (n : Nat) : (dg n).size = 1 := strOfNums_size1 _
theorem dec_small {n : Nat} (h : n < 10) : dec n = dg n := by rw [dec, if_pos h]
theorem dec_big {n : Nat} (h : ¬ n < 10) : dec n = dec (n / 10) ++ dg (n % 10) := by rw [dec, if_neg h]
theorem dec_size : ∀ (m n : Nat), n < 10 ^ (m + 1) → 1 ≤ (dec n).size ∧ (dec n).size ≤ m + 1
  | 0, n, h => by rw [dec_small (by simpa using h), dg_size]; omega
  | m + 1, n, h => by
    by_cases c : n < 10
    · rw [dec_small c, dg_size]; omega
    · rw [dec_big c, ByteArray.size_append, dg_size]
      have := dec_size m (n / 10) (by rw [Nat.pow_succ] at h; omega)
      omega
theorem dec_size10 {n : Nat} (h : n ≤ 4294967295) : 1 ≤ (dec n).size ∧ (dec n).size ≤ 10 := dec_size 9 n (by omega)
theorem dig_w {n : Nat} (h : n < 10) : wrap64 (48 + (n : Int)) % 256 = 48 + (n : Int) := by rw [w64 (by omega) (by omega)]; omega
theorem tdiv10 (n : Nat) : Int.tdiv (n : Int) 10 = ((n / 10 : Nat) : Int) := by
  rw [Int.tdiv_eq_ediv_of_nonneg (by omega)]; omega
theorem tmod10 (n : Nat) : Int.tmod (n : Int) 10 = ((n % 10 : Nat) : Int) := by
  rw [Int.tmod_eq_emod_of_nonneg (by omega)]; omega
def numText (a : Int) : ByteArray := if isNum a = true then dec a.toNat else ⟨#[]⟩
theorem spec_NumText_nat : ∀ (m n : Nat), n < 10 ^ (m + 1) → n ≤ 4294967295 → Ev (fun k => spec_NumText.f k (n : Int)) (dec n) := by
  intro m
  induction m with
  | zero =>
    intro n h hb
    refine Ev.step (fun _ => rfl) ?_
    simp only [spec_NumText.f]
    refine Ev.bind (Ev.const (spec_l01Num_eq _)) ?_
    refine Ev.pos (by simp [isNum]; omega) ?_
    refine Ev.pos (by simp at h; omega) ?_
    rw [dig_w (by simpa using h), dec_small (by simpa using h)]
    exact Ev.const rfl
  | succ m ih =>
    intro n h hb
    refine Ev.step (fun _ => rfl) ?_
    simp only [spec_NumText.f]
    refine Ev.bind (Ev.const (spec_l01Num_eq _)) ?_
    refine Ev.pos (by simp [isNum]; omega) ?_
    by_cases c : n < 10
    · refine Ev.pos (by omega) ?_
      rw [dig_w c, dec_small c]
      exact Ev.const rfl
    · refine Ev.neg (by omega) ?_
      rw [tdiv10, tmod10, dig_w (by omega), w64 (x := ((n / 10 : Nat) : Int)) (by omega) (by omega), dec_big c]
      have hz := dec_size10 (n := n / 10) (by omega)
      have hd := dg_size (n % 10)
      refine Ev.bind (ih (n / 10) (by rw [Nat.pow_succ] at h; omega) (by omega)) ?_
      refine Ev.bind (Ev.const rfl) ?_
      refine Ev.pos ?_ (Ev.const rfl)
      have : (strOfNums [48 + ((n % 10 : Nat) : Int)]).size = 1 := strOfNums_size1 _
      omega
theorem spec_NumText_ev (a : Int) : Ev (fun k => spec_NumText.f k a) (numText a) := by
  unfold numText
  cases c : isNum a
  · refine Ev.step (fun _ => rfl) ?_
    simp only [spec_NumText.f]
    refine Ev.bind (Ev.const (spec_l01Num_eq _)) ?_
    exact Ev.neg (by simp [c]) (Ev.const (by simp))
  · have h : 0 ≤ a ∧ a ≤ 4294967295 := by simpa [isNum] using c
    obtain ⟨n, rfl⟩ := Int.eq_ofNat_of_zero_le h.1
    exact spec_NumText_nat 9 n (by omega) (by omega)
theorem impl_NumText_nat : ∀ (m n : Nat) (y : ByteArray), n < 10 ^ (m + 1) → n ≤ 4294967295 → y.size + m ≤ 1000 → Ev (fun k => impl_NumText.l0 k (n : Int) y) (dec n ++ y) := by
  intro m
  induction m with
  | zero =>
    intro n y h hb hy
    have hz : (strOfNums [48 + (n : Int)]).size = 1 := strOfNums_size1 _
    refine Ev.step (fun _ => rfl) ?_
    simp only [impl_NumText.l0]
    refine Ev.neg (by simp at h; omega) ?_
    rw [dig_w (by simpa using h), dec_small (by simpa using h)]
    refine Ev.bind (Ev.const rfl) ?_
    exact Ev.pos (by omega) (Ev.const rfl)
  | succ m ih =>
    intro n y h hb hy
    refine Ev.step (fun _ => rfl) ?_
    simp only [impl_NumText.l0]
    by_cases c : n < 10
    · have hz : (strOfNums [48 + (n : Int)]).size = 1 := strOfNums_size1 _
      refine Ev.neg (by omega) ?_
      rw [dig_w c, dec_small c]
      refine Ev.bind (Ev.const rfl) ?_
      exact Ev.pos (by omega) (Ev.const rfl)
    · refine Ev.pos (by omega) ?_
      rw [tdiv10, tmod10, dig_w (by omega), w64 (x := ((n / 10 : Nat) : Int)) (by omega) (by omega), dec_big c]
      have hz : (strOfNums [48 + ((n % 10 : Nat) : Int)]).size = 1 := strOfNums_size1 _
      refine Ev.bind (Ev.const rfl) ?_
      refine Ev.pos (by omega) ?_
      refine Ev.to (ih (n / 10) _ (by rw [Nat.pow_succ] at h; omega) (by omega) (by rw [ByteArray.size_append, hz]; omega)) ?_
      rw [ByteArray.append_assoc]; rfl
theorem impl_NumText_ev (a : Int) : Ev (fun k => impl_NumText.f k a) (numText a) := by
  unfold impl_NumText.f numText
  refine Ev.bind (Ev.const (impl_isNum_eq a)) ?_
  cases c : isNum a
  · exact Ev.neg (by simp) (Ev.const (by simp))
  · have h : 0 ≤ a ∧ a ≤ 4294967295 := by simpa [isNum] using c
    obtain ⟨n, rfl⟩ := Int.eq_ofNat_of_zero_le h.1
    refine Ev.pos rfl ?_
    refine Ev.to (impl_NumText_nat 9 n ⟨#[]⟩ (by omega) (by omega) (by rw [show (⟨#[]⟩ : ByteArray).size = 0 from rfl]; omega)) ?_
    rw [append_empty, if_pos rfl, Int.toNat_natCast]
theorem numText_size (a : Int) : (numText a).size ≤ 10 := by
  unfold numText
  cases c : isNum a
  · exact Nat.zero_le _
  · have h : 0 ≤ a ∧ a ≤ 4294967295 := by simpa [isNum] using c
    exact (dec_size10 (by omega)).2
def numFrom : List UInt8 → Int → Option Int
  | [], n => some n
  | b :: r, n => if (b.toNat : Int) < 48 then none else if (b.toNat : Int) > 57 then none else numFrom r (wrap64 (wrap64 (10 * n) + (((b.toNat : Int) - 48) % 256)))
def numEnd (s : ByteArray) : Option Int → Int × Bool
  | some n => if numText n = s then (n, true) else (0, false)
  | none => (0, false)
def textNum (s : ByteArray) : Int × Bool := if 1 ≤ s.size ∧ s.size ≤ 10 then numEnd s (numFrom (bs s) 0) else (0, false)
theorem spec_TextNum_l0 (s : ByteArray) (hs : s.size ≤ 10) : ∀ (d i : Nat) (n : Int), i + d = s.size → Ev (fun k => spec_TextNum.l0 k s n i) (numEnd s (numFrom ((bs s).drop i) n)) := by
  intro d
  induction d with
  | zero =>
    intro i n hi
    refine Ev.step (fun _ => rfl) ?_
    simp only [spec_TextNum.l0]
    refine Ev.neg (by omega) ?_
    rw [List.drop_of_length_le (by rw [bs_length]; omega), numFrom, numEnd]
    refine Ev.bind (spec_NumText_ev n) ?_
    by_cases c : numText n = s
    · exact Ev.pos (bytes_eq.2 c) (Ev.const (by rw [if_pos c]))
    · exact Ev.neg (fun h => c (bytes_eq.1 h)) (Ev.const (by rw [if_neg c]))
  | succ d ih =>
    intro i n hi
    have hlt : i < s.size := by omega
    refine Ev.step (fun _ => rfl) ?_
    simp only [spec_TextNum.l0]
    rw [bt_eq s i hlt, drop_bs s i hlt, numFrom, wsucc (by omega)]
    refine Ev.pos (by omega) ?_
    refine Ev.pos (by omega) ?_
    generalize (bs s)[i]'_ = b
    by_cases c : (b.toNat : Int) < 48
    · exact Ev.pos c (Ev.const (by rw [if_pos c]; rfl))
    refine Ev.neg c ?_
    rw [if_neg c]
    by_cases c2 : (b.toNat : Int) > 57
    · exact Ev.pos c2 (Ev.const (by rw [if_pos c2]; rfl))
    refine Ev.neg c2 ?_
    rw [if_neg c2]
    first | exact ih (i + 1) _ (by omega) | (rw [Int.mul_comm 10 n]; exact ih (i + 1) _ (by omega))
theorem impl_TextNum_l0 (s : ByteArray) (hs : s.size ≤ 10) : ∀ (d i : Nat) (n : Int), i + d = s.size → Ev (fun k => impl_TextNum.l0 k s n i) (numEnd s (numFrom ((bs s).drop i) n)) := by
  intro d
  induction d with
  | zero =>
    intro i n hi
    refine Ev.step (fun _ => rfl) ?_
    simp only [impl_TextNum.l0]
    refine Ev.neg (by omega) ?_
    rw [List.drop_of_length_le (by rw [bs_length]; omega), numFrom, numEnd]
    refine Ev.bind (impl_NumText_ev n) ?_
    by_cases c : numText n = s
    · exact Ev.pos (bytes_eq.2 c) (Ev.const (by rw [if_pos c]))
    · exact Ev.neg (fun h => c (bytes_eq.1 h)) (Ev.const (by rw [if_neg c]))
  | succ d ih =>
    intro i n hi
    have hlt : i < s.size := by omega
    refine Ev.step (fun _ => rfl) ?_
    simp only [impl_TextNum.l0]
    rw [bt_eq s i hlt, drop_bs s i hlt, numFrom, wsucc (by omega)]
    refine Ev.pos (by omega) ?_
    refine Ev.pos (by omega) ?_
    generalize (bs s)[i]'_ = b
    by_cases c : (b.toNat : Int) < 48
    · exact Ev.pos c (Ev.const (by rw [if_pos c]; rfl))
    refine Ev.neg c ?_
    rw [if_neg c]
    by_cases c2 : (b.toNat : Int) > 57
    · exact Ev.pos c2 (Ev.const (by rw [if_pos c2]; rfl))
    refine Ev.neg c2 ?_
    rw [if_neg c2]
    first | exact ih (i + 1) _ (by omega) | (rw [Int.mul_comm 10 n]; exact ih (i + 1) _ (by omega))
theorem spec_TextNum_ev (s : ByteArray) : Ev (fun k => spec_TextNum.f k s) (textNum s) := by
  unfold spec_TextNum.f textNum
  by_cases a : 1 ≤ s.size
  rotate_left
  · refine Ev.pos (by omega) (Ev.step (fun _ => rfl) ?_)
    simp only [spec_TextNum.j0]
    exact Ev.const (by rw [if_neg (by omega)])
  refine Ev.neg (by omega) (Ev.step (fun _ => rfl) ?_)
  simp only [spec_TextNum.j0]
  by_cases b : s.size ≤ 10
  · refine Ev.neg (by simp; omega) ?_
    rw [if_pos ⟨a, b⟩]
    exact spec_TextNum_l0 s b s.size 0 0 (by omega)
  · exact Ev.pos (by simp; omega) (Ev.const (by rw [if_neg (by omega)]))
theorem impl_TextNum_ev (s : ByteArray) : Ev (fun k => impl_TextNum.f k s) (textNum s) := by
  unfold impl_TextNum.f textNum
  refine Ev.bind (Ev.const (impl_within_eq _ _ _)) ?_
  by_cases a : 1 ≤ s.size ∧ s.size ≤ 10
  · refine Ev.pos (by simp; omega) ?_
    rw [if_pos a]
    exact impl_TextNum_l0 s a.2 s.size 0 0 (by omega)
  · exact Ev.neg (by simp; omega) (Ev.const (by rw [if_neg a]))
theorem numFrom_digits : ∀ (l : List UInt8) (n m : Int), numFrom l n = some m → ∀ b ∈ l, 48 ≤ b.toNat ∧ b.toNat ≤ 57
  | [], _, _, _ => by simp
  | b :: r, n, m, h => by
    rw [numFrom] at h
    by_cases c : (b.toNat : Int) < 48
    · rw [if_pos c] at h; cases h
    rw [if_neg c] at h
    by_cases c2 : (b.toNat : Int) > 57
    · rw [if_pos c2] at h; cases h
    rw [if_neg c2] at h
    intro x hx
    rcases List.mem_cons.1 hx with rfl | hx
    · omega
    · exact numFrom_digits r _ m h x hx
theorem textNum_ok {s : ByteArray} (h : (textNum s).2 = true) : numText (textNum s).1 = s ∧ ∀ b ∈ bs s, 48 ≤ b.toNat ∧ b.toNat ≤ 57 := by
  unfold textNum at h ⊢
  by_cases a : 1 ≤ s.size ∧ s.size ≤ 10
  rotate_left
  · rw [if_neg a] at h; cases h
  rw [if_pos a] at h ⊢
  cases e : numFrom (bs s) 0 with
  | none => rw [e] at h; cases h
  | some n =>
    rw [e] at h
    refine ⟨?_, numFrom_digits _ _ _ e⟩
    unfold numEnd at h ⊢
    by_cases c : numText n = s
    · simp only [if_pos c]
      exact c
    · simp only [if_neg c] at h
      cases h
theorem textNum_bad {s : ByteArray} (h : (textNum s).2 = false) : (textNum s).1 = 0 := by
  unfold textNum at h ⊢
  by_cases a : 1 ≤ s.size ∧ s.size ≤ 10
  rotate_left
  · rw [if_neg a]
  rw [if_pos a] at h ⊢
  cases e : numFrom (bs s) 0 with
  | none => rfl
  | some n =>
    rw [e] at h
    unfold numEnd at h ⊢
    by_cases c : numText n = s
    · simp only [if_pos c] at h
      cases h
    · simp only [if_neg c]
theorem numText_zero : numText 0 = (⟨#[48]⟩ : ByteArray) := by
  unfold numText
  rw [if_pos (by rfl), show (0 : Int).toNat = 0 from rfl, dec_small (by omega)]
  rfl
theorem textNum_zero : textNum (⟨#[48]⟩ : ByteArray) = (0, true) := by
  unfold textNum
  rw [if_pos (by decide)]
  have e : numFrom [48] 0 = some 0 := by
    unfold numFrom
    rw [if_neg (by decide), if_neg (by decide)]
    unfold numFrom
    rw [show ((UInt8.toNat 48 : Nat) : Int) = 48 from rfl]
    congr 1
    unfold wrap64
    omega
  rw [show bs (⟨#[48]⟩ : ByteArray) = [48] from rfl, e]
  unfold numEnd
  simp only [numText_zero, if_pos]
end Go.Proofs.Ytmbfjhhlpnjeoaa.Q

namespace Go.Proofs.Ytmbfjhhlpnjeoaa.Q
open Go.RowKit Go.Proofs.Ytmbfjhhlpnjeoaa.G Go.Proofs.Ytmbfjhhlpnjeoaa.PL Go.Proofs.Ytmbfjhhlpnjeoaa.Man Go.Proofs.YtmbfjhhlpnjeoaaW.PrintWords
def plain (s : ByteArray) : Bool := (bs s).all fun b => b != 61 && b != 42
theorem plain_mark (s : ByteArray) : hasMark s = !plain s := by
  unfold hasMark plain bs
  induction s.data.toList with
  | nil => rfl
  | cons x r ih => rw [List.any_cons, List.all_cons, ih]; cases h : x == 61 <;> cases h2 : x == 42 <;> simp_all [bne]
theorem plain_append (a b : ByteArray) : plain (a ++ b) = (plain a && plain b) := by
  unfold plain
  rw [bs_append, List.all_append]
theorem spec_l20Plain_l0 (s : ByteArray) (hs : s.size ≤ 140737488351232) : ∀ (d i : Nat), i + d = s.size → Ev (fun k => spec_l20Plain.l0 k s i) (((bs s).drop i).all fun b => b != 61 && b != 42) := by
  intro d
  induction d with
  | zero =>
    intro i hi
    refine Ev.step (fun _ => rfl) ?_
    simp only [spec_l20Plain.l0]
    refine Ev.neg (by omega) ?_
    rw [List.drop_of_length_le (by rw [bs_length]; omega)]
    exact Ev.const rfl
  | succ d ih =>
    intro i hi
    have hlt : i < s.size := by omega
    refine Ev.step (fun _ => rfl) ?_
    simp only [spec_l20Plain.l0]
    rw [bt_eq s i hlt, drop_bs s i hlt, List.all_cons, wsucc (by omega)]
    refine Ev.pos (by omega) ?_
    refine Ev.pos (by omega) ?_
    generalize (bs s)[i]'_ = b
    by_cases c : (b.toNat : Int) = 61
    · refine Ev.pos c ?_
      have : b = 61 := (u8_eq (n := 61) (by omega)).1 c
      exact Ev.const (by simp [this])
    · refine Ev.neg c ?_
      have h1 : ¬ b = 61 := fun h => c ((u8_eq (n := 61) (by omega)).2 h)
      by_cases c2 : (b.toNat : Int) = 42
      · refine Ev.pos c2 ?_
        have : b = 42 := (u8_eq (n := 42) (by omega)).1 c2
        exact Ev.const (by simp [this])
      · refine Ev.neg c2 ?_
        have h2 : ¬ b = 42 := fun h => c2 ((u8_eq (n := 42) (by omega)).2 h)
        refine Ev.to (ih (i + 1) (by omega)) ?_
        simp [h1, h2]
theorem spec_l20Plain_ev (s : ByteArray) (hs : s.size ≤ 140737488351232) : Ev (fun k => spec_l20Plain.f k s) (plain s) := by
  unfold spec_l20Plain.f
  exact spec_l20Plain_l0 s hs s.size 0 (by omega)
def itemText (key val : ByteArray) (freq : Int) : ByteArray := if itemOk key val freq = true ∧ plain key = true ∧ plain val = true then (((key ++ (⟨#[61]⟩ : ByteArray)) ++ val) ++ (⟨#[42]⟩ : ByteArray)) ++ numText freq else ⟨#[]⟩
theorem itemOk_sizes {key val : ByteArray} {freq : Int} (h : itemOk key val freq = true) : key.size ≤ 20 ∧ val.size ≤ 40 := by
  unfold itemOk at h
  simp only [Bool.and_eq_true, decide_eq_true_eq] at h
  omega
theorem spec_ItemText_ev (key val : ByteArray) (freq : Int) (h0 : key.size ≤ 140737488351232) (h1 : val.size ≤ 140737488351232) : Ev (fun k => spec_ItemText.f k key val freq) (itemText key val freq) := by
  unfold spec_ItemText.f itemText
  refine Ev.bind (spec_ItemOk_ev key val freq h0 h1) ?_
  cases a : itemOk key val freq
  · exact Ev.neg (by simp) (Ev.const (by simp))
  have hs := itemOk_sizes a
  have hn := numText_size freq
  refine Ev.pos rfl ?_
  refine Ev.bind (spec_l20Plain_ev key h0) ?_
  cases b : plain key
  · exact Ev.neg (by simp) (Ev.const (by simp))
  refine Ev.pos rfl ?_
  refine Ev.bind (spec_l20Plain_ev val h1) ?_
  cases c : plain val
  · exact Ev.neg (by simp) (Ev.const (by simp))
  refine Ev.pos rfl ?_
  refine Ev.pos (by omega) (Ev.pos (by omega) (Ev.pos (by omega) ?_))
  refine Ev.bind (spec_NumText_ev freq) ?_
  exact Ev.pos (by omega) (Ev.const (by simp))
theorem impl_ItemText_ev (key val : ByteArray) (freq : Int) (h0 : key.size ≤ 140737488351232) (h1 : val.size ≤ 140737488351232) : Ev (fun k => impl_ItemText.f k key val freq) (itemText key val freq) := by
  unfold impl_ItemText.f itemText
  refine Ev.bind (impl_ItemOk_ev key val freq h0 h1) ?_
  cases a : itemOk key val freq
  · exact Ev.neg (by simp) (Ev.const (by simp))
  have hs := itemOk_sizes a
  have hn := numText_size freq
  refine Ev.pos rfl (Ev.pos (by omega) ?_)
  refine Ev.bind (Ev.const (show strings_ContainsAny.f (key ++ val) (⟨#[61, 42]⟩ : ByteArray) = some (hasMark (key ++ val)) from if_pos ⟨rfl, by rw [ByteArray.size_append]; omega⟩)) ?_
  rw [plain_mark, plain_append]
  cases b : plain key
  · exact Ev.pos (by simp) (Ev.const (by simp))
  cases c : plain val
  · exact Ev.pos (by simp) (Ev.const (by simp))
  refine Ev.neg (by simp) ?_
  refine Ev.pos (by omega) (Ev.pos (by omega) (Ev.pos (by omega) ?_))
  refine Ev.bind (impl_NumText_ev freq) ?_
  exact Ev.pos (by omega) (Ev.const (by simp))
end Go.Proofs.Ytmbfjhhlpnjeoaa.Q

namespace Go.Proofs.Ytmbfjhhlpnjeoaa.Q
open Go.RowKit Go.Proofs.Ytmbfjhhlpnjeoaa.G Go.Proofs.Ytmbfjhhlpnjeoaa.PL Go.Proofs.Ytmbfjhhlpnjeoaa.CutL Go.Proofs.YtmbfjhhlpnjeoaaW.PrintWords
def mk (l : List UInt8) : ByteArray := ⟨l.toArray⟩
theorem bs_of_mk (l : List UInt8) : bs (mk l) = l := bs_mk l
theorem mk_of_bs (s : ByteArray) : mk (bs s) = s := bs_inj (bs_mk _)
theorem extract_mk (s : ByteArray) (a b : Nat) : s.extract a b = mk (((bs s).drop a).take (b - a)) := Lib.extract_eq s a b
def prep (p : List UInt8) : List (List UInt8) → List (List UInt8)
  | [] => [p]
  | h :: t => (p ++ h) :: t
def splitB (c : UInt8) : List UInt8 → List (List UInt8)
  | [] => [[]]
  | b :: r => if b = c then [] :: splitB c r else prep [b] (splitB c r)
theorem splitB_ne (c : UInt8) : ∀ l, ∃ h t, splitB c l = h :: t
  | [] => ⟨[], [], rfl⟩
  | b :: r => by
    rw [splitB]
    by_cases e : b = c
    · rw [if_pos e]; exact ⟨_, _, rfl⟩
    · obtain ⟨h, t, q⟩ := splitB_ne c r
      rw [if_neg e, q]; exact ⟨_, _, rfl⟩
theorem prep_prep (p q : List UInt8) (l : List (List UInt8)) : prep p (prep q l) = prep (p ++ q) l := by
  cases l <;> simp [prep]
theorem prep_nil {c : UInt8} {l : List UInt8} : prep [] (splitB c l) = splitB c l := by
  obtain ⟨h, t, q⟩ := splitB_ne c l
  rw [q]; rfl
theorem take_snoc (l : List UInt8) (f i : Nat) (h : f ≤ i) (hi : i < l.length) : (l.drop f).take (i + 1 - f) = (l.drop f).take (i - f) ++ [l[i]] := by
  have e : i + 1 - f = (i - f) + 1 := by omega
  rw [e, List.take_add_one, List.getElem?_drop, show f + (i - f) = i by omega, List.getElem?_eq_getElem hi]
  rfl
theorem spec_l01Cut_l0 (s : ByteArray) (c : UInt8) (hs : s.size ≤ 1048576) : ∀ (d i f : Nat) (out : List ByteArray), i + d = s.size → f ≤ i → out.length ≤ i → Ev (fun k => spec_l01Cut.l0 k s (c.toNat : Int) out (f : Int) (i : Int)) (out ++ (prep (((bs s).drop f).take (i - f)) (splitB c ((bs s).drop i))).map mk) := by
  intro d
  induction d with
  | zero =>
    intro i f out hi hf ho
    refine Ev.step (fun _ => rfl) ?_
    simp only [spec_l01Cut.l0]
    refine Ev.neg (by omega) (Ev.pos (by omega) (Ev.pos (by omega) (Ev.pos (by omega) ?_)))
    rw [List.drop_of_length_le (i := i) (by rw [bs_length]; omega), splitB, prep, Int.toNat_natCast, extract_mk, show s.size = i by omega]
    exact Ev.const (by simp)
  | succ d ih =>
    intro i f out hi hf ho
    have hlt : i < s.size := by omega
    refine Ev.step (fun _ => rfl) ?_
    simp only [spec_l01Cut.l0]
    rw [bt_eq s i hlt, drop_bs s i hlt, wsucc (by omega), splitB]
    refine Ev.pos (by omega) (Ev.pos (by omega) ?_)
    have hsn := take_snoc (bs s) f i hf (by rw [bs_length]; omega)
    generalize (bs s)[i]'_ = b at hsn ⊢
    by_cases e : b = c
    · refine Ev.pos (by rw [e]) (Ev.pos (by omega) (Ev.pos (by omega) (Ev.pos (by omega) (Ev.pos (by omega) ?_))))
      have h := ih (i + 1) (i + 1) (out ++ [s.extract f i]) (by omega) (by omega) (by rw [List.length_append, List.length_singleton]; omega)
      simp only [Int.toNat_natCast]
      refine Ev.to h ?_
      rw [if_pos e, Nat.sub_self, List.take_zero, prep_nil, extract_mk]
      simp [prep]
    · refine Ev.neg (fun h => e (UInt8.toNat.inj (by omega))) ?_
      have h := ih (i + 1) f out (by omega) (by omega) (by omega)
      refine Ev.to h ?_
      rw [if_neg e, prep_prep, hsn]
theorem spec_l01Cut_ev (s : ByteArray) (c : UInt8) (hs : s.size ≤ 1048576) : Ev (fun k => spec_l01Cut.f k s (c.toNat : Int)) ((splitB c (bs s)).map mk) := by
  unfold spec_l01Cut.f
  refine Ev.to (spec_l01Cut_l0 s c hs s.size 0 0 [] (by omega) (by omega) (by simp)) ?_
  rw [Nat.sub_self, List.take_zero, List.drop_zero, prep_nil, List.nil_append]
/-- the first instance of a byte, and what the cut tells -/
theorem split_idx (c : UInt8) : ∀ l : List UInt8, (Lib.indexByte l c = -1 ∧ splitB c l = [l]) ∨ ∃ i : Nat, Lib.indexByte l c = i ∧ i < l.length ∧ splitB c l = l.take i :: splitB c (l.drop (i + 1)) ∧ l = l.take i ++ c :: l.drop (i + 1)
  | [] => Or.inl ⟨rfl, rfl⟩
  | b :: r => by
    rw [splitB]
    unfold Lib.indexByte
    by_cases e : b = c
    · refine Or.inr ⟨0, ?_, by simp, ?_, ?_⟩
      · simp [e]
      · simp [e]
      · simp [e]
    · have e2 : (b == c) = false := beq_eq_false_iff_ne.2 e
      rw [if_neg e, e2]
      rcases split_idx c r with ⟨h1, h2⟩ | ⟨i, h1, h2, h3, h4⟩
      · refine Or.inl ⟨?_, ?_⟩
        · rw [h1]; rfl
        · rw [h2]; rfl
      · refine Or.inr ⟨i + 1, ?_, ?_, ?_, ?_⟩
        · have : ¬ ((i : Int) = -1) := by omega
          rw [h1]; simp [this]
        · rw [List.length_cons]; omega
        · rw [h3]; rfl
        · show b :: r = b :: (r.take i ++ c :: r.drop (i + 1))
          rw [← h4]
end Go.Proofs.Ytmbfjhhlpnjeoaa.Q

namespace Go.Proofs.Ytmbfjhhlpnjeoaa.Q
open Go.RowKit Go.Proofs.Ytmbfjhhlpnjeoaa.G Go.Proofs.Ytmbfjhhlpnjeoaa.PL Go.Proofs.Ytmbfjhhlpnjeoaa.Man Go.Proofs.Ytmbfjhhlpnjeoaa.CutL Go.Proofs.YtmbfjhhlpnjeoaaW.PrintWords
theorem cutAt_none {s : ByteArray} {c : UInt8} (h : Lib.indexByte (bs s) c = -1) : cutAt s c = (s, ByteArray.empty, false) := by
  have h : Lib.indexByte s.data.toList c = -1 := h
  unfold cutAt
  rw [h, if_neg (by omega)]
theorem cutAt_some {s : ByteArray} {c : UInt8} {i : Nat} (h : Lib.indexByte (bs s) c = i) : cutAt s c = (mk ((bs s).take i), mk ((bs s).drop (i + 1)), true) := by
  have h : Lib.indexByte s.data.toList c = i := h
  unfold cutAt
  rw [h, if_pos (by omega), Int.toNat_natCast, extract_mk, extract_mk, List.drop_zero, Nat.sub_zero, List.take_of_length_le (l := (bs s).drop (i + 1)) (by rw [List.length_drop, bs_length]; omega)]
theorem mk_size (l : List UInt8) : (mk l).size = l.length := by rw [← bs_length, bs_of_mk]
theorem cutAt_size (s : ByteArray) (c : UInt8) : (cutAt s c).1.size ≤ s.size ∧ (cutAt s c).2.1.size ≤ s.size := by
  rcases split_idx c (bs s) with ⟨h, _⟩ | ⟨i, h, hi, _⟩
  · rw [cutAt_none h]; exact ⟨Nat.le_refl _, Nat.zero_le _⟩
  · rw [cutAt_some h]
    refine ⟨?_, ?_⟩
    · rw [mk_size, List.length_take, bs_length]; omega
    · rw [mk_size, List.length_drop, bs_length]; omega
def textItem (s : ByteArray) : ByteArray × ByteArray × Int × Bool :=
  if (cutAt s 61).2.2 = true ∧ (cutAt (cutAt s 61).2.1 42).2.2 = true ∧ (textNum (cutAt (cutAt s 61).2.1 42).2.1).2 = true ∧ itemText (cutAt s 61).1 (cutAt (cutAt s 61).2.1 42).1 (textNum (cutAt (cutAt s 61).2.1 42).2.1).1 = s
  then ((cutAt s 61).1, (cutAt (cutAt s 61).2.1 42).1, (textNum (cutAt (cutAt s 61).2.1 42).2.1).1, true) else ((⟨#[]⟩ : ByteArray), (⟨#[]⟩ : ByteArray), 0, false)
theorem impl_TextItem_ev (s : ByteArray) (hs : s.size ≤ 1048576) : Ev (fun k => impl_TextItem.f k s) (textItem s) := by
  unfold impl_TextItem.f textItem
  have z1 := cutAt_size s 61
  have z2 := cutAt_size (cutAt s 61).2.1 42
  refine Ev.bind (Ev.const (show strings_Cut.f s (⟨#[61]⟩ : ByteArray) = some (cutAt s 61) from by unfold strings_Cut.f; rw [if_pos (by omega), if_pos rfl])) ?_
  refine Ev.bind (Ev.const (show strings_Cut.f (cutAt s 61).2.1 (⟨#[42]⟩ : ByteArray) = some (cutAt (cutAt s 61).2.1 42) from by unfold strings_Cut.f; rw [if_pos (by omega), if_neg (by decide), if_pos rfl])) ?_
  refine Ev.bind (impl_TextNum_ev _) ?_
  by_cases a : (cutAt s 61).2.2 = true
  rotate_left
  · exact Ev.neg a (Ev.const (by rw [if_neg (fun h => a h.1)]))
  refine Ev.pos a ?_
  by_cases b : (cutAt (cutAt s 61).2.1 42).2.2 = true
  rotate_left
  · exact Ev.neg b (Ev.const (by rw [if_neg (fun h => b h.2.1)]))
  refine Ev.pos b ?_
  by_cases c : (textNum (cutAt (cutAt s 61).2.1 42).2.1).2 = true
  rotate_left
  · exact Ev.neg c (Ev.const (by rw [if_neg (fun h => c h.2.2.1)]))
  refine Ev.pos c ?_
  refine Ev.bind (impl_ItemText_ev _ _ _ (by omega) (by omega)) ?_
  by_cases d : itemText (cutAt s 61).1 (cutAt (cutAt s 61).2.1 42).1 (textNum (cutAt (cutAt s 61).2.1 42).2.1).1 = s
  · exact Ev.pos (bytes_eq.2 d) (Ev.const (by rw [if_pos ⟨a, b, c, d⟩]))
  · exact Ev.neg (fun h => d (bytes_eq.1 h)) (Ev.const (by rw [if_neg (fun h => d h.2.2.2)]))
theorem item_marks {key val s : ByteArray} {n : Int} (h : itemText key val n = s) (hs : s ≠ (⟨#[]⟩ : ByteArray)) : plain key = true ∧ plain val = true ∧ bs s = bs key ++ 61 :: (bs val ++ 42 :: bs (numText n)) := by
  unfold itemText at h
  by_cases c : itemOk key val n = true ∧ plain key = true ∧ plain val = true
  · rw [if_pos c] at h
    refine ⟨c.2.1, c.2.2, ?_⟩
    rw [← h]
    simp only [bs_append]
    rw [show bs (⟨#[61]⟩ : ByteArray) = [61] from rfl, show bs (⟨#[42]⟩ : ByteArray) = [42] from rfl]
    simp
  · rw [if_neg c] at h
    exact absurd h.symm hs
theorem plain_not {s : ByteArray} (h : plain s = true) : (61 : UInt8) ∉ bs s ∧ (42 : UInt8) ∉ bs s := by
  unfold plain at h
  rw [List.all_eq_true] at h
  exact ⟨fun m => absurd (h _ m) (by decide), fun m => absurd (h _ m) (by decide)⟩
theorem digits_not {s : ByteArray} (h : (textNum s).2 = true) : (61 : UInt8) ∉ bs s ∧ (42 : UInt8) ∉ bs s := by
  have hd := (textNum_ok h).2
  exact ⟨fun m => absurd (hd _ m) (by decide), fun m => absurd (hd _ m) (by decide)⟩
theorem mem_of_split {c : UInt8} {l : List UInt8} {i : Nat} (h : l = l.take i ++ c :: l.drop (i + 1)) : c ∈ l := by
  rw [h]; simp
theorem spec_TextItem_ev (s : ByteArray) (hs : s.size ≤ 1048576) : Ev (fun k => spec_TextItem.f k s) (textItem s) := by
  unfold spec_TextItem.f textItem
  have h61 : Ev (fun k => spec_l01Cut.f k s 61) _ := spec_l01Cut_ev s 61 hs
  refine Ev.bind h61 ?_
  clear h61
  rcases split_idx 61 (bs s) with ⟨h1, h2⟩ | ⟨i, h1, h2, h3, h4⟩
  · rw [h2, cutAt_none h1]
    exact Ev.neg (by simp) (Ev.const (by simp))
  rw [h3, cutAt_some h1]
  have hi : i < s.size := by rw [bs_length] at h2; exact h2
  have hK : ((bs s).take i).length ≤ 1048576 := by rw [List.length_take, bs_length]; omega
  have hR : ((bs s).drop (i + 1)).length ≤ 1048576 := by rw [List.length_drop, bs_length]; omega
  have hne : s ≠ (⟨#[]⟩ : ByteArray) := by intro e; rw [e] at hi; exact absurd hi (by simp [ByteArray.size])
  clear h1 h2 h3 hi
  generalize (bs s).take i = K at *
  generalize (bs s).drop (i + 1) = R at *
  rcases split_idx 61 R with ⟨g1, g2⟩ | ⟨j, g1, g2, g3, g4⟩
  rotate_left
  · -- a second 61
    have hm : (61 : UInt8) ∈ R := mem_of_split g4
    have hl : ∀ x y : List UInt8, ¬ (((List.map mk (K :: x :: splitB 61 y)).length : Int) = 2) := by
      intro x y
      obtain ⟨h, t, q⟩ := splitB_ne 61 y
      rw [q]; simp; omega
    rw [g3]
    refine Ev.neg (hl _ _) (Ev.const ?_)
    rw [if_neg]
    rintro ⟨_, hb, hn, he⟩
    simp only at hb hn he
    rcases split_idx 42 R with ⟨k1, k2⟩ | ⟨k, k1, k2, k3, k4⟩
    · rw [cutAt_none (by rw [bs_of_mk]; exact k1)] at hb; cases hb
    · rw [cutAt_some (by rw [bs_of_mk]; exact k1), bs_of_mk] at hn he
      have hp := (plain_not (item_marks he hne).2.1).1
      have hd := (digits_not hn).1
      rw [bs_of_mk] at hp hd
      rw [k4] at hm
      rcases List.mem_append.1 hm with h | h
      · exact hp h
      · rcases List.mem_cons.1 h with h | h
        · exact absurd h (by decide)
        · exact hd h
  rw [g2]
  refine Ev.pos (by simp) (Ev.pos (by simp) ?_)
  have er1 : rdOf ByteArray.empty (List.map mk [K, R]) 1 = mk R := rfl
  have er0 : rdOf ByteArray.empty (List.map mk [K, R]) 0 = mk K := rfl
  rw [er1, er0]
  have h42 : Ev (fun k => spec_l01Cut.f k (mk R) 42) _ := spec_l01Cut_ev (mk R) 42 (by rw [mk_size]; exact hR)
  refine Ev.bind h42 ?_
  clear h42 er0 er1
  rw [bs_of_mk]
  rcases split_idx 42 R with ⟨k1, k2⟩ | ⟨k, k1, k2, k3, k4⟩
  · rw [k2, cutAt_none (s := mk R) (c := 42) (by rw [bs_of_mk]; exact k1)]
    exact Ev.neg (by simp) (Ev.const (by simp))
  rw [k3, cutAt_some (s := mk R) (c := 42) (by rw [bs_of_mk]; exact k1), bs_of_mk]
  have hV : (R.take k).length ≤ 1048576 := by rw [List.length_take]; omega
  clear k1 k2 k3
  generalize R.take k = V at *
  generalize R.drop (k + 1) = F at *
  simp only
  rcases split_idx 42 F with ⟨m1, m2⟩ | ⟨m, m1, m2, m3, m4⟩
  rotate_left
  · have hm : (42 : UInt8) ∈ F := mem_of_split m4
    have hl : ∀ x y : List UInt8, ¬ (((List.map mk (V :: x :: splitB 42 y)).length : Int) = 2) := by
      intro x y
      obtain ⟨h, t, q⟩ := splitB_ne 42 y
      rw [q]; simp; omega
    rw [m3]
    refine Ev.neg (hl _ _) (Ev.const ?_)
    rw [if_neg]
    rintro ⟨_, _, hn, _⟩
    have hd := (digits_not hn).2
    rw [bs_of_mk] at hd
    exact hd hm
  rw [m2]
  refine Ev.pos (by simp) (Ev.pos (by simp) ?_)
  have er1 : rdOf ByteArray.empty (List.map mk [V, F]) 1 = mk F := rfl
  have er0 : rdOf ByteArray.empty (List.map mk [V, F]) 0 = mk V := rfl
  rw [er1, er0]
  refine Ev.bind (spec_TextNum_ev (mk F)) ?_
  refine Ev.pos (by simp) (Ev.pos (by simp) ?_)
  refine Ev.bind (spec_ItemText_ev _ _ _ (by rw [mk_size]; omega) (by rw [mk_size]; omega)) ?_
  by_cases d : itemText (mk K) (mk V) (textNum (mk F)).1 = s
  · refine Ev.pos (bytes_eq.2 d) (Ev.const ?_)
    have hn : (textNum (mk F)).2 = true := by
      cases q : (textNum (mk F)).2
      · have hz := textNum_bad q
        rw [hz] at d
        have hb := (item_marks d hne).2.2
        rw [h4, k4, bs_of_mk, bs_of_mk] at hb
        have hb := (List.cons.inj (List.append_cancel_left (List.cons.inj (List.append_cancel_left hb)).2)).2
        have hF : mk F = (⟨#[48]⟩ : ByteArray) := by rw [hb, mk_of_bs, numText_zero]
        rw [hF, textNum_zero] at q
        cases q
      · rfl
    rw [if_pos ⟨trivial, trivial, hn, d⟩]
  · exact Ev.neg (fun h => d (bytes_eq.1 h)) (Ev.const (by rw [if_neg (fun h => d h.2.2.2)]))
end Go.Proofs.Ytmbfjhhlpnjeoaa.Q

namespace Go.Proofs.Ytmbfjhhlpnjeoaa.Open
open Go.RowKit Go.Proofs.YtmbfjhhlpnjeoaaW.PrintWords
/-- Whatever is read at type t is of the kind k, and meets ok. -/
def Opn {α : Type} (P : Program) (t : TypeId) (k : Kd α) (ok : α → Prop) : Prop :=
  ∀ (H : Type) (enc : TypeId × Value → H) (W : World) (fuel : Nat) (cs : List Value) (d : DataW H) (ps : List MemPlace),
    DataW.trod enc P W 0 (fun _ => true) true fuel t cs = some (d, ps) → (∀ n ∈ d.weights P t, n ≤ reachBytes) → ∃ x, k.K W x cs ∧ ok x
theorem Opn.int {P : Program} {t : TypeId} {q : IntKind} (ht : P.underlying t = some (.int q)) : Opn P t (Kd.int q) (fun n => (Lit.int q n).wf = true) := by
  intro H enc W fuel cs d ps h _
  obtain ⟨n, rfl, _, hw⟩ := DataW.trod_int ht h
  exact ⟨n, rfl, hw⟩
theorem Opn.bool {P : Program} {t : TypeId} (ht : P.underlying t = some .bool) : Opn P t Kd.bool (fun _ => True) := by
  intro H enc W fuel cs d ps h _
  obtain ⟨b, rfl, _⟩ := DataW.trod_bool ht h
  exact ⟨b, rfl, trivial⟩
theorem Opn.string {P : Program} {t : TypeId} (ht : P.underlying t = some .string) : Opn P t Kd.string (fun s => s.size ≤ 140737488351232) := by
  intro H enc W fuel cs d ps h hz
  obtain ⟨s, rfl, hx, _⟩ := DataW.trod_string ht h
  refine ⟨s, rfl, ?_⟩
  obtain ⟨rfl, _⟩ := Prod.mk.inj hx
  have := hz s.data.toList.length (by simp [DataW.weights])
  rw [Array.length_toList] at this
  exact this
theorem Opn.mono {α : Type} {P : Program} {t : TypeId} {k : Kd α} {ok ok' : α → Prop} (h : Opn P t k ok) (hok : ∀ x, ok x → ok' x) : Opn P t k ok' := by
  intro H enc W fuel cs d ps hd hz
  obtain ⟨x, hx, ho⟩ := h H enc W fuel cs d ps hd hz
  exact ⟨x, hx, hok x ho⟩
/-- The fields from one on, one behind the other. -/
def OpnFs {α : Type} (P : Program) (fs : List Field) (off : Nat) (k : Kd α) (ok : α → Prop) : Prop :=
  ∀ (H : Type) (enc : TypeId × Value → H) (W : World) (fuel : Nat) (cs : List Value) (xs : List (DataW H × List MemPlace)),
    xs.length = fs.length → (∀ (i : Nat) (f : Field), fs[i]? = some f → DataW.trod enc P W 0 (fun _ => true) true fuel f.type ((cs.drop f.offset).take (P.cellsOf f.type)) = xs[i]?) →
    (∀ n ∈ DataW.weightsEach P (fs.map (·.type)) (xs.map (·.1)), n ≤ reachBytes) → ∃ x, k.K W x ((cs.drop off).take k.sz) ∧ ok x
theorem OpnFs.one {α : Type} {P : Program} {f : Field} {off : Nat} {k : Kd α} {ok : α → Prop} (ho : f.offset = off) (hc : P.cellsOf f.type = k.sz) (h : Opn P f.type k ok) : OpnFs P [f] off k ok := by
  intro H enc W fuel cs xs hl hx hz
  have h0 := hx 0 f rfl
  rw [ho, hc] at h0
  match xs, hl with
  | [x], _ =>
    refine h H enc W fuel _ x.1 x.2 h0 (fun n hn => hz n ?_)
    simp [DataW.weightsEach, hn]
theorem OpnFs.cons {α β : Type} {P : Program} {f : Field} {fs : List Field} {off : Nat} {k : Kd α} {k2 : Kd β} {ok : α → Prop} {ok2 : β → Prop} (ho : f.offset = off) (hc : P.cellsOf f.type = k.sz) (h : Opn P f.type k ok)
    (h2 : OpnFs P fs (off + k.sz) k2 ok2) : OpnFs P (f :: fs) off (Kd.pair k k2) (fun x => ok x.1 ∧ ok2 x.2) := by
  intro H enc W fuel cs xs hl hx hz
  have h0 := hx 0 f rfl
  rw [ho, hc] at h0
  match xs, hl with
  | x :: xs, hl =>
    obtain ⟨a, ha, hoa⟩ := h H enc W fuel _ x.1 x.2 h0 (fun n hn => hz n (by simp [DataW.weightsEach, hn]))
    obtain ⟨b, hb, hob⟩ := h2 H enc W fuel cs xs (by simpa using hl) (fun i g hg => by simpa using hx (i + 1) g (by simpa using hg)) (fun n hn => hz n (by simp only [List.map_cons, DataW.weightsEach, List.mem_append]; exact Or.inr hn))
    refine ⟨(a, b), ⟨_, _, ?_, ha, hb⟩, hoa, hob⟩
    show (cs.drop off).take (k.sz + k2.sz) = _
    rw [List.take_add, List.drop_drop]
theorem Opn.struct {α : Type} {P : Program} {t : TypeId} {fs : Array Field} {k : Kd α} {ok : α → Prop} (ht : P.underlying t = some (.struct fs)) (hc : P.cellsOf t = k.sz) (h : OpnFs P fs.toList 0 k ok) : Opn P t k ok := by
  intro H enc W fuel cs d ps hd hz
  obtain ⟨xs, n, rfl, hx, hl, hxl, hf⟩ := DataW.trod_struct ht hd
  obtain ⟨rfl, _⟩ := Prod.mk.inj hx
  obtain ⟨x, hK, ho⟩ := h H enc W n cs xs (by simpa using hxl) (fun i f hi => hf i f (by simpa using hi)) (fun m hm => hz m (by simp only [DataW.weights, ht]; exact hm))
  refine ⟨x, ?_, ho⟩
  rw [List.drop_zero, List.take_of_length_le (by omega)] at hK
  exact hK
theorem weightsAll_mem {H : Type} {P : Program} {e : TypeId} : ∀ {l : List (DataW H)} {d : DataW H}, d ∈ l → ∀ n ∈ d.weights P e, n ∈ DataW.weightsAll P e l
  | a :: l, d, hd, n, hn => by
    simp only [DataW.weightsAll, List.mem_append]
    rcases List.mem_cons.1 hd with rfl | hd
    · exact .inl hn
    · exact .inr (weightsAll_mem hd n hn)
theorem choose_list {α : Type} (p : Nat → α → Prop) : ∀ (n : Nat), (∀ i, i < n → ∃ x, p i x) → ∃ xs : List α, xs.length = n ∧ ∀ i x, xs[i]? = some x → p i x
  | 0, _ => ⟨[], rfl, fun i x h => by simp at h⟩
  | n + 1, h => by
    obtain ⟨xs, hl, hx⟩ := choose_list p n (fun i hi => h i (by omega))
    obtain ⟨y, hy⟩ := h n (by omega)
    refine ⟨xs ++ [y], by simp [hl], fun i x hi => ?_⟩
    rcases Nat.lt_or_ge i n with hin | hin
    · rw [List.getElem?_append_left (by omega)] at hi
      exact hx i x hi
    · rw [List.getElem?_append_right (by omega)] at hi
      have : i - xs.length = 0 := by
        rcases Nat.eq_zero_or_pos (i - xs.length) with h0 | h0
        · exact h0
        · rw [List.getElem?_eq_none (by simp; omega)] at hi
          cases hi
      rw [this] at hi
      simp only [List.getElem?_cons_zero, Option.some.injEq] at hi
      subst hi
      have : i = n := by omega
      subst this
      exact hy
theorem Opn.slice {α : Type} {P : Program} {t e : TypeId} {k : Kd α} {ok : α → Prop} (B : Nat) (ht : P.underlying t = some (.slice e)) (hc : P.cellsOf e = k.sz) (hB : P.bytesOf e = B) (h : Opn P e k ok) :
    Opn P t (Kd.slice e k) (fun xs => (∀ x ∈ xs, ok x) ∧ xs.length * B ≤ 140737488351232) := by
  intro H enc W fuel cs d ps hd hz
  rcases DataW.trod_slice ht hd with ⟨rfl, _⟩ | ⟨a, len, cap, elems, rest, n, rfl, rfl, hx, _, hl, hm, hel, hcell, _, _⟩
  · exact ⟨[], ⟨none, 0, rfl, Nat.le_refl _, Kd.C_nil _ _⟩, by simp, by simp⟩
  · obtain ⟨rfl, _⟩ := Prod.mk.inj hx
    have hz0 := hz (((elems.map (·.1)).length + (rest.map (·.1)).length) * P.bytesOf e) (by simp only [DataW.weights, ht]; exact List.mem_cons_self)
    have hpick : ∀ i, i < len → ∃ x : α, (∃ c, c.length = k.sz ∧ k.K W x c ∧ ∀ j u, c[j]? = some u → W.cell? (a.add (i * k.sz + j)) = some u) ∧ ok x := by
      intro i hi
      have h1 := hcell i hi
      rw [List.getElem?_eq_getElem (by omega)] at h1
      obtain ⟨c, hc1, hc2⟩ := Option.bind_eq_some_iff.1 h1
      obtain ⟨_, hcl, hcc⟩ := World.cells?_some hc1
      obtain ⟨x, hx, ho⟩ := h H enc W n c _ _ hc2 (fun m hm => hz m (by
        simp only [DataW.weights, ht, List.mem_cons, List.mem_append]
        exact .inr (.inl (weightsAll_mem (List.mem_map.2 ⟨_, List.getElem_mem (by omega), rfl⟩) m hm))))
      refine ⟨x, ⟨c, by omega, hx, fun j u hu => ?_⟩, ho⟩
      have hj : j < c.length := by
        rcases Nat.lt_or_ge j c.length with hj | hj
        · exact hj
        · rw [List.getElem?_eq_none hj] at hu; cases hu
      have := hcc j (by omega)
      rw [hu, hc] at this
      rw [← this]
      rw [Addr.add_add]
    obtain ⟨xs, hxl, hxs⟩ := choose_list _ len hpick
    subst hxl
    refine ⟨xs, ⟨some a, cap, rfl, hl, rfl, by unfold maxLen at hm; omega, fun _ => ⟨a, rfl, fun j p hj => (hxs j p hj).1⟩⟩, fun x hx => ?_, ?_⟩
    · obtain ⟨i, hi⟩ := List.getElem?_of_mem hx
      exact (hxs i x hi).2
    · rw [hB] at hz0
      refine Nat.le_trans (Nat.mul_le_mul_right _ ?_) hz0
      simp only [List.length_map]
      omega
end Go.Proofs.Ytmbfjhhlpnjeoaa.Open

namespace Go.Proofs.Ytmbfjhhlpnjeoaa.Fam
open Go.RowKit Go.Proofs.Ytmbfjhhlpnjeoaa.G Go.Proofs.Ytmbfjhhlpnjeoaa.PL Go.Proofs.Ytmbfjhhlpnjeoaa.Ok Go.Proofs.YtmbfjhhlpnjeoaaW.PrintWords Go.Proofs.YtmbfjhhlpnjeoaaW.PrintLast Go.Proofs.YtmbfjhhlpnjeoaaW.PrintMore
set_option linter.unusedVariables false
set_option linter.unusedSimpArgs false
instance decItem : DecidableEq S23 := fun a b => decidable_of_iff (a.f0 = b.f0 ∧ a.f1 = b.f1 ∧ a.f2 = b.f2) (by cases a; cases b; simp)
theorem eqItem_ev (x0 : ByteArray) (x1 : ByteArray) (x2 : Int)  : Ev (fun k => laws_eqItem.f x0 x1 x2 x0 x1 x2) true := by
  unfold laws_eqItem.f
  refine Ev.pos rfl ?_
  refine Ev.pos rfl ?_
  refine Ev.pos rfl ?_
  exact Ev.const rfl
end Go.Proofs.Ytmbfjhhlpnjeoaa.Fam

namespace Go.Proofs.Ytmbfjhhlpnjeoaa.Pure
open Go.RowKit Go.Proofs.Ytmbfjhhlpnjeoaa.G Go.Proofs.Ytmbfjhhlpnjeoaa.PL Go.Proofs.Ytmbfjhhlpnjeoaa.Fam Go.Proofs.Ytmbfjhhlpnjeoaa.Q Go.Proofs.YtmbfjhhlpnjeoaaW.PrintWords Go.Proofs.YtmbfjhhlpnjeoaaW.PrintLast
theorem FnExactTextItem : laws_FnExactTextItem.Pure := by
  intro x0 o0
  apply Ev.rounds
  unfold laws_FnExactTextItem.f
  by_cases c0 : (x0.size : Int) > 1048576
  · exact Ev.pos c0 (Ev.const rfl)
  refine Ev.neg c0 ?_
  refine Ev.bind (spec_TextItem_ev x0 (by omega)) ?_
  refine Ev.bind (impl_TextItem_ev x0 (by omega)) ?_
  refine Ev.bind (eqItem_ev _ _ _) ?_
  refine Ev.pos rfl (Ev.neg (by simp) (Ev.const rfl))
end Go.Proofs.Ytmbfjhhlpnjeoaa.Pure

namespace Go.Proofs.Ytmbfjhhlpnjeoaa.fnExactTextItem
open Go.ChangeShapes Go.WideShapes Go.ChangeAt Go.RowKit
open Go.ChangeMaps (open_string shut_string)
set_option linter.unusedVariables false
theorem own : ownKnob Try.prog.godebug = none := by kernel_rfl
set_option maxRecDepth 100000 in
theorem lifted (os : Os) (started : os.Started) (H : Type) (enc : TypeId × Value → H) :
    ReturnsInHanded {} Try.checked os 3 .any (Rows.fnExactTextItemSpec.pre6 enc Try.prog Try.f3 Rows.fnExactTextItemRow.domain false) (Rows.fnExactTextItemSpec.post enc Try.prog Try.f3 false true false false) := by
  refine returnsInHanded_of_change_sized (C := Try.checked) own started (by kernel_rfl) Try.func3
    (ChangeSpec.witness6 (enc := enc) (C := Try.checked) false ⟨#[], #[.string ByteArray.empty], []⟩ 8 (by kernel_rfl) (by kernel_rfl) (by kernel_rfl) (by kernel_rfl)) ?_
  intro W base args ds gs before hval0 hW hcnd hsz0 _
  have hsz : (DataW.weightsEach Try.prog (Try.f3.params.toList ++ Rows.fnExactTextItemSpec.plain.varTypes Try.prog) (ds ++ gs)).all (· ≤ reachBytes) = true := hsz0
  have hval : ∀ (j : Nat) t v, Try.f3.params[j]? = some t → args[j]? = some v → Value.okWide Try.prog W .any base t v := hval0
  have hW' := hW
  obtain ⟨p, q, hA0, hV, rfl, hfz, hnd⟩ := hW
  have hA : DataW.TrodAll enc Try.prog W 0 (fun _ => true) true Try.f3.params.toList args.toList ds p := hA0
  rw [Try.params3] at hA hval hsz
  obtain ⟨v0, vs0, d0, ds0, p0, q0, hargs, rfl, rfl, h0, r0⟩ := trodAll_cons hA
  obtain ⟨rfl, rfl, rfl⟩ := trodAll_nil r0
  obtain rfl : args = #[v0] := by cases args; simp_all
  obtain ⟨rfl, rfl⟩ := trodVars_none hV
  obtain ⟨a0, rfl, rfl, rfl, y0⟩ := open_string Try.underlying9 (hval 0 9 v0 rfl rfl) h0
  have w0 : a0.size ≤ 140737488351232 := by
    have z := sized_string hsz (j := 0) (t := 9) rfl rfl
    rw [Array.length_toList] at z
    exact z
  clear hA0 hval0 hsz0 hsz
  refine (G.laws_FnExactTextItem.walk Pure.FnExactTextItem a0 W w0).mono fun e W' ⟨he, bel⟩ => ?_
  subst he
  exact ⟨_, rfl, _, _, _, [], _, [], hW', trodAll_mk1 (shut_bool Try.underlying4 _), (trodAll_cons_mk (shut_string Try.underlying9 y0) trodAll_mk0), rfl, bel.frame _, fun h => by cases h⟩
theorem over : Rows.fnExactTextItemRow.holds Try.pinned (OpenSpec.ofChange Rows.fnExactTextItemSpec) :=
  OpenClaim.holds_of_wide 3 Try.f3 rfl rfl rfl rfl rfl rfl rfl ⟨rfl, rfl, rfl, rfl, rfl⟩ rfl rfl rfl rfl rfl (by kernel_rfl) Try.func3 (by kernel_rfl)
    (of_decide_eq_true (by kernel_rfl)) (by unfold Func.isWrapper; first | (rw [if_pos (by decide +kernel)]; kernel_rfl) | (rw [if_neg (by decide +kernel)]; exact ⟨rfl, rfl⟩))
    (fun os started H enc _ => lifted os started H enc)
theorem proved : Rows.FnExactTextItemSaid := over
end Go.Proofs.Ytmbfjhhlpnjeoaa.fnExactTextItem
namespace Go.Proofs.Ytmbfjhhlpnjeoaa
/-- The row, under a short name, for the claim. -/
theorem fnExactTextItem_holds : Rows.FnExactTextItemSaid := fnExactTextItem.proved
end Go.Proofs.Ytmbfjhhlpnjeoaa
