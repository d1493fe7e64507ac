/- With all buckets open each key stands in the chain of its own bucket, and in no other; opening moves nothing; the bytes are at most 1048576, or the law asks nothing. Part 6 of the claim FnChain, merged by pack.py (this session's program) out of: the print's words, cut to what is needed; texts that gen.py printed (it runs the kit's print in place); texts of this session. -/
import Derived.Laws.BitsLemmas
import Derived.Laws.BitsAllLaws
import Derived.Lib.QuoteBits
import Derived.KernelRfl
import Derived.Test.YtbjlldjkkdiblaaRows
import Derived.WalkKit
import Derived.ProofKit
import Derived.OpenShut
import Derived.ShutString
import Derived.ChangeOld
import Derived.Below
import Derived.SizedLaws
import Derived.Test.YtbjlldjkkdiblaaKFnChain0
import Derived.Test.YtbjlldjkkdiblaaKFnChain1
import Derived.Test.YtbjlldjkkdiblaaKFnChain2
import Derived.Test.YtbjlldjkkdiblaaKFnChain3
import Derived.Test.YtbjlldjkkdiblaaKFnChain4
import Derived.Test.YtbjlldjkkdiblaaKFnChain5
namespace Go.Proofs.Ytbjlldjkkdiblaa.Fam
end Go.Proofs.Ytbjlldjkkdiblaa.Fam
namespace Go.Proofs.Ytbjlldjkkdiblaa.G
end Go.Proofs.Ytbjlldjkkdiblaa.G
namespace Go.Proofs.Ytbjlldjkkdiblaa.Ok
end Go.Proofs.Ytbjlldjkkdiblaa.Ok
namespace Go.Proofs.Ytbjlldjkkdiblaa.PL
end Go.Proofs.Ytbjlldjkkdiblaa.PL
namespace Go.Proofs.Ytbjlldjkkdiblaa.Q
end Go.Proofs.Ytbjlldjkkdiblaa.Q
namespace Go.Proofs.Ytbjlldjkkdiblaa.PL
open Go.RowKit Go.Proofs.YtbjlldjkkdiblaaW.PrintWords
theorem Ev.const {α : Type} {x : Option α} {r : α} (h : x = some r) : Ev (fun _ => x) r := ⟨0, fun _ _ => h⟩
theorem Ev.pos {α : Type} {c : Prop} [Decidable c] {f g : Nat → Option α} {r : α} (hc : c) (h : Ev f r) : Ev (fun k => if c then f k else g k) r := by
 obtain ⟨K, h⟩ := h
 exact ⟨K, fun k hk => (if_pos hc).trans (h k hk)⟩
theorem Ev.neg {α : Type} {c : Prop} [Decidable c] {f g : Nat → Option α} {r : α} (hc : ¬ c) (h : Ev g r) : Ev (fun k => if c then f k else g k) r := by
 obtain ⟨K, h⟩ := h
 exact ⟨K, fun k hk => (if_neg hc).trans (h k hk)⟩
theorem Ev.to {α : Type} {f : Nat → Option α} {r s : α} (h : Ev f r) (e : r = s) : Ev f s := e ▸ h
theorem w64 {x : Int} (h0 : -9223372036854775808 ≤ x) (h1 : x ≤ 9223372036854775807) : wrap64 x = x := by
 unfold wrap64
 omega
theorem wsucc {i : Nat} (h : i < 9223372036854775807) : wrap64 ((i : Int) + 1) = ((i + 1 : Nat) : Int) := by
 rw [w64 (by omega) (by omega)]
 omega
theorem getD_at {α : Type} {xs : List α} {i : Nat} (h : i < xs.length) (z : α) : xs.getD ((i : Nat) : Int).toNat z = xs[i] := by
 simp [List.getD_eq_getElem?_getD, h]
theorem drop_at {α : Type} {xs : List α} {i : Nat} (h : i < xs.length) : xs.drop i = xs[i] :: xs.drop (i + 1) := List.drop_eq_getElem_cons h
theorem bytes_eq {a b : ByteArray} : a.toList = b.toList ↔ a = b := by
 rw [ByteArray.toList_eq, ByteArray.toList_eq]
 constructor
 ·intro h
  cases a; cases b
  simp at h
  simp [h]
 ·intro h; rw [h]
theorem bytes_beq (a b : ByteArray) : (a.toList == b.toList) = decide (a = b) := by
 rw [Bool.eq_iff_iff]
 simp [bytes_eq]
/-- What is left of a when m are taken off, or -1. -/
def left (a : Int) (m : Nat) : Int := if (m : Int) ≤ a then a - m else -1
end Go.Proofs.Ytbjlldjkkdiblaa.PL
namespace Go.Proofs.Ytbjlldjkkdiblaa.Ok
end Go.Proofs.Ytbjlldjkkdiblaa.Ok
namespace Go.Proofs.Ytbjlldjkkdiblaa.Fam
end Go.Proofs.Ytbjlldjkkdiblaa.Fam
namespace Go.Proofs.Ytbjlldjkkdiblaa.Q
end Go.Proofs.Ytbjlldjkkdiblaa.Q

namespace Go.Proofs.Ytbjlldjkkdiblaa.Q
open Go.RowKit Go.Proofs.Ytbjlldjkkdiblaa.G Go.Proofs.Ytbjlldjkkdiblaa.PL Go.Proofs.YtbjlldjkkdiblaaW.PrintWords
theorem i64_and255 (n : Int) : Go.bits .and .i64 n 255 = n % 256 := by
 have h255 : (BitVec.ofInt 64 255).toNat = 2 ^ 8 - 1 := by decide
 have key : (BitVec.ofInt 64 n &&& BitVec.ofInt 64 255).toNat = (n % ((2 ^ 64 : Nat) : Int)).toNat % 2 ^ 8 := by
  rw [BitVec.toNat_and, BitVec.toNat_ofInt, h255, Nat.and_two_pow_sub_one_eq_mod]
 show IntKind.i64.wrap ((BitVec.ofInt 64 n &&& BitVec.ofInt 64 255).toNat : Nat) = n % 256
 rw [key, Go.IntKind.wrap_i64]
 omega
theorem l01New_ev (l : List Int) (_ : l.length ≤ 1048576) : ∃ h : Int, Ev (fun k => spec_l01New.f k l) (l, 0, h) := by
 have go : ∀ (d i : Nat) (h : Int), i + d = l.length → ∃ h' : Int, Ev (fun k => spec_l01New.l0 k l h (i : Int)) (l, 0, h') := by
  intro d
  induction d with
  | zero =>
   intro i h hi
   refine ⟨h, Ev.step (fun _ => rfl) ?_⟩
   simp only [spec_l01New.l0]
   exact Ev.neg (by omega) (Ev.const rfl)
  | succ d ih =>
   intro i h hi
   by_cases c : i < 4000
   ·obtain ⟨h', e⟩ := ih (i + 1) (Go.bits .and .i64 (wrap64 ((wrap64 ((wrap64 (h * 179)) + (wrap64 (rd l (i : Int))))) + 7)) 1073741823) (by omega)
    refine ⟨h', Ev.step (fun _ => rfl) ?_⟩
    simp only [spec_l01New.l0]
    refine Ev.pos (by omega) (Ev.pos (by omega) (Ev.pos (by omega) ?_))
    rw [wsucc (by omega)]
    exact e
   ·refine ⟨h, Ev.step (fun _ => rfl) ?_⟩
    simp only [spec_l01New.l0]
    exact Ev.pos (by omega) (Ev.neg (by omega) (Ev.const rfl))
 unfold spec_l01New.f
 exact go l.length 0 _ (by omega)
theorem l01Byte_ex (b : List Int) (i h : Int) (hl : b.length ≤ 1048576) (hi : 0 ≤ i) : ∃ x i' h' : Int, spec_l01Byte.f b i h = some (x, i', h') ∧ 0 ≤ x ∧ x ≤ 255 ∧ 0 ≤ i' := by
 unfold spec_l01Byte.f
 by_cases c : i < (b.length : Int)
 ·rw [if_pos c, if_pos hi]
  refine ⟨_, _, _, rfl, ?_, ?_, ?_⟩
  ·rw [i64_and255]; omega
  ·rw [i64_and255]; omega
  ·rw [w64 (by omega) (by omega)]; omega
 ·rw [if_neg c]
  refine ⟨_, _, _, rfl, ?_, ?_, hi⟩
  ·rw [i64_and255]; omega
  ·rw [i64_and255]; omega
theorem l01Below_ex (b : List Int) (i h n : Int) (hl : b.length ≤ 1048576) (hi : 0 ≤ i) (hn : n ≤ 256) : ∃ x i' h' : Int, spec_l01Below.f b i h n = some (x, i', h') ∧ 0 ≤ x ∧ (0 < n → x < n) ∧ (n ≤ 0 → x = 0) ∧ 0 ≤ i' := by
 unfold spec_l01Below.f
 by_cases c : n ≤ 0
 ·rw [if_pos c]
  exact ⟨0, i, h, rfl, by omega, fun h => by omega, fun _ => rfl, hi⟩
 ·obtain ⟨x, i', h', e, x0, x1, hi'⟩ := l01Byte_ex b i h hl hi
  rw [if_neg c, if_pos hn, e, Option.bind_some, if_neg (by omega)]
  refine ⟨_, _, _, rfl, ?_, fun _ => ?_, fun h => absurd h c, hi'⟩
  ·rw [Int.tmod_eq_emod_of_nonneg x0]
   exact Int.emod_nonneg _ (by omega)
  ·rw [Int.tmod_eq_emod_of_nonneg x0]
   exact Int.emod_lt_of_pos _ (by omega)
theorem l01Of_ex (b : List Int) (i h : Int) (l : List ByteArray) (hb : b.length ≤ 1048576) (hi : 0 ≤ i) (h0 : 0 < l.length) (h1 : l.length ≤ 256) : ∃ (s : ByteArray) (i' h' : Int), spec_l01Of.f b i h l = some (s, i', h') ∧ s ∈ l ∧ 0 ≤ i' := by
 obtain ⟨x, i', h', e, x0, x1, _, hi'⟩ := l01Below_ex b i h (l.length : Int) hb hi (by omega)
 have hx := x1 (by omega)
 unfold spec_l01Of.f
 rw [e, Option.bind_some, if_pos x0, if_pos hx]
 obtain ⟨n, rfl⟩ := Int.eq_ofNat_of_zero_le x0
 have hn : n < l.length := by omega
 refine ⟨_, _, _, rfl, ?_, hi'⟩
 have er : rdOf ByteArray.empty l ((n : Nat) : Int) = l[n] := getD_at hn _
 show rdOf ByteArray.empty l ((n : Nat) : Int) ∈ l
 rw [er]
 exact List.getElem_mem hn
end Go.Proofs.Ytbjlldjkkdiblaa.Q

namespace Go.Proofs.Ytbjlldjkkdiblaa.Q
open Go.RowKit Go.Proofs.Ytbjlldjkkdiblaa.PL Go.Proofs.YtbjlldjkkdiblaaW.PrintWords
def bs (s : ByteArray) : List UInt8 := s.data.toList
theorem bs_length (s : ByteArray) : (bs s).length = s.size := by unfold bs; rw [Array.length_toList]; rfl
theorem bs_inj {a b : ByteArray} (h : bs a = bs b) : a = b := by
 cases a; cases b
 simp [bs] at h
 simp [h]
theorem bs_toList (a : ByteArray) : a.toList = bs a := ByteArray.toList_eq a
theorem toList_nil {a : ByteArray} : a.toList = [] ↔ a = ⟨#[]⟩ := by
 rw [bs_toList]
 exact ⟨fun h => bs_inj (by rw [h]; rfl), fun h => by rw [h]; rfl⟩
theorem bt_eq (s : ByteArray) (i : Nat) (h : i < s.size) : bt s (i : Int) = (((bs s)[i]'(by rw [bs_length]; exact h)).toNat : Int) := by
 unfold bt bs
 simp only [Int.toNat_natCast, h, dif_pos]
 rfl
theorem drop_bs (s : ByteArray) (i : Nat) (h : i < s.size) : (bs s).drop i = (bs s)[i]'(by rw [bs_length]; exact h) :: (bs s).drop (i + 1) := List.drop_eq_getElem_cons (by rw [bs_length]; exact h)
theorem u8_eq {a : UInt8} {n : Nat} (hn : n < 256) : ((a.toNat : Int) = (n : Int)) ↔ a = UInt8.ofNat n := by
 constructor
 ·intro h
  apply UInt8.toNat.inj
  rw [UInt8.toNat_ofNat']
  omega
 ·intro h
  rw [h, UInt8.toNat_ofNat']
  omega
end Go.Proofs.Ytbjlldjkkdiblaa.Q

namespace Go.Proofs.Ytbjlldjkkdiblaa.Q
open Go.RowKit Go.Proofs.Ytbjlldjkkdiblaa.G Go.Proofs.Ytbjlldjkkdiblaa.PL Go.Proofs.YtbjlldjkkdiblaaW.PrintWords
def clean (s : ByteArray) : Bool := (bs s).all fun b => b != 32 && b != 10
theorem spec_l10Clean_l0 (s : ByteArray) (hs : s.size ≤ 140737488351232) : ∀ (d i : Nat), i + d = s.size → Ev (fun k => spec_l10Clean.l0 k s i) (((bs s).drop i).all fun b => b != 32 && b != 10) := by
 intro d
 induction d with
 | zero =>
  intro i hi
  refine Ev.step (fun _ => rfl) ?_
  simp only [spec_l10Clean.l0]
  refine Ev.neg (by omega) ?_
  rw [List.drop_of_length_le (by rw [bs_length]; omega)]
  exact Ev.const rfl
 | succ d ih =>
  intro i hi
  have hlt : i < s.size := by omega
  refine Ev.step (fun _ => rfl) ?_
  simp only [spec_l10Clean.l0]
  rw [bt_eq s i hlt, drop_bs s i hlt, List.all_cons, wsucc (by omega)]
  refine Ev.pos (by omega) ?_
  refine Ev.pos (by omega) ?_
  generalize (bs s)[i]'_ = b
  by_cases c : (b.toNat : Int) = 32
  ·refine Ev.pos c ?_
   have : b = 32 := (u8_eq (n := 32) (by omega)).1 c
   exact Ev.const (by simp [this])
  ·refine Ev.neg c ?_
   have h1 : ¬ b = 32 := fun h => c ((u8_eq (n := 32) (by omega)).2 h)
   by_cases c2 : (b.toNat : Int) = 10
   ·refine Ev.pos c2 ?_
    have : b = 10 := (u8_eq (n := 10) (by omega)).1 c2
    exact Ev.const (by simp [this])
   ·refine Ev.neg c2 ?_
    have h2 : ¬ b = 10 := fun h => c2 ((u8_eq (n := 10) (by omega)).2 h)
    refine Ev.to (ih (i + 1) (by omega)) ?_
    simp [h1, h2]
theorem spec_l10Clean_ev (s : ByteArray) (hs : s.size ≤ 140737488351232) : Ev (fun k => spec_l10Clean.f k s) (clean s) := by
 unfold spec_l10Clean.f
 exact spec_l10Clean_l0 s hs s.size 0 (by omega)
theorem impl_isPlain_l0 (s : ByteArray) (hs : s.size ≤ 140737488351232) : ∀ (d i : Nat), i + d = s.size → Ev (fun k => impl_isPlain.l0 k s i) (((bs s).drop i).all fun b => b != 32 && b != 10) := by
 intro d
 induction d with
 | zero =>
  intro i hi
  refine Ev.step (fun _ => rfl) ?_
  simp only [impl_isPlain.l0]
  refine Ev.neg (by omega) ?_
  rw [List.drop_of_length_le (by rw [bs_length]; omega)]
  exact Ev.const rfl
 | succ d ih =>
  intro i hi
  have hlt : i < s.size := by omega
  refine Ev.step (fun _ => rfl) ?_
  simp only [impl_isPlain.l0]
  rw [bt_eq s i hlt, drop_bs s i hlt, List.all_cons, wsucc (by omega)]
  refine Ev.pos (by omega) ?_
  refine Ev.pos (by omega) ?_
  generalize (bs s)[i]'_ = b
  by_cases c : (b.toNat : Int) = 32
  ·refine Ev.pos c ?_
   have : b = 32 := (u8_eq (n := 32) (by omega)).1 c
   exact Ev.const (by simp [this])
  ·refine Ev.neg c ?_
   have h1 : ¬ b = 32 := fun h => c ((u8_eq (n := 32) (by omega)).2 h)
   by_cases c2 : (b.toNat : Int) = 10
   ·refine Ev.pos c2 ?_
    have : b = 10 := (u8_eq (n := 10) (by omega)).1 c2
    exact Ev.const (by simp [this])
   ·refine Ev.neg c2 ?_
    have h2 : ¬ b = 10 := fun h => c2 ((u8_eq (n := 10) (by omega)).2 h)
    refine Ev.to (ih (i + 1) (by omega)) ?_
    simp [h1, h2]
theorem impl_isPlain_ev (s : ByteArray) (hs : s.size ≤ 140737488351232) : Ev (fun k => impl_isPlain.f k s) (clean s) := by
 unfold impl_isPlain.f
 exact impl_isPlain_l0 s hs s.size 0 (by omega)
def itemOk (key val : ByteArray) (freq : Int) : Bool := decide (1 ≤ key.size) && decide (key.size ≤ 20) && clean key && decide (val.size ≤ 40) && clean val && decide (0 ≤ freq) && decide (freq ≤ 3)
theorem impl_within_eq (x lo hi : Int) : impl_within.f x lo hi = some (decide (lo ≤ x) && decide (x ≤ hi)) := by
 unfold impl_within.f
 by_cases h : x ≥ lo
 ·rw [if_pos h]; simp [h]
 ·rw [if_neg h]
  have : ¬ lo ≤ x := h
  simp [this]
theorem spec_l01In_eq (x lo hi : Int) : spec_l01In.f x lo hi = some (decide (lo ≤ x) && decide (x ≤ hi)) := by
 unfold spec_l01In.f
 by_cases h : x ≥ lo
 ·rw [if_pos h]; simp [h]
 ·rw [if_neg h]
  have : ¬ lo ≤ x := h
  simp [this]
theorem spec_ItemOk_ev (key val : ByteArray) (freq : Int) (h0 : key.size ≤ 140737488351232) (h1 : val.size ≤ 140737488351232) : Ev (fun k => spec_ItemOk.f k key val freq) (itemOk key val freq) := by
 unfold spec_ItemOk.f itemOk
 by_cases a : 1 ≤ key.size
 rotate_left
 ·exact Ev.neg (by omega) (Ev.const (by simp [a]))
 refine Ev.pos (by omega) ?_
 by_cases b : key.size ≤ 20
 rotate_left
 ·exact Ev.neg (by omega) (Ev.const (by simp [b]))
 refine Ev.pos (by omega) ?_
 refine Ev.bind (spec_l10Clean_ev key h0) ?_
 cases c : clean key
 ·exact Ev.neg (by simp) (Ev.const (by simp))
 refine Ev.pos rfl ?_
 by_cases d : val.size ≤ 40
 rotate_left
 ·exact Ev.neg (by omega) (Ev.const (by simp [d]))
 refine Ev.pos (by omega) ?_
 refine Ev.bind (spec_l10Clean_ev val h1) ?_
 cases e : clean val
 ·exact Ev.neg (by simp) (Ev.const (by simp))
 refine Ev.pos rfl ?_
 refine Ev.bind (Ev.const (spec_l01In_eq _ _ _)) ?_
 exact Ev.const (by simp [a, b, d])
theorem impl_ItemOk_ev (key val : ByteArray) (freq : Int) (h0 : key.size ≤ 140737488351232) (h1 : val.size ≤ 140737488351232) : Ev (fun k => impl_ItemOk.f k key val freq) (itemOk key val freq) := by
 unfold impl_ItemOk.f itemOk
 refine Ev.bind (Ev.const (impl_within_eq _ _ _)) ?_
 by_cases a : 1 ≤ key.size
 rotate_left
 ·exact Ev.neg (by simp; omega) (Ev.const (by simp [a]))
 by_cases b : key.size ≤ 20
 rotate_left
 ·exact Ev.neg (by simp; omega) (Ev.const (by simp [b]))
 refine Ev.pos (by simp; omega) ?_
 by_cases d : val.size ≤ 40
 rotate_left
 ·exact Ev.neg (by omega) (Ev.const (by simp [d]))
 refine Ev.pos (by omega) ?_
 refine Ev.bind (impl_isPlain_ev key h0) ?_
 cases c : clean key
 ·exact Ev.neg (by simp) (Ev.const (by simp))
 refine Ev.pos rfl ?_
 refine Ev.bind (impl_isPlain_ev val h1) ?_
 cases e : clean val
 ·exact Ev.neg (by simp) (Ev.const (by simp))
 refine Ev.pos rfl ?_
 refine Ev.bind (Ev.const (impl_within_eq _ _ _)) ?_
 exact Ev.const (by simp [a, b, d])
def isNum (a : Int) : Bool := decide (0 ≤ a) && decide (a ≤ 4294967295)
theorem spec_l01Num_eq (a : Int) : spec_l01Num.f a = some (isNum a) := by
 unfold spec_l01Num.f isNum
 by_cases h : a ≥ 0
 ·rw [if_pos h]; simp [h]
 ·rw [if_neg h]
  have : ¬ 0 ≤ a := h
  simp [this]
theorem impl_isNum_eq (a : Int) : impl_isNum.f a = some (isNum a) := by
 unfold impl_isNum.f isNum
 rw [impl_within_eq]
 rfl
def rvOn : Nat → Nat → Nat → Nat
 | 0, _, out => out
 | j + 1, n, out => rvOn j (n / 2) (out * 2 + n % 2)
def flip (n : Nat) : Nat := rvOn 32 n 0
theorem rvOn_bit : ∀ (j n out i : Nat), (rvOn j n out).testBit i = if i < j then n.testBit (j - 1 - i) else out.testBit (i - j)
 | 0, n, out, i => by simp [rvOn]
 | j + 1, n, out, i => by
  rw [rvOn, rvOn_bit j]
  by_cases a : i < j
  ·rw [if_pos a, if_pos (by omega), ← Nat.testBit_succ]
   congr 1; omega
  ·rw [if_neg a]
   by_cases b : i = j
   ·subst b
    rw [if_pos (by omega), Nat.sub_self, show i + 1 - 1 - i = 0 by omega, Nat.testBit_zero, Nat.testBit_zero]
    congr 1
    apply propext
    omega
   ·rw [if_neg (by omega), show i - j = (i - (j + 1)) + 1 by omega, Nat.testBit_succ]
    congr 1; omega
theorem flip_bit (n i : Nat) : (flip n).testBit i = (decide (i < 32) && n.testBit (31 - i)) := by
 rw [flip, rvOn_bit]
 by_cases a : i < 32
 ·simp [a]
 ·simp [a]
theorem rvOn_lt : ∀ (j n out : Nat), rvOn j n out < (out + 1) * 2 ^ j
 | 0, n, out => by simp [rvOn]
 | j + 1, n, out => by
  rw [rvOn]
  refine Nat.lt_of_lt_of_le (rvOn_lt j _ _) ?_
  rw [Nat.pow_succ, Nat.mul_comm (2 ^ j) 2, ← Nat.mul_assoc]
  exact Nat.mul_le_mul_right _ (by omega)
theorem flip_lt (n : Nat) : flip n < 4294967296 := by
 have := rvOn_lt 32 n 0
 rw [flip]; omega
def sw (m p x : Nat) : Nat := (x / 2 ^ p &&& m) ||| (((x &&& m) * 2 ^ p) % 4294967296)
theorem sw_bit (m p x i : Nat) : (sw m p x).testBit i = ((x.testBit (i + p) && m.testBit i) || (decide (i < 32) && (decide (p ≤ i) && (x.testBit (i - p) && m.testBit (i - p))))) := by
 rw [sw, Nat.testBit_or, Nat.testBit_and, Nat.testBit_div_two_pow, show (4294967296 : Nat) = 2 ^ 32 from rfl, Nat.testBit_mod_two_pow, Nat.testBit_mul_two_pow, Nat.testBit_and]
theorem sw_lt (m p x : Nat) (hx : x < 4294967296) : sw m p x < 4294967296 := by
 have h1 : x / 2 ^ p &&& m < 2 ^ 32 := Nat.lt_of_le_of_lt (Nat.and_le_left) (Nat.lt_of_le_of_lt (Nat.div_le_self _ _) hx)
 have h2 : ((x &&& m) * 2 ^ p) % 4294967296 < 2 ^ 32 := Nat.mod_lt _ (by decide)
 exact Nat.or_lt_two_pow h1 h2
theorem sw_int (m p x : Nat) (hx : x < 4294967296) (hm : m < 4294967296) : Go.bits .or .u32 (Go.bits .and .u32 ((x : Int) / ((2 ^ p : Nat) : Int)) (m : Int)) ((Go.bits .and .u32 (x : Int) (m : Int) * ((2 ^ p : Nat) : Int)) % 4294967296) = ((sw m p x : Nat) : Int) := by
 have h1 : x / 2 ^ p < 4294967296 := Nat.lt_of_le_of_lt (Nat.div_le_self _ _) hx
 have h2 : ((x &&& m) * 2 ^ p) % 4294967296 < 4294967296 := Nat.mod_lt _ (by decide)
 have h3 : x / 2 ^ p &&& m < 4294967296 := Nat.lt_of_le_of_lt (Nat.and_le_left) h1
 rw [← Int.natCast_ediv, Go.u32_and_nat _ _ h1 hm, Go.u32_and_nat _ _ hx hm, ← Int.natCast_mul]
 rw [show (((x &&& m) * 2 ^ p : Nat) : Int) % 4294967296 = ((((x &&& m) * 2 ^ p) % 4294967296 : Nat) : Int) from rfl, Go.u32_or_nat _ _ h3 h2]
 rfl
/-- The last step has no mask. -/
def sx (x : Nat) : Nat := (x / 65536) ||| ((x * 65536) % 4294967296)
theorem sx_bit (x i : Nat) : (sx x).testBit i = (x.testBit (i + 16) || (decide (i < 32) && (decide (16 ≤ i) && x.testBit (i - 16)))) := by
 rw [sx, Nat.testBit_or, show (65536 : Nat) = 2 ^ 16 from rfl, Nat.testBit_div_two_pow, show (4294967296 : Nat) = 2 ^ 32 from rfl, Nat.testBit_mod_two_pow, Nat.testBit_mul_two_pow]
theorem sx_int (x : Nat) (hx : x < 4294967296) : Go.bits .or .u32 ((x : Int) / 65536) (((x : Int) * 65536) % 4294967296) = ((sx x : Nat) : Int) := by
 have h1 : x / 65536 < 4294967296 := by omega
 have h2 : (x * 65536) % 4294967296 < 4294967296 := Nat.mod_lt _ (by decide)
 have := Go.u32_or_nat (x / 65536) ((x * 65536) % 4294967296) h1 h2
 exact this
def revN (x : Nat) : Nat := sx (sw 16711935 8 (sw 252645135 4 (sw 858993459 2 (sw 1431655765 1 x))))
theorem two32 {i : Nat} (h : 32 ≤ i) : 4294967296 ≤ 2 ^ i := Nat.le_trans (by decide : 4294967296 ≤ 2 ^ 32) (Nat.pow_le_pow_right (by decide) h)
def mk1 (i : Nat) : Bool := decide (i < 32) && decide (i % 2 = 0)
def mk2 (i : Nat) : Bool := decide (i < 32) && decide (i % 4 < 2)
def mk4 (i : Nat) : Bool := decide (i < 32) && decide (i % 8 < 4)
def mk8 (i : Nat) : Bool := decide (i < 32) && decide (i % 16 < 8)
theorem mk_low {m : Nat} {f : Nat → Bool} (hm : m < 4294967296) (h : ∀ i : Fin 32, m.testBit i = f i) (hf : ∀ i, 32 ≤ i → f i = false) (i : Nat) : m.testBit i = f i := by
 by_cases a : i < 32
 ·exact h ⟨i, a⟩
 ·rw [hf i (by omega)]
  exact Nat.testBit_lt_two_pow (Nat.lt_of_lt_of_le hm (two32 (by omega)))
theorem m1 (i : Nat) : Nat.testBit 1431655765 i = mk1 i := mk_low (by decide) (by decide) (fun i h => by simp [mk1]; omega) i
theorem m2 (i : Nat) : Nat.testBit 858993459 i = mk2 i := mk_low (by decide) (by decide) (fun i h => by simp [mk2]; omega) i
theorem m4 (i : Nat) : Nat.testBit 252645135 i = mk4 i := mk_low (by decide) (by decide) (fun i h => by simp [mk4]; omega) i
theorem m8 (i : Nat) : Nat.testBit 16711935 i = mk8 i := mk_low (by decide) (by decide) (fun i h => by simp [mk8]; omega) i
theorem sw1_bit (x i : Nat) (h : i < 32) : (sw 1431655765 1 x).testBit i = x.testBit (if i % 2 = 0 then i + 1 else i - 1) := by
 rw [sw_bit, m1, m1]
 by_cases a : i % 2 = 0
 ·have b : ¬ ((i - 1) % 2 = 0 ∧ 1 ≤ i) := by omega
  by_cases c : 1 ≤ i
  ·simp [mk1, a, h, c, show ¬ (i - 1) % 2 = 0 by omega]
  ·simp [mk1, a, h, c]
 ·simp [mk1, a, h, show 1 ≤ i by omega, show (i - 1) % 2 = 0 by omega, show i - 1 < 32 by omega]
theorem sw2_bit (x i : Nat) (h : i < 32) : (sw 858993459 2 x).testBit i = x.testBit (if i % 4 < 2 then i + 2 else i - 2) := by
 rw [sw_bit, m2, m2]
 by_cases a : i % 4 < 2
 ·by_cases c : 2 ≤ i
  ·simp [mk2, a, h, c, show ¬ (i - 2) % 4 < 2 by omega]
  ·simp [mk2, a, h, c]
 ·simp [mk2, a, h, show 2 ≤ i by omega, show (i - 2) % 4 < 2 by omega, show i - 2 < 32 by omega]
theorem sw4_bit (x i : Nat) (h : i < 32) : (sw 252645135 4 x).testBit i = x.testBit (if i % 8 < 4 then i + 4 else i - 4) := by
 rw [sw_bit, m4, m4]
 by_cases a : i % 8 < 4
 ·by_cases c : 4 ≤ i
  ·simp [mk4, a, h, c, show ¬ (i - 4) % 8 < 4 by omega]
  ·simp [mk4, a, h, c]
 ·simp [mk4, a, h, show 4 ≤ i by omega, show (i - 4) % 8 < 4 by omega, show i - 4 < 32 by omega]
theorem sw8_bit (x i : Nat) (h : i < 32) : (sw 16711935 8 x).testBit i = x.testBit (if i % 16 < 8 then i + 8 else i - 8) := by
 rw [sw_bit, m8, m8]
 by_cases a : i % 16 < 8
 ·by_cases c : 8 ≤ i
  ·simp [mk8, a, h, c, show ¬ (i - 8) % 16 < 8 by omega]
  ·simp [mk8, a, h, c]
 ·simp [mk8, a, h, show 8 ≤ i by omega, show (i - 8) % 16 < 8 by omega, show i - 8 < 32 by omega]
theorem sx_bit' (x i : Nat) (hx : x < 4294967296) (h : i < 32) : (sx x).testBit i = x.testBit (if i < 16 then i + 16 else i - 16) := by
 rw [sx_bit]
 by_cases a : i < 16
 ·simp [a, h, show ¬ 16 ≤ i by omega]
 ·rw [if_neg a, Nat.testBit_lt_two_pow (x := x) (i := i + 16) (Nat.lt_of_lt_of_le hx (two32 (by omega)))]
  simp [h, show 16 ≤ i by omega]
def q1 (i : Nat) : Nat := if i % 2 = 0 then i + 1 else i - 1
def q2 (i : Nat) : Nat := if i % 4 < 2 then i + 2 else i - 2
def q4 (i : Nat) : Nat := if i % 8 < 4 then i + 4 else i - 4
def q8 (i : Nat) : Nat := if i % 16 < 8 then i + 8 else i - 8
def q16 (i : Nat) : Nat := if i < 16 then i + 16 else i - 16
theorem q_all : ∀ i : Fin 32, q1 (q2 (q4 (q8 (q16 i)))) = 31 - i := by decide
theorem sx_lt (x : Nat) (hx : x < 4294967296) : sx x < 4294967296 := by
 have h1 : x / 65536 < 2 ^ 32 := by omega
 have h2 : (x * 65536) % 4294967296 < 2 ^ 32 := Nat.mod_lt _ (by decide)
 exact Nat.or_lt_two_pow h1 h2
theorem revN_eq (x : Nat) (hx : x < 4294967296) : revN x = flip x := by
 have l1 := sw_lt 1431655765 1 x hx
 have l2 := sw_lt 858993459 2 _ l1
 have l3 := sw_lt 252645135 4 _ l2
 have l4 := sw_lt 16711935 8 _ l3
 apply Nat.eq_of_testBit_eq
 intro i
 rw [flip_bit]
 by_cases a : i < 32
 ·rw [revN, sx_bit' _ _ l4 a, sw8_bit _ _ (by split <;> omega), sw4_bit _ _ (by split <;> split <;> omega), sw2_bit _ _ (by split <;> split <;> split <;> omega), sw1_bit _ _ (by split <;> split <;> split <;> split <;> omega)]
  simp only [a, decide_true, Bool.true_and]
  exact congrArg x.testBit (q_all ⟨i, a⟩)
 ·have h := sx_lt _ l4
  rw [show decide (i < 32) = false by simp [a], Bool.false_and]
  exact Nat.testBit_lt_two_pow (Nat.lt_of_lt_of_le h (two32 (by omega)))
theorem math_bits_Reverse32_eq (x : Nat) (hx : x < 4294967296) : math_bits_Reverse32.f (x : Int) = some ((flip x : Nat) : Int) := by
 have l1 := sw_lt 1431655765 1 x hx
 have l2 := sw_lt 858993459 2 _ l1
 have l3 := sw_lt 252645135 4 _ l2
 have l4 := sw_lt 16711935 8 _ l3
 have e1 : Go.bits .or .u32 (Go.bits .and .u32 ((x : Int) / 2) 1431655765) ((Go.bits .and .u32 (x : Int) 1431655765 * 2) % 4294967296) = ((sw 1431655765 1 x : Nat) : Int) := sw_int 1431655765 1 x hx (by decide)
 have e2 : ∀ y : Nat, y < 4294967296 → Go.bits .or .u32 (Go.bits .and .u32 ((y : Int) / 4) 858993459) ((Go.bits .and .u32 (y : Int) 858993459 * 4) % 4294967296) = ((sw 858993459 2 y : Nat) : Int) := fun y hy => sw_int 858993459 2 y hy (by decide)
 have e3 : ∀ y : Nat, y < 4294967296 → Go.bits .or .u32 (Go.bits .and .u32 ((y : Int) / 16) 252645135) ((Go.bits .and .u32 (y : Int) 252645135 * 16) % 4294967296) = ((sw 252645135 4 y : Nat) : Int) := fun y hy => sw_int 252645135 4 y hy (by decide)
 have e4 : ∀ y : Nat, y < 4294967296 → Go.bits .or .u32 (Go.bits .and .u32 ((y : Int) / 256) 16711935) ((Go.bits .and .u32 (y : Int) 16711935 * 256) % 4294967296) = ((sw 16711935 8 y : Nat) : Int) := fun y hy => sw_int 16711935 8 y hy (by decide)
 unfold math_bits_Reverse32.f
 rw [e1, e2 _ l1, e3 _ l2]
 unfold math_bits_ReverseBytes32.f
 rw [e4 _ l3, sx_int _ l4, ← revN_eq x hx]
 rfl
def flipI (a : Int) : Int := if isNum a = true then ((flip a.toNat : Nat) : Int) else 0
def orderKey (a : Int) : Int := if isNum a = true then ((flip a.toNat / 2 * 2 + 1 : Nat) : Int) else 0
def dummyKey (a : Int) : Int := if isNum a = true then ((flip a.toNat / 2 * 2 : Nat) : Int) else 0
theorem isNum_nat {a : Int} (h : isNum a = true) : ∃ n : Nat, a = (n : Int) ∧ n < 4294967296 := by
 have h : 0 ≤ a ∧ a ≤ 4294967295 := by simpa [isNum] using h
 obtain ⟨n, rfl⟩ := Int.eq_ofNat_of_zero_le h.1
 exact ⟨n, rfl, by omega⟩
theorem impl_Flip_eq (a : Int) : impl_Flip.f a = some (flipI a) := by
 unfold impl_Flip.f flipI
 rw [impl_isNum_eq]
 cases c : isNum a
 ·rfl
 ·obtain ⟨n, rfl, hn⟩ := isNum_nat c
  have := flip_lt n
  rw [Option.bind_some, if_pos rfl, if_pos rfl, show ((n : Int) % 4294967296) = (n : Int) by omega, math_bits_Reverse32_eq n hn]
  show some (wrap64 _) = _
  rw [w64 (by omega) (by omega)]
  rfl
theorem impl_DummyKey_eq (a : Int) : impl_DummyKey.f a = some (dummyKey a) := by
 unfold impl_DummyKey.f
 rw [impl_Flip_eq]
 show some (Go.bits .andNot .i64 (flipI a) 1) = _
 unfold flipI dummyKey
 cases c : isNum a
 ·show some (Go.bits .andNot .i64 0 1) = some 0
  decide
 ·have := flip_lt a.toNat
  rw [if_pos rfl, if_pos rfl, Go.Lib.andNot_one _ (by omega)]
theorem impl_OrderKey_eq (a : Int) : impl_OrderKey.f a = some (orderKey a) := by
 unfold impl_OrderKey.f
 rw [impl_isNum_eq, impl_Flip_eq]
 unfold flipI orderKey
 cases c : isNum a
 ·rfl
 ·have := flip_lt a.toNat
  show (if true = true then some (Go.bits .or .i64 (if true = true then ((flip a.toNat : Nat) : Int) else 0) 1) else some 0) = _
  rw [if_pos rfl, if_pos rfl, if_pos rfl, Go.Lib.or_one _ (by omega)]
theorem spec_Flip_l0 : ∀ (d i n out : Nat), i + d = 32 → out < 2 ^ i → n < 4294967296 → Ev (fun k => spec_Flip.l0 k (n : Int) (out : Int) (i : Int)) ((rvOn d n out : Nat) : Int) := by
 intro d
 induction d with
 | zero =>
  intro i n out hi ho hn
  refine Ev.step (fun _ => rfl) ?_
  simp only [spec_Flip.l0]
  exact Ev.neg (by omega) (Ev.const rfl)
 | succ d ih =>
  intro i n out hi ho hn
  have hp : 2 ^ i ≤ 2 ^ 31 := Nat.pow_le_pow_right (by decide) (by omega)
  refine Ev.step (fun _ => rfl) ?_
  simp only [spec_Flip.l0]
  refine Ev.pos (by omega) ?_
  have e1 : Int.tdiv (n : Int) 2 = ((n / 2 : Nat) : Int) := by rw [Int.tdiv_eq_ediv_of_nonneg (by omega)]; omega
  have e2 : Int.tmod (n : Int) 2 = ((n % 2 : Nat) : Int) := by rw [Int.tmod_eq_emod_of_nonneg (by omega)]; omega
  rw [e1, e2, w64 (x := ((n / 2 : Nat) : Int)) (by omega) (by omega), w64 (x := (out : Int) * 2) (by omega) (by omega), w64 (by omega) (by omega), wsucc (by omega)]
  rw [show (out : Int) * 2 + ((n % 2 : Nat) : Int) = ((out * 2 + n % 2 : Nat) : Int) by omega]
  exact ih (i + 1) (n / 2) _ (by omega) (by rw [Nat.pow_succ]; omega) (by omega)
theorem spec_Flip_ev (a : Int) : Ev (fun k => spec_Flip.f k a) (flipI a) := by
 unfold spec_Flip.f flipI
 refine Ev.bind (Ev.const (spec_l01Num_eq a)) ?_
 cases c : isNum a
 ·exact Ev.neg (by simp) (Ev.const (by simp))
 ·obtain ⟨n, rfl, hn⟩ := isNum_nat c
  refine Ev.pos rfl ?_
  rw [if_pos rfl]
  exact spec_Flip_l0 32 0 n 0 rfl (by decide) hn
theorem half2 (n : Nat) (h : n < 4294967296) : wrap64 (wrap64 (Int.tdiv (n : Int) 2) * 2) = ((n / 2 * 2 : Nat) : Int) := by
 have e1 : Int.tdiv (n : Int) 2 = ((n / 2 : Nat) : Int) := by rw [Int.tdiv_eq_ediv_of_nonneg (by omega)]; omega
 rw [e1, w64 (x := ((n / 2 : Nat) : Int)) (by omega) (by omega), w64 (by omega) (by omega)]
 omega
theorem spec_DummyKey_ev (a : Int) : Ev (fun k => spec_DummyKey.f k a) (dummyKey a) := by
 unfold spec_DummyKey.f
 refine Ev.bind (spec_Flip_ev a) ?_
 unfold flipI dummyKey
 cases c : isNum a
 ·exact Ev.const (by rw [if_neg (by simp), if_neg (by simp)]; kernel_rfl)
 ·have := flip_lt a.toNat
  rw [if_pos rfl, if_pos rfl, half2 _ this]
  exact Ev.const rfl
theorem spec_OrderKey_ev (a : Int) : Ev (fun k => spec_OrderKey.f k a) (orderKey a) := by
 unfold spec_OrderKey.f
 refine Ev.bind (Ev.const (spec_l01Num_eq a)) ?_
 unfold orderKey
 cases c : isNum a
 ·exact Ev.neg (by simp) (Ev.const (by simp))
 ·have := flip_lt a.toNat
  refine Ev.pos rfl ?_
  refine Ev.bind (spec_Flip_ev a) ?_
  unfold flipI
  rw [c, if_pos rfl, if_pos rfl, half2 _ this, w64 (by omega) (by omega)]
  exact Ev.const (by simp)
/-- A bucket without its highest bit. -/
def par (b : Nat) : Nat := b - (if b < 2 then 1 else if b < 4 then 2 else if b < 8 then 4 else if b < 16 then 8 else if b < 32 then 16 else 32)
theorem impl_Parent_at : ∀ b : Nat, b < 64 → ∀ k, impl_Parent.f (k + 1) (b : Int) = some ((par b : Nat) : Int) := by
 intro b hb k
 iterate 64 (rcases b with _ | b; · kernel_rfl)
 omega
theorem spec_Parent_at : ∀ b : Nat, b < 64 → ∀ k, spec_Parent.f (k + 8) (b : Int) = some ((par b : Nat) : Int) := by
 intro b hb k
 iterate 64 (rcases b with _ | b; · kernel_rfl)
 omega
theorem impl_Parent_ev (b : Nat) (hb : b < 64) : Ev (fun k => impl_Parent.f k (b : Int)) ((par b : Nat) : Int) := ⟨1, fun k hk => by
 obtain ⟨j, rfl⟩ : ∃ j, k = j + 1 := ⟨k - 1, by omega⟩
 exact impl_Parent_at b hb j⟩
theorem spec_Parent_ev (b : Nat) (hb : b < 64) : Ev (fun k => spec_Parent.f k (b : Int)) ((par b : Nat) : Int) := ⟨8, fun k hk => by
 obtain ⟨j, rfl⟩ : ∃ j, k = j + 8 := ⟨k - 8, by omega⟩
 exact spec_Parent_at b hb j⟩
theorem flip_dummy : ∀ b : Nat, b < 64 → flip (flip b / 2 * 2) = b := by
 intro b hb
 iterate 64 (rcases b with _ | b; · kernel_rfl)
 omega
end Go.Proofs.Ytbjlldjkkdiblaa.Q

namespace Go.Proofs.Ytbjlldjkkdiblaa.Fam
open Go.RowKit Go.Proofs.Ytbjlldjkkdiblaa.G Go.Proofs.YtbjlldjkkdiblaaW.PrintWords
instance decEntry : DecidableEq S49 := fun a b => decidable_of_iff (a.f0 = b.f0 ∧ a.f1 = b.f1) (by cases a; cases b; simp)
end Go.Proofs.Ytbjlldjkkdiblaa.Fam

namespace Go.Proofs.Ytbjlldjkkdiblaa.Q
open Go.RowKit Go.Proofs.Ytbjlldjkkdiblaa.G Go.Proofs.Ytbjlldjkkdiblaa.PL Go.Proofs.Ytbjlldjkkdiblaa.Fam Go.Proofs.YtbjlldjkkdiblaaW.PrintWords
abbrev En := S49
def elt (a b : En) : Bool := decide (a.f0 < b.f0) || (decide (a.f0 = b.f0) && Go.Op.bytesLess a.f1.toList b.f1.toList)
theorem en_ext {a b : En} (h0 : a.f0 = b.f0) (h1 : a.f1 = b.f1) : a = b := by cases a; cases b; simp_all
theorem bl_irrefl : ∀ l : List UInt8, Go.Op.bytesLess l l = false
 | [] => rfl
 | a :: l => by
  rw [Go.Op.bytesLess, bl_irrefl l]; simp
theorem bl_trans : ∀ x y z : List UInt8, Go.Op.bytesLess x y = true → Go.Op.bytesLess y z = true → Go.Op.bytesLess x z = true
 | _, y, [], _, h => by cases y <;> simp [Go.Op.bytesLess] at h
 | [], _, _ :: _, _, _ => by simp [Go.Op.bytesLess]
 | _ :: _, [], _ :: _, h, _ => by simp [Go.Op.bytesLess] at h
 | a :: x, b :: y, c :: z, h, h' => by
  simp only [Go.Op.bytesLess, Bool.or_eq_true, Bool.and_eq_true, decide_eq_true_eq, beq_iff_eq] at h h' ⊢
  rcases h with h | ⟨rfl, h⟩
  ·rcases h' with h' | ⟨rfl, h'⟩
   ·exact Or.inl (UInt8.lt_trans h h')
   ·exact Or.inl h
  ·rcases h' with h' | ⟨rfl, h'⟩
   ·exact Or.inl h'
   ·exact Or.inr ⟨rfl, bl_trans x y z h h'⟩
theorem elt_iff {a b : En} : elt a b = true ↔ a.f0 < b.f0 ∨ (a.f0 = b.f0 ∧ Go.Op.bytesLess a.f1.toList b.f1.toList = true) := by simp [elt]
theorem elt_irrefl (a : En) : elt a a = false := by simp [elt, bl_irrefl]
theorem elt_trans {a b c : En} (h : elt a b = true) (h' : elt b c = true) : elt a c = true := by
 rw [elt_iff] at *
 rcases h with h | ⟨h, g⟩ <;> rcases h' with h' | ⟨h', g'⟩
 ·left; omega
 ·left; omega
 ·left; omega
 ·right; exact ⟨by omega, bl_trans _ _ _ g g'⟩
/-- Each entry stands ahead of the next. -/
def Srt (xs : List En) : Prop := ∀ i (h : i + 1 < xs.length), elt xs[i] xs[i + 1] = true
theorem Srt.lt {xs : List En} (hs : Srt xs) : ∀ (d i : Nat) (h : i + 1 + d < xs.length), elt xs[i] xs[i + 1 + d] = true
 | 0, i, h => hs i h
 | d + 1, i, h => elt_trans (Srt.lt hs d i (by omega)) (hs (i + 1 + d) h)
theorem Srt.lt' {xs : List En} (hs : Srt xs) {i j : Nat} (h : i < j) (hj : j < xs.length) : elt xs[i] xs[j] = true := by
 obtain ⟨d, rfl⟩ : ∃ d, j = i + 1 + d := ⟨j - (i + 1), by omega⟩
 exact hs.lt d i hj
theorem Srt.inj {xs : List En} (hs : Srt xs) {i j : Nat} (hi : i < xs.length) (hj : j < xs.length) (e : xs[i] = xs[j]) : i = j := by
 by_cases a : i < j
 ·have := hs.lt' a hj
  rw [e, elt_irrefl] at this
  cases this
 ·by_cases b : j < i
  ·have := hs.lt' b hi
   rw [e, elt_irrefl] at this
   cases this
  ·omega
def cmpE (a b : En) : Int := if elt a b = true then -1 else if a = b then 0 else 1
theorem en_beq (a b : En) : (a.f0 == b.f0 && (a.f1.toList == b.f1.toList)) = decide (a = b) := by
 rw [bytes_beq]
 cases a; cases b
 rw [Bool.eq_iff_iff]
 simp
theorem spec_l19Before_eq (a b : En) : spec_l19Before.f a.f0 a.f1 b.f0 b.f1 = some (elt a b) := by
 unfold spec_l19Before.f elt
 by_cases c : a.f0 < b.f0
 ·rw [if_pos c, decide_eq_true c, Bool.true_or]
 ·rw [if_neg c, decide_eq_false c, Bool.false_or]
  by_cases d : a.f0 = b.f0
  ·rw [if_pos d, decide_eq_true d, Bool.true_and]
  ·rw [if_neg d, decide_eq_false d, Bool.false_and]
theorem cmp_j0 (a b : En) (q : Bool) : Ev (fun k => impl_compareEntries.j0 k q a.f0 a.f1 b.f0 b.f1) (if q = true then -1 else if a = b then 0 else 1) := by
 refine Ev.step (fun _ => rfl) ?_
 simp only [impl_compareEntries.j0]
 by_cases hq : q = true
 ·exact Ev.pos hq (Ev.const (by rw [if_pos hq]))
 ·refine Ev.neg hq ?_
  rw [if_neg hq, en_beq]
  by_cases e : a = b
  ·exact Ev.pos (by simp [e]) (Ev.const (by rw [if_pos e]))
  ·exact Ev.neg (by simp [e]) (Ev.const (by rw [if_neg e]))
theorem impl_compareEntries_ev (a b : En) : Ev (fun k => impl_compareEntries.f k a.f0 a.f1 b.f0 b.f1) (cmpE a b) := by
 unfold impl_compareEntries.f cmpE elt
 by_cases c : a.f0 < b.f0
 ·refine Ev.pos c (Ev.to (cmp_j0 a b true) ?_)
  rw [decide_eq_true c, Bool.true_or]
 ·refine Ev.neg c ?_
  rw [decide_eq_false c, Bool.false_or]
  by_cases d : a.f0 = b.f0
  ·refine Ev.pos d (Ev.to (cmp_j0 a b _) ?_)
   rw [decide_eq_true d, Bool.true_and]
  ·refine Ev.neg d (Ev.to (cmp_j0 a b false) ?_)
   rw [decide_eq_false d, Bool.false_and]
theorem cmp_neg (a b : En) : cmpE a b < 0 ↔ elt a b = true := by
 unfold cmpE
 by_cases c : elt a b = true
 ·rw [if_pos c]; simp [c]
 ·rw [if_neg c]
  constructor
  ·intro h; split at h <;> omega
  ·intro h; exact absurd h c
theorem cmp_ge (a b : En) : decide (cmpE a b ≥ 0) = !elt a b := by
 have := cmp_neg a b
 rw [Bool.eq_iff_iff]
 simp
 rw [← Bool.not_eq_true, ← this]
 omega
theorem cmp_zero {a b : En} (h : elt a b = false) : (cmpE a b == 0) = decide (a = b) := by
 unfold cmpE
 rw [if_neg (by simp [h])]
 by_cases c : a = b
 ·rw [if_pos c]; simp [c]
 ·rw [if_neg c]; simp [c]
theorem u64_small {x : Int} (h0 : 0 ≤ x) (h1 : x < 18446744073709551616) : IntKind.u64.wrap x = x := by
 simp only [IntKind.wrap, IntKind.signed, IntKind.bits]
 simp
 omega
theorem mid {i j : Nat} (h : i + j ≤ 4611686018427387904) : wrap64 (IntKind.u64.wrap (wrap64 ((i : Int) + (j : Int))) / 2) = (((i + j) / 2 : Nat) : Int) := by
 rw [w64 (x := (i : Int) + (j : Int)) (by omega) (by omega), u64_small (by omega) (by omega), w64 (by omega) (by omega)]
 omega
/-- Where an entry stands or would stand. -/
def IsPos (xs : List En) (x : En) (r : Nat) : Prop := r ≤ xs.length ∧ (∀ p (h : p < xs.length), p < r → elt xs[p] x = true) ∧ (∀ p (h : p < xs.length), r ≤ p → elt xs[p] x = false)
theorem IsPos.at {xs : List En} {x : En} {r : Nat} (h : IsPos xs x r) {p : Nat} (hp : p < xs.length) (e : xs[p] = x) (hs : Srt xs) : p = r := by
 obtain ⟨h0, h1, h2⟩ := h
 by_cases a : p < r
 ·have := h1 p hp a
  rw [e, elt_irrefl] at this
  cases this
 ·by_cases b : r < p
  ·have := hs.lt' b hp
   rw [e, h2 r (by omega) (Nat.le_refl _)] at this
   cases this
  ·omega
theorem bs_l0 (xs : List En) (x : En) (hs : Srt xs) (hl : xs.length ≤ 140737488351232) : ∀ d i j : Nat, j = i + d → j ≤ xs.length → (∀ p (h : p < xs.length), p < i → elt xs[p] x = true) → (∀ p (h : p < xs.length), j ≤ p → elt xs[p] x = false) →
  ∃ r : Nat, IsPos xs x r ∧ Ev (fun k => slices_BinarySearchFunc_impl_Entry_impl_Entry_impl_Entry.l0 k xs (xs.length : Int) (i : Int) (j : Int) x.f0 x.f1) ((r : Int), decide (x ∈ xs)) := by
 intro d
 induction d using Nat.strongRecOn with
 | ind d ih =>
  intro i j hj hjl h1 h2
  by_cases c : i < j
  ·have hm : (i + j) / 2 < xs.length := by omega
   have er : rd_T49 xs (((i + j) / 2 : Nat) : Int) = xs[(i + j) / 2] := getD_at hm _
   by_cases q : elt xs[(i + j) / 2] x = true
   ·obtain ⟨r, hr, he⟩ := ih (j - ((i + j) / 2 + 1)) (by omega) ((i + j) / 2 + 1) j (by omega) hjl (fun p h hp => by
     by_cases s : p = (i + j) / 2
     ·subst s; exact q
     ·exact elt_trans (hs.lt' (by omega) hm) q) h2
    refine ⟨r, hr, ?_⟩
    refine Ev.step (fun _ => rfl) ?_
    simp only [slices_BinarySearchFunc_impl_Entry_impl_Entry_impl_Entry.l0]
    rw [mid (by omega), er]
    refine Ev.pos (by omega) (Ev.pos (by omega) (Ev.pos (by omega) ?_))
    refine Ev.bind (impl_compareEntries_ev _ _) ?_
    refine Ev.pos ((cmp_neg _ _).2 q) ?_
    rw [wsucc (by omega)]
    exact he
   ·obtain ⟨r, hr, he⟩ := ih ((i + j) / 2 - i) (by omega) i ((i + j) / 2) (by omega) (by omega) h1 (fun p h hp => by
     by_cases s : p = (i + j) / 2
     ·subst s; simpa using q
     ·cases t : elt xs[p] x
      ·rfl
      ·exact absurd (elt_trans (hs.lt' (i := (i + j) / 2) (j := p) (by omega) h) t) q)
    refine ⟨r, hr, ?_⟩
    refine Ev.step (fun _ => rfl) ?_
    simp only [slices_BinarySearchFunc_impl_Entry_impl_Entry_impl_Entry.l0]
    rw [mid (by omega), er]
    refine Ev.pos (by omega) (Ev.pos (by omega) (Ev.pos (by omega) ?_))
    refine Ev.bind (impl_compareEntries_ev _ _) ?_
    exact Ev.neg (fun h => q ((cmp_neg _ _).1 h)) he
  ·have hij : j = i := by omega
   subst hij
   have hp : IsPos xs x j := ⟨hjl, h1, h2⟩
   refine ⟨j, hp, ?_⟩
   refine Ev.step (fun _ => rfl) ?_
   simp only [slices_BinarySearchFunc_impl_Entry_impl_Entry_impl_Entry.l0]
   refine Ev.neg (by omega) ?_
   by_cases q : j < xs.length
   ·have er : rd_T49 xs (j : Int) = xs[j] := getD_at q _
    refine Ev.pos (by omega) (Ev.pos (by omega) (Ev.pos (by omega) ?_))
    rw [er]
    refine Ev.bind (impl_compareEntries_ev _ _) ?_
    rw [cmp_zero (h2 j q (Nat.le_refl _))]
    refine Ev.const ?_
    have : decide (xs[j] = x) = decide (x ∈ xs) := by
     rw [Bool.eq_iff_iff]
     simp only [decide_eq_true_eq]
     constructor
     ·intro h; rw [← h]; exact List.getElem_mem q
     ·intro h
      obtain ⟨p, hp1, hp2⟩ := List.getElem_of_mem h
      have := hp.at hp1 hp2 hs
      subst this
      exact hp2
    rw [this]
   ·refine Ev.neg (by omega) (Ev.const ?_)
    have : decide (x ∈ xs) = false := by
     apply decide_eq_false
     intro h
     obtain ⟨p, hp1, hp2⟩ := List.getElem_of_mem h
     have := hp.at hp1 hp2 hs
     omega
    rw [this]
theorem place_ev (n : Int) (xs : List En) (x : En) (hs : Srt xs) (hl : xs.length ≤ 140737488351232) : ∃ r : Nat, IsPos xs x r ∧ Ev (fun k => impl_Table_place.f k n xs x.f0 x.f1) ((r : Int), decide (x ∈ xs)) := by
 obtain ⟨r, hr, he⟩ := bs_l0 xs x hs hl xs.length 0 xs.length (by omega) (Nat.le_refl _) (fun p h hp => by omega) (fun p h hp => by omega)
 refine ⟨r, hr, ?_⟩
 unfold impl_Table_place.f
 refine Ev.bind (a := ((r : Int), decide (x ∈ xs))) ?_ (Ev.const rfl)
 unfold slices_BinarySearchFunc_impl_Entry_impl_Entry_impl_Entry.f
 exact he
def dmy (b : Int) : En := ⟨dummyKey b, ⟨#[]⟩⟩
theorem isOpen_ev (n : Int) (xs : List En) (b : Int) (hs : Srt xs) (hl : xs.length ≤ 140737488351232) : Ev (fun k => impl_Table_isOpen.f k n xs b) (decide (dmy b ∈ xs)) := by
 obtain ⟨r, hr, he⟩ := place_ev n xs (dmy b) hs hl
 unfold impl_Table_isOpen.f
 refine Ev.bind (Ev.const (impl_DummyKey_eq b)) ?_
 exact Ev.bind he (Ev.const rfl)
/-- The place of an entry from the left, or -1. -/
def atFrom : List En → Nat → En → Int
 | [], _, _ => -1
 | e :: r, i, x => if e = x then (i : Int) else atFrom r (i + 1) x
theorem atFrom_some : ∀ (l : List En) (i : Nat) (x : En), x ∈ l → ∃ p, ∃ h : p < l.length, l[p] = x ∧ atFrom l i x = ((i + p : Nat) : Int)
 | e :: r, i, x, h => by
  by_cases c : e = x
  ·exact ⟨0, by simp, c, by simp [atFrom, c]⟩
  ·have h' : x ∈ r := by
    rcases List.mem_cons.1 h with h | h
    ·exact absurd h.symm c
    ·exact h
   obtain ⟨p, hp, e1, e2⟩ := atFrom_some r (i + 1) x h'
   refine ⟨p + 1, by simpa using hp, by simpa using e1, ?_⟩
   rw [atFrom, if_neg c, e2]
   omega
theorem atFrom_none : ∀ (l : List En) (i : Nat) (x : En), x ∉ l → atFrom l i x = -1
 | [], _, _, _ => rfl
 | e :: r, i, x, h => by
  rw [atFrom, if_neg (fun c => h (by rw [c]; exact List.mem_cons_self))]
  exact atFrom_none r (i + 1) x (fun c => h (List.mem_cons_of_mem _ c))
theorem atFrom_ge (l : List En) (i : Nat) (x : En) : decide (atFrom l i x ≥ 0) = decide (x ∈ l) := by
 by_cases c : x ∈ l
 ·obtain ⟨p, _, _, e⟩ := atFrom_some l i x c
  rw [e]; simp [c]; omega
 ·rw [atFrom_none l i x c]; simp [c]
theorem spec_l19At_ev (n : Int) (xs : List En) (x : En) (hl : xs.length ≤ 140737488351232) : Ev (fun k => spec_l19At.f k n xs x.f0 x.f1) (atFrom xs 0 x) := by
 have go : ∀ (d i : Nat), i + d = xs.length → Ev (fun k => spec_l19At.l0 k xs (xs.length : Int) (i : Int) x.f0 x.f1) (atFrom (xs.drop i) i x) := by
  intro d
  induction d with
  | zero =>
   intro i hi
   rw [List.drop_of_length_le (by omega)]
   refine Ev.step (fun _ => rfl) ?_
   simp only [spec_l19At.l0]
   exact Ev.neg (by omega) (Ev.const rfl)
  | succ d ih =>
   intro i hi
   have hx : i < xs.length := by omega
   have er : rd_T49 xs (i : Int) = xs[i] := getD_at hx _
   refine Ev.step (fun _ => rfl) ?_
   simp only [spec_l19At.l0]
   rw [er, en_beq, drop_at hx, atFrom]
   refine Ev.pos (by omega) (Ev.pos (by omega) (Ev.pos (by omega) ?_))
   by_cases c : xs[i] = x
   ·exact Ev.pos (by simp [c]) (Ev.const (by rw [if_pos c]))
   ·refine Ev.neg (by simp [c]) ?_
    rw [if_neg c, wsucc (by omega)]
    exact ih (i + 1) (by omega)
 unfold spec_l19At.f
 exact go xs.length 0 (by omega)
theorem keysIn_ev (n : Int) (xs : List En) (hl : xs.length ≤ 140737488351232) : Ev (fun k => impl_Table_keysIn.f k n xs) ((xs.countP (fun e => decide (e.f1 ≠ ⟨#[]⟩)) : Nat) : Int) := by
 have go : ∀ (d i c : Nat), i + d = xs.length → c ≤ i → Ev (fun k => impl_Table_keysIn.l0 k (c : Int) xs (xs.length : Int) (i : Int)) ((c + (xs.drop i).countP (fun e => decide (e.f1 ≠ ⟨#[]⟩)) : Nat) : Int) := by
  intro d
  induction d with
  | zero =>
   intro i c hi hc
   rw [List.drop_of_length_le (by omega)]
   refine Ev.step (fun _ => rfl) ?_
   simp only [impl_Table_keysIn.l0]
   exact Ev.neg (by omega) (Ev.const (by simp))
  | succ d ih =>
   intro i c hi hc
   have hx : i < xs.length := by omega
   have er : rd_T49 xs (i : Int) = xs[i] := getD_at hx _
   refine Ev.step (fun _ => rfl) ?_
   simp only [impl_Table_keysIn.l0]
   rw [er, drop_at hx, List.countP_cons]
   refine Ev.pos (by omega) (Ev.pos (by omega) (Ev.pos (by omega) ?_))
   by_cases e : xs[i].f1 = ⟨#[]⟩
   ·refine Ev.pos (toList_nil.2 e) ?_
    rw [wsucc (by omega)]
    refine Ev.to (ih (i + 1) c (by omega) (by omega)) ?_
    simp [e]
   ·refine Ev.neg (fun h => e (toList_nil.1 h)) ?_
    rw [wsucc (by omega), wsucc (by omega)]
    refine Ev.to (ih (i + 1) (c + 1) (by omega) (by omega)) ?_
    simp [e]
    omega
 unfold impl_Table_keysIn.f
 exact Ev.to (go xs.length 0 0 (by omega) (Nat.le_refl _)) (by simp)
/-- The hash of a text. -/
def hashOn : List UInt8 → Int → Int
 | [], h => h
 | c :: r, h => hashOn r (Int.tmod (wrap64 ((Go.bits .xor .i64 h (wrap64 (c.toNat : Int))) * 16777619)) 4294967296)
def hash (s : ByteArray) : Int := hashOn (bs s) 2166136261
theorem spec_Hash_ev (s : ByteArray) (hz : s.size ≤ 140737488351232) : Ev (fun k => spec_Hash.f k s) (hash s) := by
 have go : ∀ (d i : Nat) (h : Int), i + d = s.size → Ev (fun k => spec_Hash.l0 k s h (i : Int)) (hashOn ((bs s).drop i) h) := by
  intro d
  induction d with
  | zero =>
   intro i h hi
   rw [List.drop_of_length_le (by rw [bs_length]; omega)]
   refine Ev.step (fun _ => rfl) ?_
   simp only [spec_Hash.l0]
   exact Ev.neg (by omega) (Ev.const rfl)
  | succ d ih =>
   intro i h hi
   have hx : i < s.size := by omega
   refine Ev.step (fun _ => rfl) ?_
   simp only [spec_Hash.l0]
   rw [drop_bs s i hx, hashOn, bt_eq s i hx]
   refine Ev.pos (by omega) (Ev.pos (by omega) ?_)
   rw [wsucc (by omega)]
   exact ih (i + 1) _ (by omega)
 unfold spec_Hash.f hash
 exact go s.size 0 _ (by omega)
theorem impl_Hash_ev (s : ByteArray) (hz : s.size ≤ 140737488351232) : Ev (fun k => impl_Hash.f k s) (hash s) := by
 have go : ∀ (d i : Nat) (h : Int), i + d = s.size → Ev (fun k => impl_Hash.l0 k s h (i : Int)) (hashOn ((bs s).drop i) h) := by
  intro d
  induction d with
  | zero =>
   intro i h hi
   rw [List.drop_of_length_le (by rw [bs_length]; omega)]
   refine Ev.step (fun _ => rfl) ?_
   simp only [impl_Hash.l0]
   exact Ev.neg (by omega) (Ev.const rfl)
  | succ d ih =>
   intro i h hi
   have hx : i < s.size := by omega
   refine Ev.step (fun _ => rfl) ?_
   simp only [impl_Hash.l0]
   rw [drop_bs s i hx, hashOn, bt_eq s i hx]
   refine Ev.pos (by omega) (Ev.pos (by omega) ?_)
   rw [wsucc (by omega)]
   exact ih (i + 1) _ (by omega)
 unfold impl_Hash.f hash
 exact go s.size 0 _ (by omega)
def keyE (s : ByteArray) : En := ⟨orderKey (hash s), s⟩
theorem spec_l19Key_ev (s : ByteArray) (hz : s.size ≤ 140737488351232) : Ev (fun k => spec_l19Key.f k s) ((keyE s).f0, (keyE s).f1) := by
 unfold spec_l19Key.f
 exact Ev.bind (spec_Hash_ev s hz) (Ev.bind (spec_OrderKey_ev _) (Ev.const rfl))
theorem impl_entryOf_ev (s : ByteArray) (hz : s.size ≤ 140737488351232) : Ev (fun k => impl_entryOf.f k s) ((keyE s).f0, (keyE s).f1) := by
 unfold impl_entryOf.f
 exact Ev.bind (impl_Hash_ev s hz) (Ev.bind (Ev.const (impl_OrderKey_eq _)) (Ev.const rfl))
theorem spec_l19Dummy_ev (b : Int) : Ev (fun k => spec_l19Dummy.f k b) ((dmy b).f0, (dmy b).f1) := by
 unfold spec_l19Dummy.f
 exact Ev.bind (spec_DummyKey_ev b) (Ev.const rfl)
def size2 (n : Int) : Bool := decide (n = 1) || (decide (n = 2) || (decide (n = 4) || (decide (n = 8) || (decide (n = 16) || (decide (n = 32) || decide (n = 64))))))
theorem size2_le {n : Int} (h : size2 n = true) : 1 ≤ n ∧ n ≤ 64 := by
 simp [size2] at h; omega
theorem spec_l19Size_ev (n : Int) : Ev (fun k => spec_l19Size.f k n) (size2 n) := by
 have step : ∀ (m r : Int) (x : Bool), 1 ≤ m → m ≤ 64 → r = m * 2 → Ev (fun k => spec_l19Size.l0 k n r) x → Ev (fun k => spec_l19Size.l0 k n m) (decide (n = m) || x) := by
  intro m r x h1 h2 hr h
  refine Ev.step (fun _ => rfl) ?_
  simp only [spec_l19Size.l0]
  refine Ev.pos h2 ?_
  by_cases c : n = m
  ·exact Ev.pos c (Ev.const (by simp [c]))
  ·refine Ev.neg c ?_
   rw [w64 (by omega) (by omega), decide_eq_false c, Bool.false_or, ← hr]
   exact h
 have last : Ev (fun k => spec_l19Size.l0 k n 128) false := by
  refine Ev.step (fun _ => rfl) ?_
  simp only [spec_l19Size.l0]
  exact Ev.neg (by omega) (Ev.const rfl)
 unfold spec_l19Size.f size2
 refine Ev.to (step 1 2 _ (by omega) (by omega) rfl (step 2 4 _ (by omega) (by omega) rfl (step 4 8 _ (by omega) (by omega) rfl (step 8 16 _ (by omega) (by omega) rfl (step 16 32 _ (by omega) (by omega) rfl (step 32 64 _ (by omega) (by omega) rfl (step 64 128 _ (by omega) (by omega) rfl last))))))) (by simp)
theorem and_size : ∀ n : Nat, 1 ≤ n → n ≤ 64 → decide (Go.bits .and .i64 (n : Int) (wrap64 ((n : Int) - 1)) = 0) = size2 (n : Int) := by
 intro n h1 h2
 rcases n with _ | n
 ·omega
 iterate 64 (rcases n with _ | n; · kernel_rfl)
 omega
def nokey (e : En) : Bool := decide (e.f1 = ⟨#[]⟩)
def prevOk (xs : List En) (i : Nat) : Bool := decide (i = 0) || elt (xs.getD (i - 1) z49) (xs.getD i z49)
def keyOk (e : En) : Bool := itemOk e.f1 ⟨#[]⟩ 0 && decide (e = keyE e.f1)
/-- The entry of a bucket, below the size, whose parent is open. -/
def dOk (size : Int) (xs : List En) (e : En) : Bool := decide (e = dmy (flipI e.f0)) && (decide (flipI e.f0 < size) && (decide (flipI e.f0 = 0) || decide (dmy ((par (flipI e.f0).toNat : Nat) : Int) ∈ xs)))
theorem flipI_nonneg (a : Int) : 0 ≤ flipI a := by
 unfold flipI
 split <;> omega
theorem en_bne (a b : En) : (!(a.f0 == b.f0) || (!(a.f1.toList == b.f1.toList))) = !decide (a = b) := by
 rw [← en_beq]
 cases (a.f0 == b.f0) <;> simp
theorem open_j0 (size : Int) (xs : List En) (b : Int) (q : Bool) (h0 : 0 ≤ b) (hb : q = false → b < 64) (hl : xs.length ≤ 140737488351232) : Ev (fun k => spec_l19Open.j0 k b q size xs) (!q && (decide (b = 0) || decide (dmy ((par b.toNat : Nat) : Int) ∈ xs))) := by
 refine Ev.step (fun _ => rfl) ?_
 simp only [spec_l19Open.j0]
 by_cases hq : q = true
 ·exact Ev.pos hq (Ev.const (by simp [hq]))
 ·have hq' : q = false := by simpa using hq
  refine Ev.neg hq ?_
  rw [hq', Bool.not_false, Bool.true_and]
  by_cases c : b = 0
  ·exact Ev.pos c (Ev.const (by simp [c]))
  ·refine Ev.neg c ?_
   rw [decide_eq_false c, Bool.false_or]
   have hb' := hb hq'
   obtain ⟨n, rfl⟩ := Int.eq_ofNat_of_zero_le h0
   refine Ev.bind (spec_Parent_ev n (by omega)) ?_
   refine Ev.bind (spec_l19Dummy_ev _) ?_
   refine Ev.bind (spec_l19At_ev size xs (dmy _) hl) ?_
   rw [atFrom_ge]
   exact Ev.const rfl
theorem spec_l19Open_ev (size : Int) (xs : List En) (e : En) (hz : size ≤ 64) (hl : xs.length ≤ 140737488351232) : Ev (fun k => spec_l19Open.f k size xs e.f0 e.f1) (dOk size xs e) := by
 unfold spec_l19Open.f dOk
 have h0 := flipI_nonneg e.f0
 refine Ev.bind (spec_Flip_ev _) ?_
 refine Ev.bind (spec_l19Dummy_ev _) ?_
 rw [en_bne]
 by_cases c : e = dmy (flipI e.f0)
 ·rw [decide_eq_true c, Bool.true_and]
  refine Ev.neg (by simp) ?_
  refine Ev.to (open_j0 size xs _ _ h0 (fun h => ?_) hl) ?_
  ·have := of_decide_eq_false h
   omega
  ·rw [show (!decide (flipI e.f0 ≥ size)) = decide (flipI e.f0 < size) by rw [Bool.eq_iff_iff]; simp]
 ·rw [decide_eq_false c]
  refine Ev.pos (by simp) ?_
  exact Ev.to (open_j0 size xs _ true h0 (by simp) hl) (by simp)
/-- The reference's loop, from an index on. -/
def entOk (size : Int) (xs : List En) (i : Nat) : Bool := prevOk xs i && (if nokey (xs.getD i z49) = true then dOk size xs (xs.getD i z49) else keyOk (xs.getD i z49))
theorem spec_j2 (size : Int) (xs : List En) (i c : Nat) (q : Bool) (hx : i < xs.length) (hz : size ≤ 64) (hl : xs.length ≤ 140737488351232) (ho : ∀ e ∈ xs, e.f1.size ≤ 140737488351232) (hc : c ≤ i) (r : Nat → Bool)
  (ih : ∀ c', c' ≤ i + 1 → Ev (fun k => spec_TableOk.l0 k (c' : Int) xs (xs.length : Int) ((i + 1 : Nat) : Int) size xs) (r c')) :
  Ev (fun k => spec_TableOk.j2 k (c : Int) xs (xs.length : Int) (i : Int) (!q) size xs xs[i].f0 xs[i].f1) (q && (if nokey xs[i] = true then dOk size xs xs[i] && r c else keyOk xs[i] && r (c + 1))) := by
 have hoi := ho _ (List.getElem_mem hx)
 refine Ev.step (fun _ => rfl) ?_
 simp only [spec_TableOk.j2]
 cases q
 ·exact Ev.pos rfl (Ev.const (by simp))
 refine Ev.neg (by simp) ?_
 rw [Bool.true_and]
 by_cases e : xs[i].f1 = ⟨#[]⟩
 ·refine Ev.pos (toList_nil.2 e) ?_
  rw [if_pos (show nokey xs[i] = true by simp [nokey, e])]
  refine Ev.bind (spec_l19Open_ev size xs xs[i] hz hl) ?_
  cases d : dOk size xs xs[i]
  ·exact Ev.neg (by simp) (Ev.const (by simp))
  ·refine Ev.pos rfl ?_
   rw [wsucc (by omega), Bool.true_and]
   exact ih c (by omega)
 ·refine Ev.neg (fun h => e (toList_nil.1 h)) ?_
  rw [if_neg (show ¬ nokey xs[i] = true by simp [nokey, e])]
  unfold keyOk
  refine Ev.bind (spec_ItemOk_ev _ _ _ hoi (by decide)) ?_
  cases d : itemOk xs[i].f1 ⟨#[]⟩ 0
  ·exact Ev.neg (by simp) (Ev.const (by simp))
  ·refine Ev.pos rfl ?_
   refine Ev.bind (spec_l19Key_ev _ hoi) ?_
   rw [en_bne]
   by_cases g : xs[i] = keyE xs[i].f1
   ·refine Ev.neg (by simp [← g]) ?_
    rw [wsucc (by omega), wsucc (by omega), decide_eq_true g, Bool.true_and, Bool.true_and]
    exact ih (c + 1) (by omega)
   ·refine Ev.pos (by simp [g]) (Ev.const ?_)
    rw [decide_eq_false g]
    simp
theorem spec_l0 (size : Int) (xs : List En) (hz : size ≤ 64) (hl : xs.length ≤ 140737488351232) (ho : ∀ e ∈ xs, e.f1.size ≤ 140737488351232) : ∀ (d i c : Nat), i + d = xs.length → c ≤ i →
  Ev (fun k => spec_TableOk.l0 k (c : Int) xs (xs.length : Int) (i : Int) size xs) (((List.range' i d).all (entOk size xs)) && decide (c + (xs.drop i).countP (fun e => !nokey e) ≤ 200)) := by
 intro d
 induction d with
 | zero =>
  intro i c hi hc
  rw [List.drop_of_length_le (by omega)]
  refine Ev.step (fun _ => rfl) ?_
  simp only [spec_TableOk.l0]
  exact Ev.neg (by omega) (Ev.const (congrArg some (by simp only [List.range'_zero, List.all_nil, Bool.true_and, List.countP_nil, Nat.add_zero]; exact decide_eq_decide.2 (by omega))))
 | succ d ih =>
  intro i c hi hc
  have hx : i < xs.length := by omega
  have er : rd_T49 xs (i : Int) = xs[i] := getD_at hx _
  have eg : xs.getD i z49 = xs[i] := by simp [List.getD_eq_getElem?_getD, hx]
  have key := fun q => spec_j2 size xs i c q hx hz hl ho hc (fun c' => ((List.range' (i + 1) d).all (entOk size xs)) && decide (c' + (xs.drop (i + 1)).countP (fun e => !nokey e) ≤ 200)) (fun c' hc' => ih (i + 1) c' (by omega) hc')
  have fin : ∀ q, prevOk xs i = q → (q && (if nokey xs[i] = true then dOk size xs xs[i] && (((List.range' (i + 1) d).all (entOk size xs)) && decide (c + (xs.drop (i + 1)).countP (fun e => !nokey e) ≤ 200)) else keyOk xs[i] && (((List.range' (i + 1) d).all (entOk size xs)) && decide (c + 1 + (xs.drop (i + 1)).countP (fun e => !nokey e) ≤ 200)))) = (((List.range' i (d + 1)).all (entOk size xs)) && decide (c + (xs.drop i).countP (fun e => !nokey e) ≤ 200)) := by
   intro q hq
   rw [List.range'_succ, List.all_cons, entOk, hq, eg, drop_at hx, List.countP_cons]
   cases q
   ·simp
   ·by_cases g : nokey xs[i] = true
    ·rw [if_pos g]
     simp [g, Bool.and_assoc]
    ·have g' : nokey xs[i] = false := by simpa using g
     rw [if_neg g, show ∀ n : Nat, c + 1 + n = c + (n + 1) from fun n => by omega]
     simp [g', Bool.and_assoc]
  refine Ev.step (fun _ => rfl) ?_
  simp only [spec_TableOk.l0]
  refine Ev.pos (by omega) (Ev.pos (by omega) (Ev.pos (by omega) ?_))
  by_cases a : i = 0
  ·refine Ev.neg (by omega) ?_
   rw [er]
   exact Ev.to (key true) (fin true (by simp [prevOk, a]))
  ·have hx' : i - 1 < xs.length := by omega
   have ew : wrap64 ((i : Int) - 1) = ((i - 1 : Nat) : Int) := by rw [w64 (by omega) (by omega)]; omega
   have er' : rd_T49 xs ((i - 1 : Nat) : Int) = xs[i - 1] := getD_at hx' _
   have eg' : xs.getD (i - 1) z49 = xs[i - 1] := by simp [List.getD_eq_getElem?_getD, hx']
   rw [ew, er, er']
   refine Ev.pos (by omega) (Ev.pos (by omega) (Ev.pos (by omega) ?_))
   refine Ev.bind (Ev.const (spec_l19Before_eq _ _)) ?_
   exact Ev.to (key _) (fin _ (by rw [prevOk, eg, eg', decide_eq_false a, Bool.false_or]))
def specOk (size : Int) (xs : List En) : Bool := size2 size && (decide (dmy 0 ∈ xs) && (((List.range' 0 xs.length).all (entOk size xs)) && decide (xs.countP (fun e => !nokey e) ≤ 200)))
theorem spec_TableOk_ev0 (size : Int) (xs : List En) (hl : xs.length ≤ 140737488351232) (ho : ∀ e ∈ xs, e.f1.size ≤ 140737488351232) : Ev (fun k => spec_TableOk.f k size xs) (specOk size xs) := by
 have no : Ev (fun k => spec_TableOk.j0 k 0 true size xs) false := by
  refine Ev.step (fun _ => rfl) ?_
  simp only [spec_TableOk.j0]
  exact Ev.pos trivial (Ev.const rfl)
 unfold spec_TableOk.f specOk
 refine Ev.bind (spec_l19Size_ev size) ?_
 by_cases c : size2 size = true
 ·refine Ev.pos c ?_
  have hz := size2_le c
  rw [c, Bool.true_and]
  refine Ev.bind (spec_l19Dummy_ev 0) ?_
  refine Ev.bind (spec_l19At_ev size xs (dmy 0) hl) ?_
  have e := atFrom_ge xs 0 (dmy 0)
  have e' : decide (atFrom xs 0 (dmy 0) < 0) = !decide (dmy 0 ∈ xs) := by
   rw [← e, Bool.eq_iff_iff]; simp
  rw [e']
  by_cases d : dmy 0 ∈ xs
  ·rw [decide_eq_true d, Bool.true_and]
   refine Ev.step (fun _ => rfl) ?_
   simp only [spec_TableOk.j0]
   refine Ev.neg (by simp) ?_
   exact Ev.to (spec_l0 size xs hz.2 hl ho xs.length 0 0 (by omega) (Nat.le_refl _)) (by simp)
  ·rw [decide_eq_false d]
   exact Ev.to no (by simp)
 ·refine Ev.neg c (Ev.to no ?_)
  rw [show size2 size = false by simpa using c, Bool.false_and]
/-- The program's first loop. -/
def ent1 (xs : List En) (i : Nat) : Bool := prevOk xs i && (if nokey (xs.getD i z49) = true then true else keyOk (xs.getD i z49))
theorem impl_l0 (size : Int) (xs : List En) (hl : xs.length ≤ 140737488351232) (ho : ∀ e ∈ xs, e.f1.size ≤ 140737488351232) (z : Bool) (hz : (∀ i, i < xs.length → prevOk xs i = true) → Ev (fun k => impl_TableOk.l1 k 0 size 0 size xs) z) : ∀ (d i : Nat), i + d = xs.length → (∀ j, j < i → prevOk xs j = true) →
  Ev (fun k => impl_TableOk.l0 k xs (xs.length : Int) (i : Int) size xs) (((List.range' i d).all (ent1 xs)) && z) := by
 intro d
 induction d with
 | zero =>
  intro i hi hp
  refine Ev.step (fun _ => rfl) ?_
  simp only [impl_TableOk.l0]
  refine Ev.neg (by omega) ?_
  exact Ev.to (hz (fun j hj => hp j (by omega))) (by simp)
 | succ d ih =>
  intro i hi hp
  have hx : i < xs.length := by omega
  have hoi := ho _ (List.getElem_mem hx)
  have er : rd_T49 xs (i : Int) = xs[i] := getD_at hx _
  have eg : xs.getD i z49 = xs[i] := by simp [List.getD_eq_getElem?_getD, hx]
  have key : ∀ q, prevOk xs i = q → Ev (fun k => impl_TableOk.j2 k xs (xs.length : Int) (i : Int) (!q) size xs xs[i].f0 xs[i].f1) (((List.range' i (d + 1)).all (ent1 xs)) && z) := by
   intro q hq
   rw [List.range'_succ, List.all_cons, ent1, hq, eg]
   refine Ev.step (fun _ => rfl) ?_
   simp only [impl_TableOk.j2]
   cases q
   ·exact Ev.pos rfl (Ev.const (by simp))
   refine Ev.neg (by simp) ?_
   have rest := ih (i + 1) (by omega) (fun j hj => by
    by_cases a : j = i
    ·rw [a]; exact hq
    ·exact hp j (by omega))
   by_cases e : xs[i].f1 = ⟨#[]⟩
   ·refine Ev.pos (toList_nil.2 e) ?_
    rw [if_pos (show nokey xs[i] = true by simp [nokey, e]), wsucc (by omega)]
    exact Ev.to rest (by simp)
   ·refine Ev.neg (fun h => e (toList_nil.1 h)) ?_
    rw [if_neg (show ¬ nokey xs[i] = true by simp [nokey, e])]
    unfold keyOk
    refine Ev.bind (impl_ItemOk_ev _ _ _ hoi (by decide)) ?_
    cases dd : itemOk xs[i].f1 ⟨#[]⟩ 0
    ·exact Ev.neg (by simp) (Ev.const (by simp))
    ·refine Ev.pos rfl ?_
     refine Ev.bind (impl_entryOf_ev _ hoi) ?_
     rw [en_bne]
     by_cases g : xs[i] = keyE xs[i].f1
     ·refine Ev.neg (by simp [← g]) ?_
      rw [wsucc (by omega), decide_eq_true g]
      exact Ev.to rest (by simp)
     ·refine Ev.pos (by simp [g]) (Ev.const ?_)
      rw [decide_eq_false g]
      simp
  refine Ev.step (fun _ => rfl) ?_
  simp only [impl_TableOk.l0]
  refine Ev.pos (by omega) (Ev.pos (by omega) (Ev.pos (by omega) ?_))
  by_cases a : i = 0
  ·refine Ev.neg (by omega) ?_
   rw [er]
   exact key true (by simp [prevOk, a])
  ·have hx' : i - 1 < xs.length := by omega
   have ew : wrap64 ((i : Int) - 1) = ((i - 1 : Nat) : Int) := by rw [w64 (by omega) (by omega)]; omega
   have er' : rd_T49 xs ((i - 1 : Nat) : Int) = xs[i - 1] := getD_at hx' _
   have eg' : xs.getD (i - 1) z49 = xs[i - 1] := by simp [List.getD_eq_getElem?_getD, hx']
   rw [ew, er, er']
   refine Ev.pos (by omega) (Ev.pos (by omega) (Ev.pos (by omega) ?_))
   refine Ev.bind (impl_compareEntries_ev _ _) ?_
   rw [cmp_ge]
   exact key _ (by rw [prevOk, eg, eg', decide_eq_false a, Bool.false_or])
theorem prev_srt {xs : List En} (h : ∀ i, i < xs.length → prevOk xs i = true) : Srt xs := by
 intro i hi
 have := h (i + 1) hi
 rw [prevOk] at this
 simpa [List.getD_eq_getElem?_getD, hi, show i < xs.length by omega] using this
/-- The program's second loop. -/
def opn (xs : List En) (b : Nat) : Bool := decide (dmy (b : Int) ∈ xs)
def ent2 (xs : List En) (b : Nat) : Bool := !opn xs b || opn xs (par b)
theorem impl_l1 (size : Nat) (xs : List En) (hs : Srt xs) (hz : size ≤ 64) (hl : xs.length ≤ 140737488351232) : ∀ (d i c : Nat), i + d = size → c ≤ i →
  Ev (fun k => impl_TableOk.l1 k (c : Int) (size : Int) (i : Int) (size : Int) xs) (((List.range' i d).all (ent2 xs)) && (opn xs 0 && decide (c + (List.range' i d).countP (opn xs) + xs.countP (fun e => !nokey e) = xs.length))) := by
 intro d
 induction d with
 | zero =>
  intro i c hi hc
  refine Ev.step (fun _ => rfl) ?_
  simp only [impl_TableOk.l1]
  refine Ev.neg (by omega) ?_
  refine Ev.bind (isOpen_ev (size : Int) xs 0 hs hl) ?_
  have eo : decide (dmy 0 ∈ xs) = opn xs 0 := rfl
  rw [eo]
  cases o : opn xs 0
  ·exact Ev.neg (by simp) (Ev.const (by simp))
  ·refine Ev.pos rfl ?_
   refine Ev.bind (keysIn_ev (size : Int) xs hl) ?_
   have en : (fun e : En => decide (e.f1 ≠ ⟨#[]⟩)) = (fun e => !nokey e) := by
    funext e; simp [nokey]
   rw [en]
   have hk := List.countP_le_length (p := fun e : En => !nokey e) (l := xs)
   rw [w64 (by omega) (by omega)]
   refine Ev.const (congrArg some ?_)
   rw [Bool.eq_iff_iff]
   simp
   omega
 | succ d ih =>
  intro i c hi hc
  refine Ev.step (fun _ => rfl) ?_
  simp only [impl_TableOk.l1]
  refine Ev.pos (by omega) ?_
  rw [List.range'_succ, List.all_cons, List.countP_cons]
  refine Ev.bind (isOpen_ev (size : Int) xs (i : Int) hs hl) ?_
  have eo : decide (dmy (i : Int) ∈ xs) = opn xs i := rfl
  rw [eo]
  cases o : opn xs i
  ·refine Ev.neg (by simp) ?_
   rw [wsucc (by omega)]
   refine Ev.to (ih (i + 1) c (by omega) (by omega)) ?_
   rw [show ent2 xs i = true by simp [ent2, o]]
   simp
  ·refine Ev.pos rfl ?_
   refine Ev.bind (impl_Parent_ev i (by omega)) ?_
   refine Ev.bind (isOpen_ev (size : Int) xs ((par i : Nat) : Int) hs hl) ?_
   have eo' : decide (dmy ((par i : Nat) : Int) ∈ xs) = opn xs (par i) := rfl
   rw [eo']
   cases o' : opn xs (par i)
   ·exact Ev.neg (by simp) (Ev.const (by rw [show ent2 xs i = false by simp [ent2, o, o']]; simp))
   ·refine Ev.pos rfl ?_
    rw [wsucc (by omega), wsucc (by omega)]
    refine Ev.to (ih (i + 1) (c + 1) (by omega) (by omega)) ?_
    rw [show ent2 xs i = true by simp [ent2, o'], show ∀ n m : Nat, c + 1 + n + m = c + (n + 1) + m from fun n m => by omega]
    simp
def implOk (size : Int) (xs : List En) : Bool := size2 size && (decide (xs.countP (fun e => !nokey e) ≤ 200) && (((List.range' 0 xs.length).all (ent1 xs)) && (((List.range' 0 size.toNat).all (ent2 xs)) && (opn xs 0 && decide ((List.range' 0 size.toNat).countP (opn xs) + xs.countP (fun e => !nokey e) = xs.length)))))
theorem impl_TableOk_ev0 (size : Int) (xs : List En) (hl : xs.length ≤ 140737488351232) (ho : ∀ e ∈ xs, e.f1.size ≤ 140737488351232) : Ev (fun k => impl_TableOk.f k size xs) (implOk size xs) := by
 have no : Ev (fun k => impl_TableOk.j0 k true size xs) false := by
  refine Ev.step (fun _ => rfl) ?_
  simp only [impl_TableOk.j0]
  exact Ev.pos trivial (Ev.const rfl)
 unfold impl_TableOk.f implOk
 refine Ev.bind (Ev.const (impl_within_eq _ _ _)) ?_
 by_cases w : 1 ≤ size ∧ size ≤ 64
 rotate_left
 ·refine Ev.neg (by simp; omega) (Ev.to no ?_)
  have : size2 size = false := by
   cases h : size2 size
   ·rfl
   ·exact absurd (size2_le h) w
  rw [this, Bool.false_and]
 refine Ev.pos (by simp; omega) ?_
 obtain ⟨n, rfl⟩ := Int.eq_ofNat_of_zero_le (show 0 ≤ size by omega)
 have hs := and_size n (by omega) (by omega)
 by_cases c : size2 (n : Int) = true
 ·rw [c] at hs
  refine Ev.pos (of_decide_eq_true hs) ?_
  refine Ev.bind (keysIn_ev (n : Int) xs hl) ?_
  have en : (fun e : En => decide (e.f1 ≠ ⟨#[]⟩)) = (fun e => !nokey e) := by
   funext e; simp [nokey]
  rw [en, c, Bool.true_and]
  by_cases k : xs.countP (fun e => !nokey e) ≤ 200
  ·rw [decide_eq_true k, Bool.true_and, show decide (((xs.countP (fun e => !nokey e) : Nat) : Int) > 200) = false from decide_eq_false (by omega)]
   refine Ev.step (fun _ => rfl) ?_
   simp only [impl_TableOk.j0]
   refine Ev.neg (by simp) ?_
   refine impl_l0 (n : Int) xs hl ho _ (fun hp => ?_) xs.length 0 (by omega) (fun j hj => by omega)
   refine Ev.to (impl_l1 n xs (prev_srt hp) (by omega) hl n 0 0 (by omega) (Nat.le_refl _)) ?_
   rw [Int.toNat_natCast, Nat.zero_add]
  ·rw [decide_eq_false k, show decide (((xs.countP (fun e => !nokey e) : Nat) : Int) > 200) = true from decide_eq_true (by omega)]
   exact Ev.to no (by simp)
 ·have c' : size2 (n : Int) = false := by simpa using c
  rw [c'] at hs
  refine Ev.neg (of_decide_eq_false hs) (Ev.to no ?_)
  rw [c', Bool.false_and]
theorem sub_len {α : Type} [DecidableEq α] : ∀ (l m : List α), l.Nodup → (∀ x ∈ l, x ∈ m) → l.length ≤ m.length
 | [], m, _, _ => Nat.zero_le _
 | a :: l, m, hn, hs => by
  rw [List.nodup_cons] at hn
  have ha := hs a List.mem_cons_self
  have := sub_len l (m.erase a) hn.2 (fun x hx => (List.mem_erase_of_ne (fun e => hn.1 (by rw [← e]; exact hx))).2 (hs x (List.mem_cons_of_mem _ hx)))
  rw [List.length_erase_of_mem ha] at this
  have hp := List.length_pos_of_mem ha
  rw [List.length_cons]
  omega
theorem sub_eq {α : Type} [DecidableEq α] (l m : List α) (hn : l.Nodup) (hs : ∀ x ∈ l, x ∈ m) (hl : m.length ≤ l.length) : ∀ x ∈ m, x ∈ l := by
 intro x hx
 by_cases c : x ∈ l
 ·exact c
 ·have := sub_len l (m.erase x) hn (fun y hy => (List.mem_erase_of_ne (fun e => c (by rw [← e]; exact hy))).2 (hs y hy))
  rw [List.length_erase_of_mem hx] at this
  have hp := List.length_pos_of_mem hx
  omega
theorem flip_dmy {b : Nat} (h : b < 64) : flipI (dmy (b : Int)).f0 = (b : Int) := by
 have hn : isNum (b : Int) = true := by simp [isNum]; omega
 have e : (dmy (b : Int)).f0 = ((flip b / 2 * 2 : Nat) : Int) := by
  show dummyKey (b : Int) = _
  unfold dummyKey
  rw [if_pos hn, Int.toNat_natCast]
 have hl := flip_lt b
 have hm : isNum ((flip b / 2 * 2 : Nat) : Int) = true := by
  simp only [isNum, Bool.and_eq_true, decide_eq_true_eq]
  omega
 rw [e, flipI, if_pos hm, Int.toNat_natCast, flip_dummy b h]
theorem nokey_dmy (b : Int) : nokey (dmy b) = true := by simp [nokey, dmy]
theorem srt_nodup {xs : List En} (hs : Srt xs) : xs.Nodup := by
 rw [List.Nodup, List.pairwise_iff_getElem]
 intro i j hi hj hij e
 have := hs.inj hi hj e
 omega
def opens (n : Nat) (xs : List En) : List En := ((List.range' 0 n).filter (opn xs)).map (fun b : Nat => dmy (b : Int))
theorem opens_mem {n : Nat} {xs : List En} {e : En} : e ∈ opens n xs ↔ ∃ b, b < n ∧ opn xs b = true ∧ e = dmy (b : Int) := by
 unfold opens
 rw [List.mem_map]
 constructor
 ·rintro ⟨b, hb, rfl⟩
  rw [List.mem_filter, List.mem_range'_1] at hb
  exact ⟨b, by omega, hb.2, rfl⟩
 ·rintro ⟨b, hb, ho, rfl⟩
  exact ⟨b, by rw [List.mem_filter, List.mem_range'_1]; exact ⟨by omega, ho⟩, rfl⟩
theorem opens_nodup {n : Nat} {xs : List En} (hn : n ≤ 64) : (opens n xs).Nodup := by
 unfold opens
 rw [List.Nodup, List.pairwise_map]
 refine List.Pairwise.imp_of_mem ?_ (List.Pairwise.filter _ (List.nodup_range' (s := 0) (n := n)))
 intro a b ha hb hab e
 rw [List.mem_filter, List.mem_range'_1] at ha hb
 have h1 := flip_dmy (b := a) (by omega)
 have h2 := flip_dmy (b := b) (by omega)
 rw [e, h2] at h1
 exact hab (by omega)
theorem opens_length (n : Nat) (xs : List En) : (opens n xs).length = (List.range' 0 n).countP (opn xs) := by
 unfold opens
 rw [List.length_map, List.countP_eq_length_filter]
theorem opens_sub {n : Nat} {xs : List En} : ∀ e ∈ opens n xs, e ∈ xs.filter nokey := by
 intro e he
 obtain ⟨b, _, ho, rfl⟩ := opens_mem.1 he
 rw [List.mem_filter]
 exact ⟨of_decide_eq_true ho, nokey_dmy _⟩
theorem split_len (xs : List En) : xs.length = (xs.filter nokey).length + xs.countP (fun e => !nokey e) := by
 induction xs with
 | nil => rfl
 | cons x r ih =>
  rw [List.length_cons, ih, List.filter_cons, List.countP_cons]
  cases nokey x
  ·simp; omega
  ·simp; omega
theorem getD_xs {xs : List En} {i : Nat} (h : i < xs.length) (z : En) : xs.getD i z = xs[i] := by simp [List.getD_eq_getElem?_getD, h]
theorem ok_eq (size : Int) (xs : List En) : specOk size xs = implOk size xs := by
 unfold specOk implOk
 cases c : size2 size
 ·simp
 have hz := size2_le c
 obtain ⟨n, rfl⟩ := Int.eq_ofNat_of_zero_le (show 0 ≤ size by omega)
 rw [Int.toNat_natCast, Bool.true_and, Bool.true_and, Bool.eq_iff_iff]
 simp only [Bool.and_eq_true, List.all_eq_true, decide_eq_true_eq, List.mem_range'_1, Nat.zero_le, true_and, Nat.zero_add]
 have len := split_len xs
 have ol := opens_length n xs
 constructor
 ·rintro ⟨h0, hE, hk⟩
  have hp : ∀ i, i < xs.length → prevOk xs i = true := fun i hi => by
   have := hE i hi
   rw [entOk, Bool.and_eq_true] at this
   exact this.1
  have hs := prev_srt hp
  have hd : ∀ e ∈ xs, nokey e = true → dOk (n : Int) xs e = true := by
   intro e he hn
   obtain ⟨i, hi, rfl⟩ := List.getElem_of_mem he
   have := hE i hi
   rw [entOk, Bool.and_eq_true, getD_xs hi, if_pos hn] at this
   exact this.2
  refine ⟨hk, ?_, ?_, ?_, ?_⟩
  ·intro i hi
   have := hE i hi
   rw [entOk, Bool.and_eq_true] at this
   rw [ent1, Bool.and_eq_true]
   refine ⟨this.1, ?_⟩
   have t2 := this.2
   split
   ·rfl
   ·rename_i g
    rw [if_neg g] at t2
    exact t2
  ·intro b hb
   unfold ent2
   cases o : opn xs b
   ·rfl
   ·rw [Bool.not_true, Bool.false_or]
    have m : dmy (b : Int) ∈ xs := of_decide_eq_true o
    have dd := hd _ m (nokey_dmy _)
    unfold dOk at dd
    rw [flip_dmy (by omega)] at dd
    simp only [Bool.and_eq_true, Bool.or_eq_true, decide_eq_true_eq, Int.toNat_natCast] at dd
    rcases dd.2.2 with q | q
    ·have : b = 0 := by omega
     subst this
     exact decide_eq_true h0
    ·exact decide_eq_true q
  ·exact decide_eq_true h0
  ·have h1 := sub_len (opens n xs) (xs.filter nokey) (opens_nodup (by omega)) opens_sub
   have h2 := sub_len (xs.filter nokey) (opens n xs) (List.Pairwise.filter _ (srt_nodup hs)) (fun e he => by
    rw [List.mem_filter] at he
    have dd := hd e he.1 he.2
    unfold dOk at dd
    simp only [Bool.and_eq_true, Bool.or_eq_true, decide_eq_true_eq] at dd
    have nn := flipI_nonneg e.f0
    obtain ⟨b, hb⟩ := Int.eq_ofNat_of_zero_le nn
    rw [hb] at dd
    refine opens_mem.2 ⟨b, by omega, ?_, dd.1⟩
    rw [opn, ← dd.1]
    exact decide_eq_true he.1)
   omega
 ·rintro ⟨hk, h1, h2, h0, hc⟩
  have hp : ∀ i, i < xs.length → prevOk xs i = true := fun i hi => by
   have := h1 i hi
   rw [ent1, Bool.and_eq_true] at this
   exact this.1
  refine ⟨of_decide_eq_true h0, ?_, hk⟩
  have back := sub_eq (opens n xs) (xs.filter nokey) (opens_nodup (by omega)) opens_sub (by omega)
  intro i hi
  have t := h1 i hi
  rw [ent1, Bool.and_eq_true] at t
  rw [entOk, Bool.and_eq_true]
  refine ⟨t.1, ?_⟩
  have t2 := t.2
  by_cases g : nokey (xs.getD i z49) = true
  ·rw [if_pos g]
   rw [getD_xs hi] at g ⊢
   obtain ⟨b, hb, ho, e⟩ := opens_mem.1 (back xs[i] (by rw [List.mem_filter]; exact ⟨List.getElem_mem hi, g⟩))
   unfold dOk
   rw [e, flip_dmy (by omega)]
   simp only [Bool.and_eq_true, Bool.or_eq_true, decide_eq_true_eq, Int.toNat_natCast]
   refine ⟨trivial, by omega, ?_⟩
   have q := h2 b hb
   unfold ent2 at q
   rw [ho, Bool.not_true, Bool.false_or] at q
   exact Or.inr (of_decide_eq_true q)
  ·rw [if_neg g] at t2 ⊢
   exact t2
def tableOk (size : Int) (xs : List En) : Bool := implOk size xs
theorem impl_TableOk_ev (size : Int) (xs : List En) (hl : xs.length ≤ 140737488351232) (ho : ∀ e ∈ xs, e.f1.size ≤ 140737488351232) : Ev (fun k => impl_TableOk.f k size xs) (tableOk size xs) := impl_TableOk_ev0 size xs hl ho
theorem spec_TableOk_ev (size : Int) (xs : List En) (hl : xs.length ≤ 140737488351232) (ho : ∀ e ∈ xs, e.f1.size ≤ 140737488351232) : Ev (fun k => spec_TableOk.f k size xs) (tableOk size xs) := Ev.to (spec_TableOk_ev0 size xs hl ho) (ok_eq size xs)
theorem tableOk_srt {size : Int} {xs : List En} (h : tableOk size xs = true) : Srt xs ∧ xs.countP (fun e => !nokey e) ≤ 200 ∧ 1 ≤ size ∧ size ≤ 64 := by
 unfold tableOk implOk at h
 simp only [Bool.and_eq_true, List.all_eq_true, decide_eq_true_eq, List.mem_range'_1, Nat.zero_le, true_and, Nat.zero_add] at h
 refine ⟨prev_srt (fun i hi => ?_), h.2.1, size2_le h.1⟩
 have := h.2.2.1 i hi
 rw [ent1, Bool.and_eq_true] at this
 exact this.1
end Go.Proofs.Ytbjlldjkkdiblaa.Q

namespace Go.Proofs.Ytbjlldjkkdiblaa.Q
open Go.RowKit Go.Proofs.Ytbjlldjkkdiblaa.G Go.Proofs.Ytbjlldjkkdiblaa.PL Go.Proofs.Ytbjlldjkkdiblaa.Ok Go.Proofs.Ytbjlldjkkdiblaa.Fam Go.Proofs.YtbjlldjkkdiblaaW.PrintWords
theorem contains_ev (xs : List En) (x : En) (hl : xs.length ≤ 140737488351232) : Ev (fun k => slices_Contains_impl_Entry_impl_Entry.f k xs x.f0 x.f1) (decide (x ∈ xs)) := by
 have go : ∀ (d i : Nat), i + d = xs.length → Ev (fun k => slices_Index_impl_Entry_impl_Entry.l0 k xs (xs.length : Int) (i : Int) x.f0 x.f1) (atFrom (xs.drop i) i x) := by
  intro d
  induction d with
  | zero =>
   intro i hi
   rw [List.drop_of_length_le (by omega)]
   refine Ev.step (fun _ => rfl) ?_
   simp only [slices_Index_impl_Entry_impl_Entry.l0]
   exact Ev.neg (by omega) (Ev.const rfl)
  | succ d ih =>
   intro i hi
   have hx : i < xs.length := by omega
   have er : rd_T49 xs (i : Int) = xs[i] := getD_at hx _
   refine Ev.step (fun _ => rfl) ?_
   simp only [slices_Index_impl_Entry_impl_Entry.l0]
   rw [er, en_beq, drop_at hx, atFrom]
   refine Ev.pos (by omega) (Ev.pos (by omega) (Ev.pos (by omega) ?_))
   by_cases c : xs[i] = x
   ·exact Ev.pos (by simp [c]) (Ev.const (by rw [if_pos c]))
   ·refine Ev.neg (by simp; exact fun e => c e.symm) ?_
    rw [if_neg c, wsucc (by omega)]
    exact ih (i + 1) (by omega)
 unfold slices_Contains_impl_Entry_impl_Entry.f slices_Index_impl_Entry_impl_Entry.f
 refine Ev.bind (go xs.length 0 (by omega)) ?_
 exact Ev.const (by rw [← atFrom_ge xs 0 x]; rfl)
def has (size : Int) (xs : List En) (s : ByteArray) : Bool := tableOk size xs && (!decide (s = ⟨#[]⟩) && decide (keyE s ∈ xs))
theorem impl_Has_ev (size : Int) (xs : List En) (s : ByteArray) (hl : xs.length ≤ 140737488351232) (ho : ∀ e ∈ xs, e.f1.size ≤ 140737488351232) (hz : s.size ≤ 140737488351232) : Ev (fun k => impl_Has.f k size xs s) (has size xs s) := by
 unfold impl_Has.f has
 by_cases c : s = ⟨#[]⟩
 ·exact Ev.pos (toList_nil.2 c) (Ev.const (by simp [c]))
 ·refine Ev.neg (fun h => c (toList_nil.1 h)) ?_
  refine Ev.bind (impl_TableOk_ev size xs hl ho) ?_
  cases t : tableOk size xs
  ·exact Ev.neg (by simp) (Ev.const (by simp))
  ·refine Ev.pos rfl ?_
   refine Ev.bind (impl_entryOf_ev s hz) ?_
   refine Ev.bind (contains_ev xs (keyE s) hl) ?_
   exact Ev.const (by simp [c])
theorem impl_copyTable_eq (size : Int) (xs : List En) (hl : xs.length ≤ 5864062014634) : impl_copyTable.f size xs = some (size, xs) := by
 unfold impl_copyTable.f
 rw [if_pos (by simp; omega), List.nil_append]
theorem spec_l19Copy_eq (size : Int) (xs : List En) (hl : xs.length ≤ 5864062014634) : spec_l19Copy.f size xs = some (size, xs) := by
 unfold spec_l19Copy.f
 rw [Option.bind_some, if_pos (by simp; omega), List.nil_append]
theorem bl_total : ∀ x y : List UInt8, Go.Op.bytesLess x y = false → Go.Op.bytesLess y x = false → x = y
 | [], [], _, _ => rfl
 | [], _ :: _, h, _ => by simp [Go.Op.bytesLess] at h
 | _ :: _, [], _, h => by simp [Go.Op.bytesLess] at h
 | a :: x, b :: y, h, h' => by
  simp only [Go.Op.bytesLess, Bool.or_eq_false_iff, Bool.and_eq_false_iff, decide_eq_false_iff_not, beq_eq_false_iff_ne] at h h'
  have e : a = b := by
   apply UInt8.toNat_inj.1
   have h1 := h.1
   have h2 := h'.1
   rw [UInt8.lt_iff_toNat_lt] at h1 h2
   omega
  subst e
  have g := h.2.resolve_left (fun n => n rfl)
  have g' := h'.2.resolve_left (fun n => n rfl)
  rw [bl_total x y g g']
theorem elt_total {a b : En} (h : elt a b = false) (h' : elt b a = false) : a = b := by
 have h1 : ¬ elt a b = true := by simp [h]
 have h2 : ¬ elt b a = true := by simp [h']
 rw [elt_iff] at h1 h2
 have e0 : a.f0 = b.f0 := by omega
 refine en_ext e0 (bytes_eq.1 (bl_total _ _ ?_ ?_))
 ·cases c : Go.Op.bytesLess a.f1.toList b.f1.toList
  ·rfl
  ·exact absurd (Or.inr ⟨e0, c⟩) h1
 ·cases c : Go.Op.bytesLess b.f1.toList a.f1.toList
  ·rfl
  ·exact absurd (Or.inr ⟨e0.symm, c⟩) h2
theorem elt_asymm {a b : En} (h : elt a b = true) : elt b a = false := by
 cases c : elt b a
 ·rfl
 ·have := elt_trans h c
  rw [elt_irrefl] at this
  cases this
def Pw (xs : List En) : Prop := xs.Pairwise (fun a b => elt a b = true)
theorem pw_of {xs : List En} (hs : Srt xs) : Pw xs := List.pairwise_iff_getElem.2 (fun _ _ _ hj hij => hs.lt' hij hj)
theorem srt_of {xs : List En} (hp : Pw xs) : Srt xs := fun i h => List.pairwise_iff_getElem.1 hp i (i + 1) (by omega) h (by omega)
theorem pw_eq : ∀ (xs ys : List En), Pw xs → Pw ys → (∀ e, e ∈ xs ↔ e ∈ ys) → xs = ys
 | [], [], _, _, _ => rfl
 | [], y :: ys, _, _, h => by have := (h y).2 List.mem_cons_self; cases this
 | x :: xs, [], _, _, h => by have := (h x).1 List.mem_cons_self; cases this
 | x :: xs, y :: ys, hx, hy, h => by
  rw [Pw, List.pairwise_cons] at hx hy
  have e : x = y := by
   rcases List.mem_cons.1 ((h x).1 List.mem_cons_self) with e | m
   ·exact e
   ·rcases List.mem_cons.1 ((h y).2 List.mem_cons_self) with e | m'
    ·exact e.symm
    ·have a := hy.1 x m
     have b := elt_asymm (hx.1 y m')
     rw [a] at b
     cases b
  subst e
  rw [pw_eq xs ys hx.2 hy.2 (fun e => ⟨fun m => ?_, fun m => ?_⟩)]
  ·rcases List.mem_cons.1 ((h e).1 (List.mem_cons_of_mem _ m)) with q | q
   ·have := hx.1 e m
    rw [q, elt_irrefl] at this
    cases this
   ·exact q
  ·rcases List.mem_cons.1 ((h e).2 (List.mem_cons_of_mem _ m)) with q | q
   ·have := hy.1 e m
    rw [q, elt_irrefl] at this
    cases this
   ·exact q
theorem ins_mem {xs : List En} {x : En} {r : Nat} (e : En) : e ∈ xs.take r ++ [x] ++ xs.drop r ↔ e = x ∨ e ∈ xs := by
 have h : e ∈ xs ↔ e ∈ xs.take r ∨ e ∈ xs.drop r := by rw [← List.mem_append, List.take_append_drop]
 rw [List.mem_append, List.mem_append, h, List.mem_singleton]
 constructor
 ·rintro ((a | a) | a)
  ·exact Or.inr (Or.inl a)
  ·exact Or.inl a
  ·exact Or.inr (Or.inr a)
 ·rintro (a | a | a)
  ·exact Or.inl (Or.inr a)
  ·exact Or.inl (Or.inl a)
  ·exact Or.inr a
theorem ins_len {xs : List En} {x : En} {r : Nat} : (xs.take r ++ [x] ++ xs.drop r).length = xs.length + 1 := by
 simp only [List.length_append, List.length_take, List.length_drop, List.length_singleton]
 omega
theorem ins_srt {xs : List En} {x : En} {r : Nat} (hs : Srt xs) (hr : IsPos xs x r) (hx : x ∉ xs) : Srt (xs.take r ++ [x] ++ xs.drop r) := by
 apply srt_of
 have hp := pw_of hs
 have h1 : ∀ a ∈ xs.take r, elt a x = true := by
  intro a ha
  obtain ⟨p, hp, rfl⟩ := List.getElem_of_mem ha
  rw [List.length_take] at hp
  rw [List.getElem_take]
  exact hr.2.1 p (by omega) (by omega)
 have h2 : ∀ a ∈ xs.drop r, elt x a = true := by
  intro a ha
  have hm := List.mem_of_mem_drop ha
  obtain ⟨p, hp, e⟩ := List.getElem_of_mem ha
  rw [List.length_drop] at hp
  rw [List.getElem_drop] at e
  have := hr.2.2 (r + p) (by omega) (by omega)
  rw [e] at this
  cases c : elt x a
  ·exact absurd ((elt_total this c) ▸ hm) hx
  ·rfl
 rw [Pw, List.append_assoc, List.pairwise_append]
 refine ⟨List.Pairwise.sublist (List.take_sublist r xs) hp, ?_, ?_⟩
 ·rw [List.singleton_append, List.pairwise_cons]
  exact ⟨h2, List.Pairwise.sublist (List.drop_sublist r xs) hp⟩
 ·intro a ha b hb
  rw [List.singleton_append, List.mem_cons] at hb
  rcases hb with rfl | hb
  ·exact h1 a ha
  ·exact elt_trans (h1 a ha) (h2 b hb)
theorem with_ev (size : Int) (xs : List En) (x : En) (hs : Srt xs) (hx : x ∉ xs) (hl : xs.length ≤ 1000) :
  ∃ ys, Srt ys ∧ (∀ e, e ∈ ys ↔ e = x ∨ e ∈ xs) ∧ ys.length = xs.length + 1 ∧ Ev (fun k => impl_Table_with.f k size xs x.f0 x.f1) (size, ys) := by
 obtain ⟨r, hr, he⟩ := place_ev size xs x hs (by omega)
 refine ⟨_, ins_srt hs hr hx, ins_mem, ins_len, ?_⟩
 unfold impl_Table_with.f
 refine Ev.bind (Ev.const (impl_copyTable_eq size xs (by omega))) ?_
 refine Ev.bind he ?_
 refine Ev.bind (Ev.const ?_) (Ev.const rfl)
 have h0 := hr.1
 show slices_Insert_impl_Entry_impl_Entry.f xs (r : Int) [x] = _
 unfold slices_Insert_impl_Entry_impl_Entry.f
 rw [if_pos ⟨by omega, by omega, rfl, by omega⟩, Int.toNat_natCast]
theorem put_l0 (size : Int) (xs : List En) (x : En) (hs : Srt xs) (hl : xs.length ≤ 1000) : ∀ (d i : Nat), i + d = xs.length → (∀ p (h : p < xs.length), p < i → elt xs[p] x = true) →
  ∃ r : Nat, IsPos xs x r ∧ Ev (fun k => spec_l19Put.l0 k (i : Int) size xs x.f0 x.f1) (size, xs.take r ++ [x] ++ xs.drop r) := by
 intro d
 induction d with
 | zero =>
  intro i hi h1
  refine ⟨i, ⟨by omega, h1, fun p h hp => by omega⟩, ?_⟩
  refine Ev.step (fun _ => rfl) ?_
  simp only [spec_l19Put.l0]
  refine Ev.neg (by omega) ?_
  refine Ev.bind (Ev.const rfl) (Ev.pos (by omega) (Ev.pos (by omega) ?_))
  rw [Int.toNat_natCast]
  refine Ev.bind (Ev.const rfl) (Ev.pos (by simp; omega) ?_)
  refine Ev.bind (Ev.const rfl) ?_
  refine Ev.bind (Ev.const rfl) (Ev.pos (by rw [List.length_take]; omega) ?_)
  refine Ev.bind (Ev.const rfl) (Ev.pos (by simp; omega) (Ev.const ?_))
  simp
 | succ d ih =>
  intro i hi h1
  have hx : i < xs.length := by omega
  have er : rd_T49 xs (i : Int) = xs[i] := getD_at hx _
  by_cases c : elt xs[i] x = true
  ·obtain ⟨r, hr, he⟩ := ih (i + 1) (by omega) (fun p h hp => by
    by_cases s : p = i
    ·subst s; exact c
    ·exact h1 p h (by omega))
   refine ⟨r, hr, ?_⟩
   refine Ev.step (fun _ => rfl) ?_
   simp only [spec_l19Put.l0]
   rw [er]
   refine Ev.pos (by omega) (Ev.pos (by omega) ?_)
   refine Ev.bind (Ev.const (spec_l19Before_eq _ _)) ?_
   refine Ev.pos c ?_
   rw [wsucc (by omega)]
   exact he
  ·refine ⟨i, ⟨by omega, h1, fun p h hp => ?_⟩, ?_⟩
   ·cases t : elt xs[p] x
    ·rfl
    ·by_cases s : p = i
     ·subst s; exact absurd t c
     ·exact absurd (elt_trans (hs.lt' (i := i) (j := p) (by omega) h) t) c
   ·refine Ev.step (fun _ => rfl) ?_
    simp only [spec_l19Put.l0]
    rw [er]
    refine Ev.pos (by omega) (Ev.pos (by omega) ?_)
    refine Ev.bind (Ev.const (spec_l19Before_eq _ _)) ?_
    refine Ev.neg c ?_
    refine Ev.bind (Ev.const rfl) (Ev.pos (by omega) ?_)
    rw [Int.toNat_natCast]
    refine Ev.bind (Ev.const rfl) (Ev.pos (by simp; omega) ?_)
    refine Ev.bind (Ev.const rfl) ?_
    refine Ev.bind (Ev.const rfl) (Ev.pos (by rw [List.length_take]; omega) ?_)
    refine Ev.bind (Ev.const rfl) (Ev.pos (by simp; omega) (Ev.const ?_))
    simp
theorem put_ev (size : Int) (xs : List En) (x : En) (hs : Srt xs) (hl : xs.length ≤ 1000) :
  ∃ ys, Srt ys ∧ (∀ e, e ∈ ys ↔ e = x ∨ e ∈ xs) ∧ ys.length ≤ xs.length + 1 ∧ Ev (fun k => spec_l19Put.f k size xs x.f0 x.f1) (size, ys) := by
 by_cases m : x ∈ xs
 ·refine ⟨xs, hs, fun e => ⟨fun h => Or.inr h, fun h => ?_⟩, by omega, ?_⟩
  ·rcases h with rfl | h
   ·exact m
   ·exact h
  ·unfold spec_l19Put.f
   obtain ⟨p, hp, _, e2⟩ := atFrom_some xs 0 x m
   refine Ev.bind (spec_l19At_ev size xs x (by omega)) ?_
   exact Ev.pos (by omega) (Ev.const rfl)
 ·obtain ⟨r, hr, he⟩ := put_l0 size xs x hs hl xs.length 0 (by omega) (fun p h hp => by omega)
  refine ⟨_, ins_srt hs hr m, ins_mem, by rw [ins_len]; exact Nat.le_refl _, ?_⟩
  unfold spec_l19Put.f
  refine Ev.bind (spec_l19At_ev size xs x (by omega)) ?_
  rw [atFrom_none xs 0 x m]
  exact Ev.neg (by omega) he
/-- c is b, or its parent, or the parent's, and so on. -/
inductive Anc : Nat → Nat → Prop
 | self (b : Nat) : Anc b b
 | up {b c : Nat} : b ≠ 0 → Anc (par b) c → Anc b c
theorem par_less : ∀ b : Nat, b < 64 → b ≠ 0 → par b < b := by
 intro b h h0
 unfold par
 repeat' split
 all_goals omega
theorem anc_le {b c : Nat} (h : Anc b c) : b < 64 → c ≤ b := by
 induction h with
 | self b => intro _; exact Nat.le_refl _
 | up h0 _ ih =>
  intro hb
  have := par_less _ hb h0
  have := ih (by omega)
  omega
theorem anc_iff {b c : Nat} : Anc b c ↔ c = b ∨ (b ≠ 0 ∧ Anc (par b) c) := by
 constructor
 ·intro h
  cases h with
  | self => exact Or.inl rfl
  | up h0 h => exact Or.inr ⟨h0, h⟩
 ·rintro (rfl | ⟨h0, h⟩)
  ·exact Anc.self _
  ·exact Anc.up h0 h
theorem dmy_inj {b c : Nat} (hb : b < 64) (hc : c < 64) (e : dmy (b : Int) = dmy (c : Int)) : b = c := by
 have h1 := flip_dmy hb
 rw [e, flip_dmy hc] at h1
 omega
theorem split_ev (size : Int) : ∀ (n b : Nat), b ≤ n → b < 64 → ∀ xs : List En, Srt xs → xs.length + b ≤ 900 →
  ∃ ys, Srt ys ∧ (∀ e, e ∈ ys ↔ (∃ c, Anc b c ∧ e = dmy (c : Int)) ∨ e ∈ xs) ∧ ys.length ≤ xs.length + b + 1 ∧ Ev (fun k => spec_l19Split.f k size xs (b : Int)) (size, ys) := by
 intro n
 induction n with
 | zero =>
  intro b hb _ xs hs hl
  have : b = 0 := by omega
  subst this
  obtain ⟨ys, y1, y2, y3, y4⟩ := put_ev size xs (dmy ((0 : Nat) : Int)) hs (by omega)
  refine ⟨ys, y1, fun e => ?_, by omega, ?_⟩
  ·rw [y2]
   constructor
   ·rintro (h | h)
    ·exact Or.inl ⟨0, Anc.self 0, h⟩
    ·exact Or.inr h
   ·rintro (⟨c, hc, h⟩ | h)
    ·have := anc_le hc (by omega)
     have : c = 0 := by omega
     subst this
     exact Or.inl h
    ·exact Or.inr h
  ·refine Ev.step (fun _ => rfl) ?_
   simp only [spec_l19Split.f]
   refine Ev.bind (spec_l19Dummy_ev _) ?_
   refine Ev.bind y4 ?_
   exact Ev.pos rfl (Ev.const rfl)
 | succ n ih =>
  intro b hb h64 xs hs hl
  by_cases h0 : b = 0
  ·exact ih b (by omega) h64 xs hs hl
  ·obtain ⟨ys, y1, y2, y3, y4⟩ := put_ev size xs (dmy (b : Int)) hs (by omega)
   have hp := par_less b h64 h0
   obtain ⟨zs, z1, z2, z3, z4⟩ := ih (par b) (by omega) (by omega) ys y1 (by omega)
   refine ⟨zs, z1, fun e => ?_, by omega, ?_⟩
   ·rw [z2, y2]
    constructor
    ·rintro (⟨c, hc, h⟩ | h | h)
     ·exact Or.inl ⟨c, Anc.up h0 hc, h⟩
     ·exact Or.inl ⟨b, Anc.self b, h⟩
     ·exact Or.inr h
    ·rintro (⟨c, hc, h⟩ | h)
     ·rcases anc_iff.1 hc with rfl | ⟨_, hc⟩
      ·exact Or.inr (Or.inl h)
      ·exact Or.inl ⟨c, hc, h⟩
     ·exact Or.inr (Or.inr h)
   ·refine Ev.step (fun _ => rfl) ?_
    simp only [spec_l19Split.f]
    refine Ev.bind (spec_l19Dummy_ev _) ?_
    refine Ev.bind y4 ?_
    refine Ev.neg (by omega) ?_
    refine Ev.bind (spec_Parent_ev b h64) ?_
    exact Ev.bind z4 (Ev.const rfl)
theorem anc_mem {size : Nat} {xs : List En} (hz : size ≤ 64) (hc : ∀ c, c < size → dmy (c : Int) ∈ xs → dmy ((par c : Nat) : Int) ∈ xs) {b c : Nat} (h : Anc b c) : b < size → dmy (b : Int) ∈ xs → dmy (c : Int) ∈ xs := by
 induction h with
 | self b => exact fun _ m => m
 | @up b c h0 _ ih =>
  intro hb m
  have := par_less b (by omega) h0
  exact ih (by omega) (hc b hb m)
theorem opened_ev (size : Nat) (xs : List En) (hz : size ≤ 64) (hs : Srt xs) (hl : xs.length ≤ 800) (h00 : dmy ((0 : Nat) : Int) ∈ xs) (hc : ∀ c, c < size → dmy (c : Int) ∈ xs → dmy ((par c : Nat) : Int) ∈ xs) : ∀ (n b : Nat), b ≤ n → b < size →
  ∃ ys, Srt ys ∧ (∀ e, e ∈ ys ↔ (∃ c, Anc b c ∧ e = dmy (c : Int)) ∨ e ∈ xs) ∧ ys.length ≤ xs.length + b + 1 ∧ Ev (fun k => impl_Table_opened.f k (size : Int) xs (b : Int)) ((size : Int), ys) := by
 have now : ∀ b, b < size → dmy (b : Int) ∈ xs → ∃ ys, Srt ys ∧ (∀ e, e ∈ ys ↔ (∃ c, Anc b c ∧ e = dmy (c : Int)) ∨ e ∈ xs) ∧ ys.length ≤ xs.length + b + 1 ∧ Ev (fun k => impl_Table_opened.f k (size : Int) xs (b : Int)) ((size : Int), ys) := by
  intro b hb m
  refine ⟨xs, hs, fun e => ⟨Or.inr, ?_⟩, by omega, ?_⟩
  ·rintro (⟨c, h, rfl⟩ | h)
   ·exact anc_mem hz hc h hb m
   ·exact h
  ·refine Ev.step (fun _ => rfl) ?_
   simp only [impl_Table_opened.f]
   refine Ev.bind (isOpen_ev _ xs (b : Int) hs (by omega)) ?_
   refine Ev.pos (by simp [m]) ?_
   exact Ev.bind (Ev.const (impl_copyTable_eq _ xs (by omega))) (Ev.const rfl)
 intro n
 induction n with
 | zero =>
  intro b hb h64
  have : b = 0 := by omega
  subst this
  exact now 0 h64 h00
 | succ n ih =>
  intro b hb hbs
  by_cases m : dmy (b : Int) ∈ xs
  ·exact now b hbs m
  ·have h0 : b ≠ 0 := by
    intro e; subst e; exact m h00
   have hp := par_less b (by omega) h0
   obtain ⟨ys, y1, y2, y3, y4⟩ := ih (par b) (by omega) (by omega)
   have hn : dmy (b : Int) ∉ ys := by
    rw [y2]
    rintro (⟨c, h, e⟩ | h)
    ·have := anc_le h (by omega)
     have := dmy_inj (b := b) (c := c) (by omega) (by omega) e
     omega
    ·exact m h
   obtain ⟨zs, z1, z2, z3, z4⟩ := with_ev (size : Int) ys (dmy (b : Int)) y1 hn (by omega)
   refine ⟨zs, z1, fun e => ?_, by omega, ?_⟩
   ·rw [z2, y2]
    constructor
    ·rintro (h | ⟨c, hc, h⟩ | h)
     ·exact Or.inl ⟨b, Anc.self b, h⟩
     ·exact Or.inl ⟨c, Anc.up h0 hc, h⟩
     ·exact Or.inr h
    ·rintro (⟨c, hc, h⟩ | h)
     ·rcases anc_iff.1 hc with rfl | ⟨_, hc⟩
      ·exact Or.inl h
      ·exact Or.inr (Or.inl ⟨c, hc, h⟩)
     ·exact Or.inr (Or.inr h)
   ·refine Ev.step (fun _ => rfl) ?_
    simp only [impl_Table_opened.f]
    refine Ev.bind (isOpen_ev _ xs (b : Int) hs (by omega)) ?_
    refine Ev.neg (by simp [m]) ?_
    refine Ev.bind (impl_Parent_ev b (by omega)) ?_
    refine Ev.bind y4 ?_
    refine Ev.bind (Ev.const (impl_DummyKey_eq (b : Int))) ?_
    exact Ev.bind z4 (Ev.const rfl)
theorem tableOk_more {size : Int} {xs : List En} (h : tableOk size xs = true) : ∃ n : Nat, size = (n : Int) ∧ size2 size = true ∧ 1 ≤ n ∧ n ≤ 64 ∧ xs.length ≤ 264 ∧ dmy ((0 : Nat) : Int) ∈ xs ∧ (∀ c, c < n → dmy (c : Int) ∈ xs → dmy ((par c : Nat) : Int) ∈ xs) ∧ (∀ e ∈ xs, nokey e = false → keyOk e = true) ∧ (∀ e ∈ xs, nokey e = true → ∃ b : Nat, b < n ∧ e = dmy (b : Int)) := by
 have hsz := h
 unfold tableOk implOk at h
 simp only [Bool.and_eq_true, List.all_eq_true, decide_eq_true_eq, List.mem_range'_1, Nat.zero_le, true_and, Nat.zero_add] at h
 have hz := size2_le h.1
 obtain ⟨n, rfl⟩ := Int.eq_ofNat_of_zero_le (show 0 ≤ size by omega)
 rw [Int.toNat_natCast] at h
 have hle := List.countP_le_length (p := opn xs) (l := List.range' 0 n)
 rw [List.length_range'] at hle
 refine ⟨n, rfl, h.1, by omega, by omega, by omega, of_decide_eq_true h.2.2.2.2.1, fun c hc hm => ?_, fun e he hn => ?_, fun e he hn => ?_⟩
 ·have := h.2.2.2.1 c hc
  unfold ent2 at this
  rw [show opn xs c = true from decide_eq_true hm, Bool.not_true, Bool.false_or] at this
  exact of_decide_eq_true this
 ·obtain ⟨i, hi, rfl⟩ := List.getElem_of_mem he
  have := h.2.2.1 i hi
  rw [ent1, Bool.and_eq_true, getD_xs hi, if_neg (by simp [hn])] at this
  exact this.2
 ·have hs : specOk (n : Int) xs = true := by rw [ok_eq]; exact hsz
  unfold specOk at hs
  simp only [Bool.and_eq_true, List.all_eq_true, decide_eq_true_eq, List.mem_range'_1, Nat.zero_le, true_and, Nat.zero_add] at hs
  obtain ⟨i, hi, rfl⟩ := List.getElem_of_mem he
  have := hs.2.2.1 i hi
  rw [entOk, Bool.and_eq_true, getD_xs hi, if_pos hn] at this
  have dd := this.2
  unfold dOk at dd
  simp only [Bool.and_eq_true, Bool.or_eq_true, decide_eq_true_eq] at dd
  obtain ⟨b, hb⟩ := Int.eq_ofNat_of_zero_le (flipI_nonneg xs[i].f0)
  rw [hb] at dd
  exact ⟨b, by omega, dd.1⟩
/-- A bucket of a right table is opened: one table, by both. -/
theorem openGood {size : Int} {xs : List En} (h : tableOk size xs = true) {b : Int} (h0 : 0 ≤ b) (hb : b < size) :
  ∃ ys, Srt ys ∧ (∀ e, e ∈ ys ↔ (∃ c, Anc b.toNat c ∧ e = dmy (c : Int)) ∨ e ∈ xs) ∧ ys.length ≤ 400 ∧ Ev (fun k => spec_l19Split.f k size xs b) (size, ys) ∧ Ev (fun k => impl_Table_opened.f k size xs b) (size, ys) := by
 have hs := (tableOk_srt h).1
 obtain ⟨n, rfl, _, _, hn, hl, h00, hc, _⟩ := tableOk_more h
 obtain ⟨m, rfl⟩ := Int.eq_ofNat_of_zero_le h0
 obtain ⟨ys, y1, y2, y3, y4⟩ := split_ev (n : Int) m m (Nat.le_refl _) (by omega) xs hs (by omega)
 obtain ⟨zs, z1, z2, z3, z4⟩ := opened_ev n xs hn hs (by omega) h00 hc m m (Nat.le_refl _) (by omega)
 have e : zs = ys := pw_eq zs ys (pw_of z1) (pw_of y1) (fun e => (z2 e).trans (y2 e).symm)
 subst e
 rw [Int.toNat_natCast]
 exact ⟨zs, z1, z2, by omega, y4, z4⟩
def keysOf (xs : List En) : List ByteArray := (xs.filter (fun e => !nokey e)).map (fun e => e.f1)
theorem spec_Keys_ev (size : Int) (xs : List En) (hl : xs.length ≤ 140737488351232) (ho : ∀ e ∈ xs, e.f1.size ≤ 140737488351232) : Ev (fun k => spec_Keys.f k size xs) (if tableOk size xs = true then keysOf xs else []) := by
 unfold spec_Keys.f
 refine Ev.bind (Ev.const rfl) ?_
 refine Ev.bind (spec_TableOk_ev size xs hl ho) ?_
 by_cases t : tableOk size xs = true
 rotate_left
 ·exact Ev.neg t (Ev.const (by rw [if_neg t]))
 refine Ev.pos t ?_
 rw [if_pos t]
 have hk := (tableOk_srt t).2.1
 have go : ∀ (d i : Nat) (acc : List ByteArray), i + d = xs.length → acc.length + (xs.drop i).countP (fun e => !nokey e) ≤ 200 → Ev (fun k => spec_Keys.l0 k acc xs (xs.length : Int) (i : Int)) (acc ++ keysOf (xs.drop i)) := by
  intro d
  induction d with
  | zero =>
   intro i acc hi hc
   rw [List.drop_of_length_le (by omega)]
   refine Ev.step (fun _ => rfl) ?_
   simp only [spec_Keys.l0]
   exact Ev.neg (by omega) (Ev.const (by simp [keysOf]))
  | succ d ih =>
   intro i acc hi hc
   have hx : i < xs.length := by omega
   have er : rd_T49 xs (i : Int) = xs[i] := getD_at hx _
   rw [drop_at hx, List.countP_cons] at hc
   refine Ev.step (fun _ => rfl) ?_
   simp only [spec_Keys.l0]
   rw [er, drop_at hx, wsucc (by omega)]
   refine Ev.pos (by omega) (Ev.pos (by omega) (Ev.pos (by omega) ?_))
   by_cases e : xs[i].f1 = ⟨#[]⟩
   ·refine Ev.pos (toList_nil.2 e) ?_
    refine Ev.to (ih (i + 1) acc (by omega) (by omega)) ?_
    have g : nokey xs[i] = true := by simp [nokey, e]
    rw [keysOf, keysOf, List.filter_cons, if_neg (by simp [g])]
   ·have g : nokey xs[i] = false := by simp [nokey, e]
    rw [if_pos (by simp [g])] at hc
    refine Ev.neg (fun h => e (toList_nil.1 h)) (Ev.pos (by omega) ?_)
    refine Ev.to (ih (i + 1) (acc ++ [xs[i].f1]) (by omega) (by rw [List.length_append, List.length_singleton]; omega)) ?_
    rw [keysOf, keysOf, List.filter_cons, if_pos (by simp [g]), List.map_cons, List.append_assoc, List.singleton_append]
 exact Ev.to (go xs.length 0 [] (by omega) (by simpa using hk)) (by simp)
theorem impl_Keys_ev (size : Int) (xs : List En) (hl : xs.length ≤ 140737488351232) (ho : ∀ e ∈ xs, e.f1.size ≤ 140737488351232) : Ev (fun k => impl_Keys.f k size xs) (if tableOk size xs = true then keysOf xs else []) := by
 unfold impl_Keys.f
 refine Ev.bind (Ev.const rfl) ?_
 refine Ev.bind (impl_TableOk_ev size xs hl ho) ?_
 by_cases t : tableOk size xs = true
 rotate_left
 ·exact Ev.neg t (Ev.const (by rw [if_neg t]))
 refine Ev.pos t ?_
 rw [if_pos t]
 have hk := (tableOk_srt t).2.1
 have go : ∀ (d i : Nat) (acc : List ByteArray), i + d = xs.length → acc.length + (xs.drop i).countP (fun e => !nokey e) ≤ 200 → Ev (fun k => impl_Keys.l0 k acc xs (xs.length : Int) (i : Int)) (acc ++ keysOf (xs.drop i)) := by
  intro d
  induction d with
  | zero =>
   intro i acc hi hc
   rw [List.drop_of_length_le (by omega)]
   refine Ev.step (fun _ => rfl) ?_
   simp only [impl_Keys.l0]
   exact Ev.neg (by omega) (Ev.const (by simp [keysOf]))
  | succ d ih =>
   intro i acc hi hc
   have hx : i < xs.length := by omega
   have er : rd_T49 xs (i : Int) = xs[i] := getD_at hx _
   rw [drop_at hx, List.countP_cons] at hc
   refine Ev.step (fun _ => rfl) ?_
   simp only [impl_Keys.l0]
   rw [er, drop_at hx, wsucc (by omega)]
   refine Ev.pos (by omega) (Ev.pos (by omega) (Ev.pos (by omega) ?_))
   by_cases e : xs[i].f1 = ⟨#[]⟩
   ·refine Ev.pos (toList_nil.2 e) ?_
    refine Ev.to (ih (i + 1) acc (by omega) (by omega)) ?_
    have g : nokey xs[i] = true := by simp [nokey, e]
    rw [keysOf, keysOf, List.filter_cons, if_neg (by simp [g])]
   ·have g : nokey xs[i] = false := by simp [nokey, e]
    rw [if_pos (by simp [g])] at hc
    refine Ev.neg (fun h => e (toList_nil.1 h)) (Ev.pos (by omega) ?_)
    refine Ev.to (ih (i + 1) (acc ++ [xs[i].f1]) (by omega) (by rw [List.length_append, List.length_singleton]; omega)) ?_
    rw [keysOf, keysOf, List.filter_cons, if_pos (by simp [g]), List.map_cons, List.append_assoc, List.singleton_append]
 exact Ev.to (go xs.length 0 [] (by omega) (by simpa using hk)) (by simp)
theorem keysOf_len (xs : List En) : (keysOf xs).length = xs.countP (fun e => !nokey e) := by
 unfold keysOf
 rw [List.length_map, List.countP_eq_length_filter]
structure TOk (n : Nat) (xs : List En) : Prop where
 sz : size2 (n : Int) = true
 srt : Srt xs
 zero : dmy ((0 : Nat) : Int) ∈ xs
 keys : ∀ e ∈ xs, nokey e = false → keyOk e = true
 dum : ∀ e ∈ xs, nokey e = true → ∃ b : Nat, b < n ∧ e = dmy (b : Int)
 par : ∀ b : Nat, b < n → dmy (b : Int) ∈ xs → dmy ((par b : Nat) : Int) ∈ xs
 cnt : xs.countP (fun e => !nokey e) ≤ 200
theorem TOk.le {n : Nat} {xs : List En} (h : TOk n xs) : 1 ≤ n ∧ n ≤ 64 := by
 have := size2_le h.sz
 omega
theorem TOk.ok {n : Nat} {xs : List En} (h : TOk n xs) : tableOk (n : Int) xs = true := by
 have hn := h.le
 show implOk (n : Int) xs = true
 rw [← ok_eq]
 unfold specOk
 simp only [Bool.and_eq_true, List.all_eq_true, decide_eq_true_eq, List.mem_range'_1, Nat.zero_le, true_and, Nat.zero_add]
 refine ⟨h.sz, h.zero, fun i hi => ?_, h.cnt⟩
 rw [entOk, Bool.and_eq_true, getD_xs hi]
 constructor
 ·unfold prevOk
  rw [getD_xs hi]
  by_cases a : i = 0
  ·simp [a]
  ·rw [getD_xs (show i - 1 < xs.length by omega)]
   have := h.srt (i - 1) (by omega)
   simp only [show i - 1 + 1 = i by omega] at this
   simp [this]
 ·by_cases g : nokey xs[i] = true
  ·rw [if_pos g]
   obtain ⟨b, hb, e⟩ := h.dum _ (List.getElem_mem hi) g
   have hm := List.getElem_mem hi
   rw [e] at hm ⊢
   unfold dOk
   rw [flip_dmy (by omega)]
   simp only [Bool.and_eq_true, Bool.or_eq_true, decide_eq_true_eq, Int.toNat_natCast]
   exact ⟨trivial, by omega, Or.inr (h.par b hb hm)⟩
  ·rw [if_neg g]
   exact h.keys _ (List.getElem_mem hi) (by simpa using g)
theorem TOk.len {n : Nat} {xs : List En} (h : TOk n xs) : xs.length ≤ 264 := by
 obtain ⟨_, _, _, _, _, h1, _⟩ := tableOk_more h.ok
 exact h1
theorem key_eq {e : En} (h : keyOk e = true) : itemOk e.f1 ⟨#[]⟩ 0 = true ∧ e = keyE e.f1 := by
 unfold keyOk at h
 simp only [Bool.and_eq_true, decide_eq_true_eq] at h
 exact h
theorem TOk.sizes {n : Nat} {xs : List En} (h : TOk n xs) : ∀ e ∈ xs, e.f1.size ≤ 140737488351232 := by
 intro e he
 by_cases g : nokey e = true
 ·have : e.f1 = ⟨#[]⟩ := by simpa [nokey] using g
  rw [this]
  decide
 ·have := (key_eq (h.keys e he (by simpa using g))).1
  simp only [itemOk, Bool.and_eq_true, decide_eq_true_eq] at this
  omega
theorem filter_keys {xs ys : List En} (hx : Srt xs) (hy : Srt ys) (h : ∀ e, nokey e = false → (e ∈ ys ↔ e ∈ xs)) : ys.filter (fun e => !nokey e) = xs.filter (fun e => !nokey e) := by
 refine pw_eq _ _ (List.Pairwise.filter _ (pw_of hy)) (List.Pairwise.filter _ (pw_of hx)) (fun e => ?_)
 rw [List.mem_filter, List.mem_filter]
 constructor
 ·rintro ⟨a, b⟩
  exact ⟨(h e (by simpa using b)).1 a, b⟩
 ·rintro ⟨a, b⟩
  exact ⟨(h e (by simpa using b)).2 a, b⟩
theorem same_len {α : Type} [DecidableEq α] {l m : List α} (hl : l.Nodup) (hm : m.Nodup) (h : ∀ x, x ∈ l ↔ x ∈ m) : l.length = m.length :=
 Nat.le_antisymm (sub_len l m hl (fun x hx => (h x).1 hx)) (sub_len m l hm (fun x hx => (h x).2 hx))
theorem more_len {α : Type} [DecidableEq α] {l m : List α} {a : α} (hl : l.Nodup) (hm : m.Nodup) (ha : a ∉ l) (h : ∀ x, x ∈ m ↔ x = a ∨ x ∈ l) : m.length = l.length + 1 := by
 have : m.length = (a :: l).length := same_len hm (List.nodup_cons.2 ⟨ha, hl⟩) (fun x => by rw [h, List.mem_cons])
 rw [this, List.length_cons]
theorem keys_nodup {xs : List En} (hs : Srt xs) : (xs.filter (fun e => !nokey e)).Nodup := List.Pairwise.filter _ (srt_nodup hs)
theorem keysOf_eq {xs ys : List En} (h : ys.filter (fun e => !nokey e) = xs.filter (fun e => !nokey e)) : keysOf ys = keysOf xs := by rw [keysOf, keysOf, h]
theorem count_eq {xs ys : List En} (h : ys.filter (fun e => !nokey e) = xs.filter (fun e => !nokey e)) : ys.countP (fun e => !nokey e) = xs.countP (fun e => !nokey e) := by
 rw [List.countP_eq_length_filter, List.countP_eq_length_filter, h]
theorem nokey_key {s : ByteArray} (h : s ≠ ⟨#[]⟩) : nokey (keyE s) = false := by simp [nokey, keyE, h]
theorem anc_par {b c : Nat} (h : Anc b c) : c ≠ 0 → Anc b (par c) := by
 induction h with
 | self b => exact fun h0 => Anc.up h0 (Anc.self _)
 | up h0 _ ih => exact fun hc => Anc.up h0 (ih hc)
theorem TOk.opened {n b : Nat} {xs ys : List En} (h : TOk n xs) (hb : b < n) (hs : Srt ys) (hm : ∀ e, e ∈ ys ↔ (∃ c, Anc b c ∧ e = dmy (c : Int)) ∨ e ∈ xs) : TOk n ys ∧ keysOf ys = keysOf xs := by
 have hn := h.le
 have hk : ∀ e, nokey e = false → (e ∈ ys ↔ e ∈ xs) := by
  intro e he
  rw [hm]
  constructor
  ·rintro (⟨c, _, rfl⟩ | a)
   ·rw [nokey_dmy] at he; cases he
   ·exact a
  ·exact Or.inr
 have hf := filter_keys h.srt hs hk
 refine ⟨⟨h.sz, hs, (hm _).2 (Or.inr h.zero), fun e he g => h.keys e ((hk e g).1 he) g, fun e he g => ?_, fun c hc he => ?_, by rw [count_eq hf]; exact h.cnt⟩, keysOf_eq hf⟩
 ·rcases (hm e).1 he with ⟨c, a, rfl⟩ | a
  ·have := anc_le a (by omega)
   exact ⟨c, by omega, rfl⟩
  ·exact h.dum e a g
 ·rcases (hm _).1 he with ⟨d, a, e⟩ | a
  ·have h1 := anc_le a (by omega)
   have h2 := dmy_inj (b := c) (c := d) (by omega) (by omega) e
   subst h2
   by_cases z : c = 0
   ·subst z
    exact (hm _).2 (Or.inr h.zero)
   ·exact (hm _).2 (Or.inl ⟨_, anc_par a z, rfl⟩)
  ·exact (hm _).2 (Or.inr (h.par c hc a))
theorem keyOk_key {s : ByteArray} (h : itemOk s ⟨#[]⟩ 0 = true) : keyOk (keyE s) = true := by
 unfold keyOk
 simp only [Bool.and_eq_true, decide_eq_true_eq]
 exact ⟨h, rfl⟩
theorem TOk.added {n : Nat} {xs ys : List En} {s : ByteArray} (h : TOk n xs) (hi : itemOk s ⟨#[]⟩ 0 = true) (h0 : s ≠ ⟨#[]⟩) (hx : keyE s ∉ xs) (hc : xs.countP (fun e => !nokey e) < 200) (hs : Srt ys) (hm : ∀ e, e ∈ ys ↔ e = keyE s ∨ e ∈ xs) : TOk n ys ∧ ys.countP (fun e => !nokey e) = xs.countP (fun e => !nokey e) + 1 := by
 have hk := nokey_key h0
 have hd : ∀ e, nokey e = true → (e ∈ ys ↔ e ∈ xs) := by
  intro e he
  rw [hm]
  constructor
  ·rintro (rfl | a)
   ·rw [hk] at he; cases he
   ·exact a
  ·exact Or.inr
 have hl : ys.countP (fun e => !nokey e) = xs.countP (fun e => !nokey e) + 1 := by
  rw [List.countP_eq_length_filter, List.countP_eq_length_filter]
  refine more_len (a := keyE s) (keys_nodup h.srt) (keys_nodup hs) (fun a => hx (List.mem_filter.1 a).1) (fun e => ?_)
  rw [List.mem_filter, List.mem_filter, hm]
  constructor
  ·rintro ⟨rfl | a, b⟩
   ·exact Or.inl rfl
   ·exact Or.inr ⟨a, b⟩
  ·rintro (rfl | ⟨a, b⟩)
   ·exact ⟨Or.inl rfl, by simp [hk]⟩
   ·exact ⟨Or.inr a, b⟩
 refine ⟨⟨h.sz, hs, (hd _ (nokey_dmy _)).2 h.zero, fun e he g => ?_, fun e he g => h.dum e ((hd e g).1 he) g, fun b hb he => (hd _ (nokey_dmy _)).2 (h.par b hb ((hd _ (nokey_dmy _)).1 he)), by omega⟩, hl⟩
 rcases (hm e).1 he with rfl | a
 ·exact keyOk_key hi
 ·exact h.keys e a g
theorem erase_mem {xs : List En} (hs : Srt xs) {p : Nat} (hp : p < xs.length) (e : En) : e ∈ xs.eraseIdx p ↔ e ∈ xs ∧ e ≠ xs[p] := by
 rw [List.eraseIdx_eq_take_drop_succ, List.mem_append]
 have h : e ∈ xs ↔ e ∈ xs.take p ∨ e = xs[p] ∨ e ∈ xs.drop (p + 1) := by
  rw [← List.mem_cons, ← drop_at hp, ← List.mem_append, List.take_append_drop]
 have nt : xs[p] ∉ xs.take p := by
  intro m
  obtain ⟨q, hq, e⟩ := List.getElem_of_mem m
  rw [List.getElem_take] at e
  rw [List.length_take] at hq
  have := hs.inj (i := q) (j := p) (by omega) hp e
  omega
 have nd : xs[p] ∉ xs.drop (p + 1) := by
  intro m
  obtain ⟨q, hq, e⟩ := List.getElem_of_mem m
  rw [List.getElem_drop] at e
  rw [List.length_drop] at hq
  have := hs.inj (i := p + 1 + q) (j := p) (by omega) hp e
  omega
 rw [h]
 constructor
 ·rintro (a | a)
  ·exact ⟨Or.inl a, fun q => nt (q ▸ a)⟩
  ·exact ⟨Or.inr (Or.inr a), fun q => nd (q ▸ a)⟩
 ·rintro ⟨a | a | a, q⟩
  ·exact Or.inl a
  ·exact absurd a q
  ·exact Or.inr a
theorem TOk.deleted {n : Nat} {xs : List En} {s : ByteArray} (h : TOk n xs) (h0 : s ≠ ⟨#[]⟩) {p : Nat} (hp : p < xs.length) (he : xs[p] = keyE s) : TOk n (xs.eraseIdx p) ∧ (∀ e, e ∈ xs.eraseIdx p ↔ e ∈ xs ∧ e ≠ keyE s) := by
 have hm := erase_mem h.srt hp
 rw [he] at hm
 have hk := nokey_key h0
 have hd : ∀ e, nokey e = true → (e ∈ xs.eraseIdx p ↔ e ∈ xs) := by
  intro e g
  rw [hm]
  constructor
  ·exact fun a => a.1
  ·intro a
   refine ⟨a, ?_⟩
   rintro rfl
   rw [hk] at g; cases g
 refine ⟨⟨h.sz, srt_of (List.Pairwise.sublist (List.eraseIdx_sublist xs p) (pw_of h.srt)), (hd _ (nokey_dmy _)).2 h.zero, fun e a g => h.keys e ((hm e).1 a).1 g, fun e a g => h.dum e ((hd e g).1 a) g, fun b hb a => (hd _ (nokey_dmy _)).2 (h.par b hb ((hd _ (nokey_dmy _)).1 a)), Nat.le_trans (List.Sublist.countP_le (List.eraseIdx_sublist xs p)) h.cnt⟩, hm⟩
theorem TOk.grown {n : Nat} {xs : List En} (h : TOk n xs) (h64 : n ≠ 64) : TOk (2 * n) xs := by
 have hn := h.le
 refine ⟨?_, h.srt, h.zero, h.keys, fun e a g => ?_, fun b hb a => ?_, h.cnt⟩
 ·have := h.sz
  simp [size2] at this ⊢
  omega
 ·obtain ⟨b, hb, e⟩ := h.dum e a g
  exact ⟨b, by omega, e⟩
 ·obtain ⟨c, hc, e⟩ := h.dum _ a (nokey_dmy _)
  have hs := size2_le h.sz
  have h2 : n ≤ 32 := by
   have := h.sz
   simp [size2] at this
   omega
  have := dmy_inj (b := b) (c := c) (by omega) (by omega) e
  subst this
  exact h.par b hc a
theorem keysOf_mem {n : Nat} {xs : List En} (h : TOk n xs) (s : ByteArray) : s ∈ keysOf xs ↔ s ≠ ⟨#[]⟩ ∧ keyE s ∈ xs := by
 unfold keysOf
 rw [List.mem_map]
 constructor
 ·rintro ⟨e, he, rfl⟩
  rw [List.mem_filter] at he
  have g : nokey e = false := by simpa using he.2
  have k := (key_eq (h.keys e he.1 g)).2
  refine ⟨fun q => ?_, k ▸ he.1⟩
  simp [nokey, q] at g
 ·rintro ⟨h0, m⟩
  exact ⟨keyE s, List.mem_filter.2 ⟨m, by simp [nokey_key h0]⟩, rfl⟩
theorem keysOf_nodup {n : Nat} {xs : List En} (h : TOk n xs) : (keysOf xs).Nodup := by
 unfold keysOf
 rw [List.Nodup, List.pairwise_map]
 refine List.Pairwise.imp_of_mem ?_ (keys_nodup h.srt)
 intro a b ha hb hab e
 rw [List.mem_filter] at ha hb
 have ka := (key_eq (h.keys a ha.1 (by simpa using ha.2))).2
 have kb := (key_eq (h.keys b hb.1 (by simpa using hb.2))).2
 rw [ka, kb, e] at hab
 exact hab rfl
theorem i64_xor_nat (a b : Nat) (ha : a < 4294967296) (hb : b < 4294967296) : Go.bits .xor .i64 (a : Int) (b : Int) = ((a ^^^ b : Nat) : Int) := by
 have hx : a ^^^ b < 2 ^ 32 := Nat.xor_lt_two_pow (by omega) (by omega)
 show IntKind.i64.wrap ((BitVec.ofInt 64 (a : Int) ^^^ BitVec.ofInt 64 (b : Int)).toNat : Int) = _
 rw [BitVec.toNat_xor, Go.ofInt_u64 a (by omega), Go.ofInt_u64 b (by omega)]
 exact Go.Lib.wrap_i64_small _ (by omega)
theorem hashOn_num : ∀ (l : List UInt8) (h : Int), isNum h = true → isNum (hashOn l h) = true
 | [], _, h => h
 | c :: l, h, hh => by
  rw [hashOn]
  apply hashOn_num l
  obtain ⟨n, rfl, hn⟩ := isNum_nat hh
  have hc := c.toNat_lt
  rw [w64 (x := (c.toNat : Int)) (by omega) (by omega), i64_xor_nat _ _ (by omega) (by omega)]
  have hx : n ^^^ c.toNat < 2 ^ 32 := Nat.xor_lt_two_pow hn (by omega)
  rw [w64 (by omega) (by omega), Int.tmod_eq_emod_of_nonneg (by omega)]
  simp only [isNum, Bool.and_eq_true, decide_eq_true_eq]
  omega
theorem hash_num (s : ByteArray) : isNum (hash s) = true := hashOn_num _ _ (by decide)
def bucket (h : Int) (n : Int) : Int := h % n
theorem bucket_in {h n : Int} (hz : 1 ≤ n) : 0 ≤ bucket h n ∧ bucket h n < n := by
 have h1 := Int.emod_nonneg h (show n ≠ 0 by omega)
 have h2 := Int.emod_lt_of_pos h (show 0 < n by omega)
 exact ⟨h1, h2⟩
theorem spec_Bucket_eq {h n : Int} (hh : isNum h = true) (h1 : 1 ≤ n) (h2 : n ≤ 64) : spec_Bucket.f h n = some (bucket h n) := by
 have h0 : 0 ≤ h := by simp [isNum] at hh; omega
 unfold spec_Bucket.f
 rw [spec_l01Num_eq, Option.bind_some, if_pos hh, spec_l01In_eq, Option.bind_some, if_pos (by simp; omega), if_neg (by omega), Int.tmod_eq_emod_of_nonneg h0]
 rfl
theorem impl_Bucket_eq {h n : Int} (hh : isNum h = true) (h1 : 1 ≤ n) (h2 : n ≤ 64) : impl_Bucket.f h n = some (bucket h n) := by
 have h0 : 0 ≤ h := by simp [isNum] at hh; omega
 unfold impl_Bucket.f
 rw [impl_isNum_eq, Option.bind_some, if_pos hh, impl_within_eq, Option.bind_some, if_pos (by simp; omega), if_neg (by omega), Int.tmod_eq_emod_of_nonneg h0]
 rfl
theorem nokey_false {s : ByteArray} (h : s ≠ ⟨#[]⟩) : nokey (keyE s) = false := by simp [nokey, keyE, h]
theorem itemOk_ne {s v : ByteArray} {n : Int} (h : itemOk s v n = true) : s ≠ ⟨#[]⟩ := by
 intro e
 subst e
 have : (⟨#[]⟩ : ByteArray).size = 0 := rfl
 simp [itemOk, this] at h
/-- What Add answers for a right table and a right key: the bucket's table, or that with the key. -/
theorem add_both (size : Int) (xs : List En) (s : ByteArray) (hl : xs.length ≤ 5864062014634) (ho : ∀ e ∈ xs, e.f1.size ≤ 140737488351232) (hz : s.size ≤ 140737488351232) :
  ∃ r : Int × List En × Bool, r.2.1.length ≤ 500 ∧ Ev (fun k => spec_Add.f k size xs s) r ∧ Ev (fun k => impl_Add.f k size xs s) r ∧
   (tableOk size xs = true → itemOk s ⟨#[]⟩ 0 = true → ∃ ys, Srt ys ∧ (∀ e, e ∈ ys ↔ (∃ c, Anc (bucket (hash s) size).toNat c ∧ e = dmy (c : Int)) ∨ e ∈ xs) ∧
    if keyE s ∈ xs ∨ xs.countP (fun e => !nokey e) = 200 then r = (size, ys, false) else ∃ zs, Srt zs ∧ (∀ e, e ∈ zs ↔ e = keyE s ∨ e ∈ ys) ∧ r = (size, zs, true)) := by
 have sno : Ev (fun k => spec_Add.j0 k s true size xs) (0, [], false) := by
  refine Ev.step (fun _ => rfl) ?_
  simp only [spec_Add.j0]
  exact Ev.pos trivial (Ev.const rfl)
 have ino : Ev (fun k => impl_Add.j0 k s true size xs) (0, [], false) := by
  refine Ev.step (fun _ => rfl) ?_
  simp only [impl_Add.j0]
  exact Ev.pos trivial (Ev.const rfl)
 by_cases t : tableOk size xs = true
 rotate_left
 ·refine ⟨(0, [], false), by simp, ?_, ?_, fun a => absurd a t⟩
  ·unfold spec_Add.f
   exact Ev.bind (spec_TableOk_ev size xs (by omega) ho) (Ev.neg t sno)
  ·unfold impl_Add.f
   exact Ev.bind (impl_TableOk_ev size xs (by omega) ho) (Ev.neg t ino)
 by_cases c : itemOk s ⟨#[]⟩ 0 = true
 rotate_left
 ·have c' : itemOk s ⟨#[]⟩ 0 = false := by simpa using c
  refine ⟨(0, [], false), by simp, ?_, ?_, fun _ a => absurd a c⟩
  ·unfold spec_Add.f
   refine Ev.bind (spec_TableOk_ev size xs (by omega) ho) (Ev.pos t ?_)
   refine Ev.bind (spec_ItemOk_ev s _ _ hz (by decide)) ?_
   rw [c']
   exact sno
  ·unfold impl_Add.f
   refine Ev.bind (impl_TableOk_ev size xs (by omega) ho) (Ev.pos t ?_)
   refine Ev.bind (impl_ItemOk_ev s _ _ hz (by decide)) ?_
   rw [c']
   exact ino
 obtain ⟨hs, hk, z1, z2⟩ := tableOk_srt t
 have hb := bucket_in (h := hash s) z1
 obtain ⟨ys, y1, y2, y3, y4, y5⟩ := openGood t hb.1 hb.2
 have hne := itemOk_ne c
 have hm : keyE s ∈ ys ↔ keyE s ∈ xs := by
  rw [y2]
  constructor
  ·rintro (⟨c, _, e⟩ | h)
   ·have a := nokey_false hne
    rw [e, nokey_dmy] at a
    cases a
   ·exact h
  ·exact Or.inr
 have hopen : Ev (fun k => spec_Open.f k size xs (bucket (hash s) size)) (size, ys, true) := by
  unfold spec_Open.f
  refine Ev.bind (spec_TableOk_ev size xs (by omega) ho) (Ev.pos t ?_)
  refine Ev.neg (by omega) ?_
  rw [decide_eq_false (by omega : ¬ bucket (hash s) size ≥ size)]
  refine Ev.step (fun _ => rfl) ?_
  simp only [spec_Open.j0]
  refine Ev.neg (by simp) ?_
  refine Ev.bind (Ev.const (spec_l19Copy_eq size xs hl)) ?_
  exact Ev.bind y4 (Ev.const rfl)
 have hhas : has size xs s = decide (keyE s ∈ xs) := by simp [has, t, hne]
 have key : ∀ (q : Bool) (r : Int × List En × Bool), (decide (keyE s ∈ xs) || decide (xs.countP (fun e => !nokey e) = 200)) = q → Ev (fun k => spec_Add.j1 k s q size ys) r → Ev (fun k => impl_Add.j1 k s q size ys) r → Ev (fun k => spec_Add.f k size xs s) r ∧ Ev (fun k => impl_Add.f k size xs s) r := by
  intro q r hq e1 e2
  constructor
  ·unfold spec_Add.f
   refine Ev.bind (spec_TableOk_ev size xs (by omega) ho) (Ev.pos t ?_)
   refine Ev.bind (spec_ItemOk_ev s _ _ hz (by decide)) ?_
   rw [c]
   refine Ev.step (fun _ => rfl) ?_
   simp only [spec_Add.j0]
   refine Ev.neg (by simp) ?_
   refine Ev.bind (spec_Hash_ev s hz) ?_
   refine Ev.bind (Ev.const (spec_Bucket_eq (hash_num s) z1 z2)) ?_
   refine Ev.bind hopen ?_
   refine Ev.bind (spec_l19Key_ev s hz) ?_
   refine Ev.bind (spec_l19At_ev size xs (keyE s) (by omega)) ?_
   by_cases m : keyE s ∈ xs
   ·obtain ⟨p, hp, _, e⟩ := atFrom_some xs 0 (keyE s) m
    rw [e]
    refine Ev.pos (by omega) ?_
    rw [decide_eq_true m, Bool.true_or] at hq
    rw [hq]
    exact e1
   ·rw [atFrom_none xs 0 (keyE s) m]
    refine Ev.neg (by omega) ?_
    refine Ev.bind (spec_Keys_ev size xs (by omega) ho) ?_
    rw [if_pos t]
    rw [decide_eq_false m, Bool.false_or] at hq
    have eq1 : (((keysOf xs).length : Int) == 200) = q := by
     rw [← hq, keysOf_len, Bool.eq_iff_iff]
     simp
     omega
    rw [eq1]
    exact e1
  ·unfold impl_Add.f
   refine Ev.bind (impl_TableOk_ev size xs (by omega) ho) (Ev.pos t ?_)
   refine Ev.bind (impl_ItemOk_ev s _ _ hz (by decide)) ?_
   rw [c]
   refine Ev.step (fun _ => rfl) ?_
   simp only [impl_Add.j0]
   refine Ev.neg (by simp) ?_
   refine Ev.bind (impl_Hash_ev s hz) ?_
   refine Ev.bind (Ev.const (impl_Bucket_eq (hash_num s) z1 z2)) ?_
   refine Ev.bind y5 ?_
   refine Ev.bind (impl_Has_ev size xs s (by omega) ho hz) ?_
   rw [hhas]
   by_cases m : keyE s ∈ xs
   ·rw [decide_eq_true m] at hq ⊢
    rw [Bool.true_or] at hq
    rw [hq]
    exact Ev.pos rfl e2
   ·rw [decide_eq_false m] at hq ⊢
    rw [Bool.false_or] at hq
    refine Ev.neg (by simp) ?_
    refine Ev.bind (keysIn_ev size xs (by omega)) ?_
    have en : (fun e : En => decide (e.f1 ≠ ⟨#[]⟩)) = (fun e => !nokey e) := by
     funext e; simp [nokey]
    have eq1 : (((xs.countP (fun e => decide (e.f1 ≠ ⟨#[]⟩)) : Nat) : Int) == 200) = q := by
     rw [← hq, en, Bool.eq_iff_iff]
     simp
     omega
    rw [eq1]
    exact e2
 by_cases w : keyE s ∈ xs ∨ xs.countP (fun e => !nokey e) = 200
 ·have hq : (decide (keyE s ∈ xs) || decide (xs.countP (fun e => !nokey e) = 200)) = true := by
   rw [Bool.or_eq_true, decide_eq_true_eq, decide_eq_true_eq]; exact w
  have e1 : Ev (fun k => spec_Add.j1 k s true size ys) (size, ys, false) := by
   refine Ev.step (fun _ => rfl) ?_
   simp only [spec_Add.j1]
   exact Ev.pos trivial (Ev.const rfl)
  have e2 : Ev (fun k => impl_Add.j1 k s true size ys) (size, ys, false) := by
   refine Ev.step (fun _ => rfl) ?_
   simp only [impl_Add.j1]
   exact Ev.pos trivial (Ev.const rfl)
  obtain ⟨a, b⟩ := key true _ hq e1 e2
  exact ⟨(size, ys, false), by show ys.length ≤ 500; omega, a, b, fun _ _ => ⟨ys, y1, y2, by rw [if_pos w]⟩⟩
 ·have hq : (decide (keyE s ∈ xs) || decide (xs.countP (fun e => !nokey e) = 200)) = false := by
   rw [Bool.or_eq_false_iff, decide_eq_false_iff_not, decide_eq_false_iff_not]
   exact ⟨fun h => w (Or.inl h), fun h => w (Or.inr h)⟩
  have hn : keyE s ∉ ys := fun h => w (Or.inl (hm.1 h))
  obtain ⟨zs, p1, p2, p3, p4⟩ := put_ev size ys (keyE s) y1 (by omega)
  obtain ⟨us, q1, q2, q3, q4⟩ := with_ev size ys (keyE s) y1 hn (by omega)
  have e : us = zs := pw_eq us zs (pw_of q1) (pw_of p1) (fun e => (q2 e).trans (p2 e).symm)
  subst e
  have e1 : Ev (fun k => spec_Add.j1 k s false size ys) (size, us, true) := by
   refine Ev.step (fun _ => rfl) ?_
   simp only [spec_Add.j1]
   refine Ev.neg (by simp) ?_
   exact Ev.bind (spec_l19Key_ev s hz) (Ev.bind p4 (Ev.const rfl))
  have e2 : Ev (fun k => impl_Add.j1 k s false size ys) (size, us, true) := by
   refine Ev.step (fun _ => rfl) ?_
   simp only [impl_Add.j1]
   refine Ev.neg (by simp) ?_
   exact Ev.bind (impl_entryOf_ev s hz) (Ev.bind q4 (Ev.const rfl))
  obtain ⟨a, b⟩ := key false _ hq e1 e2
  exact ⟨(size, us, true), by show us.length ≤ 500; omega, a, b, fun _ _ => ⟨ys, y1, y2, by rw [if_neg w]; exact ⟨us, q1, q2, rfl⟩⟩⟩
def delT (size : Int) (xs : List En) (s : ByteArray) : Int × List En × Bool := if tableOk size xs = true then (if has size xs s = true then (size, xs.eraseIdx (atFrom xs 0 (keyE s)).toNat, true) else (size, xs, false)) else (0, [], false)
theorem has_mem {size : Int} {xs : List En} {s : ByteArray} (h : has size xs s = true) : s ≠ ⟨#[]⟩ ∧ keyE s ∈ xs := by
 simp [has] at h
 exact ⟨h.2.1, h.2.2⟩
theorem impl_Del_ev (size : Int) (xs : List En) (s : ByteArray) (hl : xs.length ≤ 5864062014634) (ho : ∀ e ∈ xs, e.f1.size ≤ 140737488351232) (hz : s.size ≤ 140737488351232) : Ev (fun k => impl_Del.f k size xs s) (delT size xs s) := by
 unfold impl_Del.f delT
 refine Ev.bind (impl_TableOk_ev size xs (by omega) ho) ?_
 by_cases t : tableOk size xs = true
 rotate_left
 ·exact Ev.neg t (Ev.const (by rw [if_neg t]))
 refine Ev.pos t ?_
 rw [if_pos t]
 have hs := (tableOk_srt t).1
 refine Ev.bind (Ev.const (impl_copyTable_eq size xs hl)) ?_
 refine Ev.bind (impl_Has_ev size xs s (by omega) ho hz) ?_
 by_cases c : has size xs s = true
 rotate_left
 ·exact Ev.neg c (Ev.const (by rw [if_neg c]))
 refine Ev.pos c ?_
 rw [if_pos c]
 obtain ⟨c1, c2⟩ := has_mem c
 obtain ⟨p, hp, e1, e2⟩ := atFrom_some xs 0 (keyE s) c2
 rw [Nat.zero_add] at e2
 obtain ⟨r, hr, he⟩ := place_ev size xs (keyE s) hs (by omega)
 obtain rfl := hr.at hp e1 hs
 refine Ev.bind (impl_entryOf_ev s hz) ?_
 refine Ev.bind he ?_
 refine Ev.bind (a := xs.eraseIdx p) (Ev.const ?_) (Ev.const ?_)
 ·have e : slices_Delete_impl_Entry_impl_Entry.f xs (p : Int) (wrap64 ((p : Int) + 1)) = some (xs.eraseIdx p) := by
   unfold slices_Delete_impl_Entry_impl_Entry.f
   rw [if_pos ⟨by omega, by omega, w64 (by omega) (by omega)⟩, Int.toNat_natCast]
  exact e
 ·rw [e2, Int.toNat_natCast]
theorem spec_Del_ev (size : Int) (xs : List En) (s : ByteArray) (hl : xs.length ≤ 5864062014634) (ho : ∀ e ∈ xs, e.f1.size ≤ 140737488351232) (hz : s.size ≤ 140737488351232) : Ev (fun k => spec_Del.f k size xs s) (delT size xs s) := by
 unfold spec_Del.f delT
 refine Ev.bind (spec_TableOk_ev size xs (by omega) ho) ?_
 by_cases t : tableOk size xs = true
 rotate_left
 ·exact Ev.neg t (Ev.const (by rw [if_neg t]))
 refine Ev.pos t ?_
 rw [if_pos t]
 refine Ev.bind (Ev.const (spec_l19Copy_eq size xs hl)) ?_
 refine Ev.bind (spec_l19Key_ev s hz) ?_
 refine Ev.bind (spec_l19At_ev size xs (keyE s) (by omega)) ?_
 by_cases m : keyE s ∈ xs
 ·obtain ⟨p, hp, e1, e2⟩ := atFrom_some xs 0 (keyE s) m
  rw [Nat.zero_add] at e2
  rw [e2]
  dsimp only
  rw [w64 (x := (p : Int) + 1) (by omega) (by omega)]
  refine Ev.neg (by omega) ?_
  by_cases c : s = ⟨#[]⟩
  ·refine Ev.pos (toList_nil.2 c) (Ev.const ?_)
   rw [if_neg (by simp [has, c])]
  ·refine Ev.neg (fun h => c (toList_nil.1 h)) ?_
   have hh : has size xs s = true := by simp [has, c, m, t]
   rw [if_pos hh]
   exact Ev.pos (by omega) (Ev.pos (by omega) (Ev.pos (by omega) (Ev.pos (by omega) (Ev.const rfl))))
 ·have e2 := atFrom_none xs 0 (keyE s) m
  refine Ev.pos (by omega) (Ev.const ?_)
  rw [if_neg (by simp [has, m])]
def grow (size : Int) (xs : List En) : Int × List En × Bool := if tableOk size xs = true then (if size = 64 then (size, xs, false) else (2 * size, xs, true)) else (0, [], false)
theorem spec_Grow_ev (size : Int) (xs : List En) (hl : xs.length ≤ 5864062014634) (ho : ∀ e ∈ xs, e.f1.size ≤ 140737488351232) : Ev (fun k => spec_Grow.f k size xs) (grow size xs) := by
 unfold spec_Grow.f grow
 refine Ev.bind (spec_TableOk_ev size xs (by omega) ho) ?_
 by_cases t : tableOk size xs = true
 rotate_left
 ·exact Ev.neg t (Ev.const (by rw [if_neg t]))
 have hz := (tableOk_srt t).2.2
 refine Ev.pos t ?_
 rw [if_pos t]
 refine Ev.bind (Ev.const (spec_l19Copy_eq size xs hl)) ?_
 by_cases c : size = 64
 ·exact Ev.pos c (Ev.const (by rw [if_pos c]))
 ·refine Ev.neg c (Ev.const ?_)
  rw [if_neg c, w64 (by omega) (by omega)]
theorem impl_Grow_ev (size : Int) (xs : List En) (hl : xs.length ≤ 5864062014634) (ho : ∀ e ∈ xs, e.f1.size ≤ 140737488351232) : Ev (fun k => impl_Grow.f k size xs) (grow size xs) := by
 unfold impl_Grow.f grow
 refine Ev.bind (impl_TableOk_ev size xs (by omega) ho) ?_
 by_cases t : tableOk size xs = true
 rotate_left
 ·exact Ev.neg t (Ev.const (by rw [if_neg t]))
 have hz := (tableOk_srt t).2.2
 refine Ev.pos t ?_
 rw [if_pos t]
 refine Ev.bind (Ev.const (impl_copyTable_eq size xs hl)) ?_
 by_cases c : size = 64
 ·exact Ev.pos c (Ev.const (by rw [if_pos c]))
 ·refine Ev.neg c (Ev.const ?_)
  rw [if_neg c, w64 (by omega) (by omega)]
def Word (s : ByteArray) : Prop := itemOk s ⟨#[]⟩ 0 = true ∧ s.size ≤ 3
theorem l10Key_ex (b : List Int) (i h : Int) (hb : b.length ≤ 1048576) (hi : 0 ≤ i) : ∃ (s : ByteArray) (i' h' : Int), spec_l10Key.f b i h = some (s, i', h') ∧ s ∈ ([(⟨#[97]⟩ : ByteArray), (⟨#[98]⟩ : ByteArray), (⟨#[99]⟩ : ByteArray), (⟨#[100]⟩ : ByteArray), (⟨#[101]⟩ : ByteArray), (⟨#[102]⟩ : ByteArray), (⟨#[103]⟩ : ByteArray), (⟨#[104]⟩ : ByteArray)] : List ByteArray) ∧ 0 ≤ i' := by
 obtain ⟨s, i', h', e, m, hi'⟩ := l01Of_ex b i h ([(⟨#[97]⟩ : ByteArray), (⟨#[98]⟩ : ByteArray), (⟨#[99]⟩ : ByteArray), (⟨#[100]⟩ : ByteArray), (⟨#[101]⟩ : ByteArray), (⟨#[102]⟩ : ByteArray), (⟨#[103]⟩ : ByteArray), (⟨#[104]⟩ : ByteArray)] : List ByteArray) hb hi (by decide) (by decide)
 refine ⟨s, i', h', ?_, m, hi'⟩
 unfold spec_l10Key.f
 rw [e]
 rfl
theorem word_pair {s t : ByteArray} (hs : s ∈ ([(⟨#[97]⟩ : ByteArray), (⟨#[98]⟩ : ByteArray), (⟨#[99]⟩ : ByteArray), (⟨#[100]⟩ : ByteArray), (⟨#[101]⟩ : ByteArray), (⟨#[102]⟩ : ByteArray), (⟨#[103]⟩ : ByteArray), (⟨#[104]⟩ : ByteArray)] : List ByteArray)) (ht : t ∈ ([(⟨#[]⟩ : ByteArray), (⟨#[49]⟩ : ByteArray), (⟨#[50]⟩ : ByteArray), (⟨#[120]⟩ : ByteArray), (⟨#[121, 121]⟩ : ByteArray)] : List ByteArray)) : Word (s ++ t) ∧ s.size + t.size ≤ 9 := by
 have key : (itemOk (s ++ t) ⟨#[]⟩ 0 && decide ((s ++ t).size ≤ 3) && decide (s.size + t.size ≤ 9)) = true := by
  simp only [List.mem_cons, List.not_mem_nil, or_false] at hs ht
  rcases hs with rfl | rfl | rfl | rfl | rfl | rfl | rfl | rfl <;> rcases ht with rfl | rfl | rfl | rfl | rfl <;> kernel_rfl
 simp only [Bool.and_eq_true, decide_eq_true_eq] at key
 exact ⟨⟨key.1.1, key.1.2⟩, key.2⟩
theorem l19Word_ex (b : List Int) (i h : Int) (hb : b.length ≤ 1048576) (hi : 0 ≤ i) : ∃ (s : ByteArray) (i' h' : Int), spec_l19Word.f b i h = some (s, i', h') ∧ Word s ∧ 0 ≤ i' := by
 obtain ⟨s, i1, h1, e1, m1, hi1⟩ := l10Key_ex b i h hb hi
 obtain ⟨t, i2, h2, e2, m2, hi2⟩ := l01Of_ex b i1 h1 ([(⟨#[]⟩ : ByteArray), (⟨#[49]⟩ : ByteArray), (⟨#[50]⟩ : ByteArray), (⟨#[120]⟩ : ByteArray), (⟨#[121, 121]⟩ : ByteArray)] : List ByteArray) hb hi1 (by decide) (by decide)
 obtain ⟨w1, w2⟩ := word_pair m1 m2
 refine ⟨s ++ t, i2, h2, ?_, w1, hi2⟩
 unfold spec_l19Word.f
 rw [e1, Option.bind_some, e2, Option.bind_some]
 exact if_pos (show s.size + t.size ≤ 9223372036854775807 by omega)
/-- A bucket of a right table is opened. -/
theorem open_tok {n b : Nat} {xs : List En} (h : TOk n xs) (hb : b < n) : ∃ ys, TOk n ys ∧ keysOf ys = keysOf xs ∧ (∀ e, e ∈ ys ↔ (∃ c, Anc b c ∧ e = dmy (c : Int)) ∨ e ∈ xs) ∧ Ev (fun k => spec_Open.f k (n : Int) xs (b : Int)) ((n : Int), ys, true) ∧ Ev (fun k => impl_Open.f k (n : Int) xs (b : Int)) ((n : Int), ys, true) := by
 have hl := h.len
 have ho := h.sizes
 have t := h.ok
 have hn := h.le
 obtain ⟨ys, y1, y2, y3, y4, y5⟩ := openGood t (b := (b : Int)) (by omega) (by omega)
 rw [Int.toNat_natCast] at y2
 obtain ⟨z1, z2⟩ := h.opened hb y1 y2
 refine ⟨ys, z1, z2, y2, ?_, ?_⟩
 ·unfold spec_Open.f
  refine Ev.bind (spec_TableOk_ev _ xs (by omega) ho) (Ev.pos t ?_)
  refine Ev.neg (by omega) ?_
  rw [decide_eq_false (by omega : ¬ (b : Int) ≥ (n : Int))]
  refine Ev.step (fun _ => rfl) ?_
  simp only [spec_Open.j0]
  refine Ev.neg (by simp) ?_
  refine Ev.bind (Ev.const (spec_l19Copy_eq _ xs (by omega))) ?_
  exact Ev.bind y4 (Ev.const rfl)
 ·unfold impl_Open.f
  refine Ev.bind (impl_TableOk_ev _ xs (by omega) ho) (Ev.pos t ?_)
  rw [w64 (x := (n : Int) - 1) (by omega) (by omega)]
  refine Ev.bind (Ev.const (impl_within_eq _ _ _)) ?_
  refine Ev.pos (by simp; omega) ?_
  exact Ev.bind y5 (Ev.const rfl)
/-- A key is added to a right table. -/
theorem add_tok {n : Nat} {xs : List En} {s : ByteArray} (h : TOk n xs) (hi : itemOk s ⟨#[]⟩ 0 = true) (hc : xs.countP (fun e => !nokey e) < 200) : ∃ ys, TOk n ys ∧ (∀ e, nokey e = false → (e ∈ ys ↔ e = keyE s ∨ e ∈ xs)) ∧ ys.countP (fun e => !nokey e) ≤ xs.countP (fun e => !nokey e) + 1 ∧
  Ev (fun k => spec_Add.f k (n : Int) xs s) ((n : Int), ys, !decide (keyE s ∈ xs)) ∧ Ev (fun k => impl_Add.f k (n : Int) xs s) ((n : Int), ys, !decide (keyE s ∈ xs)) := by
 have hl := h.len
 have hz : s.size ≤ 140737488351232 := by
  simp only [itemOk, Bool.and_eq_true, decide_eq_true_eq] at hi; omega
 have hne := itemOk_ne hi
 have hn := h.le
 obtain ⟨r, _, es, ei, hr⟩ := add_both (n : Int) xs s (by omega) h.sizes hz
 obtain ⟨ys, y1, y2, y3⟩ := hr h.ok hi
 have hb := bucket_in (h := hash s) (n := (n : Int)) (by omega)
 obtain ⟨z1, z2⟩ := h.opened (b := (bucket (hash s) (n : Int)).toNat) (by omega) y1 y2
 have hk : ∀ e, nokey e = false → (e ∈ ys ↔ e ∈ xs) := by
  intro e he
  rw [y2]
  constructor
  ·rintro (⟨c, _, rfl⟩ | a)
   ·rw [nokey_dmy] at he; cases he
   ·exact a
  ·exact Or.inr
 have cy : ys.countP (fun e => !nokey e) = xs.countP (fun e => !nokey e) := count_eq (filter_keys h.srt y1 hk)
 by_cases m : keyE s ∈ xs
 ·rw [if_pos (Or.inl m)] at y3
  subst y3
  rw [decide_eq_true m]
  refine ⟨ys, z1, fun e he => ?_, by omega, es, ei⟩
  rw [hk e he]
  constructor
  ·exact Or.inr
  ·rintro (rfl | a)
   ·exact m
   ·exact a
 ·rw [if_neg (fun w => w.elim m (fun w => by omega))] at y3
  obtain ⟨zs, p1, p2, rfl⟩ := y3
  rw [decide_eq_false m]
  have hm : keyE s ∉ ys := fun a => m ((hk _ (nokey_key hne)).1 a)
  obtain ⟨q1, q2⟩ := z1.added hi hne hm (by omega) p1 p2
  refine ⟨zs, q1, fun e he => ?_, by omega, es, ei⟩
  rw [p2, hk e he]
/-- A key goes from a right table. -/
theorem del_tok {n : Nat} {xs : List En} {s : ByteArray} (h : TOk n xs) (hi : itemOk s ⟨#[]⟩ 0 = true) : ∃ ys, TOk n ys ∧ (∀ e, e ∈ ys ↔ e ∈ xs ∧ e ≠ keyE s) ∧ ys.countP (fun e => !nokey e) ≤ xs.countP (fun e => !nokey e) ∧
  Ev (fun k => spec_Del.f k (n : Int) xs s) ((n : Int), ys, decide (keyE s ∈ xs)) ∧ Ev (fun k => impl_Del.f k (n : Int) xs s) ((n : Int), ys, decide (keyE s ∈ xs)) := by
 have hl := h.len
 have hz : s.size ≤ 140737488351232 := by
  simp only [itemOk, Bool.and_eq_true, decide_eq_true_eq] at hi; omega
 have hne := itemOk_ne hi
 have es := spec_Del_ev (n : Int) xs s (by omega) h.sizes hz
 have ei := impl_Del_ev (n : Int) xs s (by omega) h.sizes hz
 have hhas : has (n : Int) xs s = decide (keyE s ∈ xs) := by simp [has, h.ok, hne]
 unfold delT at es ei
 rw [if_pos h.ok, hhas] at es ei
 by_cases m : keyE s ∈ xs
 ·obtain ⟨p, hp, e1, e2⟩ := atFrom_some xs 0 (keyE s) m
  rw [if_pos (decide_eq_true m), e2, Nat.zero_add, Int.toNat_natCast] at es ei
  obtain ⟨q1, q2⟩ := h.deleted hne hp e1
  rw [decide_eq_true m]
  exact ⟨_, q1, q2, List.Sublist.countP_le (List.eraseIdx_sublist xs p), es, ei⟩
 ·rw [if_neg (by simp [m])] at es ei
  rw [decide_eq_false m]
  refine ⟨xs, h, fun e => ⟨fun a => ⟨a, ?_⟩, fun a => a.1⟩, Nat.le_refl _, es, ei⟩
  rintro rfl
  exact m a
/-- A right table grows. -/
theorem grow_tok {n : Nat} {xs : List En} (h : TOk n xs) : ∃ (m : Nat) (q : Bool), TOk m xs ∧ Ev (fun k => spec_Grow.f k (n : Int) xs) ((m : Int), xs, q) ∧ Ev (fun k => impl_Grow.f k (n : Int) xs) ((m : Int), xs, q) := by
 have hl := h.len
 have es := spec_Grow_ev (n : Int) xs (by omega) h.sizes
 have ei := impl_Grow_ev (n : Int) xs (by omega) h.sizes
 unfold grow at es ei
 rw [if_pos h.ok] at es ei
 by_cases c : n = 64
 ·rw [if_pos (by omega)] at es ei
  exact ⟨n, false, h, es, ei⟩
 ·rw [if_neg (by omega)] at es ei
  exact ⟨2 * n, true, h.grown c, es, ei⟩
def Small (xs : List En) : Prop := ∀ e ∈ xs, e.f1.size ≤ 3
theorem dmy_small (b : Int) : (dmy b).f1.size ≤ 3 := by
 show (⟨#[]⟩ : ByteArray).size ≤ 3
 decide
theorem small_more {xs ys : List En} {s : ByteArray} (h : Small xs) (hs : s.size ≤ 3) (hm : ∀ e, nokey e = false → (e ∈ ys ↔ e = keyE s ∨ e ∈ xs)) : Small ys := by
 intro e he
 by_cases g : nokey e = true
 ·have : e.f1 = ⟨#[]⟩ := by simpa [nokey] using g
  rw [this]
  decide
 ·rcases (hm e (by simpa using g)).1 he with rfl | a
  ·exact hs
  ·exact h e a
theorem small_same {xs ys : List En} (h : Small xs) (hm : ∀ e, nokey e = false → (e ∈ ys → e ∈ xs)) : Small ys := by
 intro e he
 by_cases g : nokey e = true
 ·have : e.f1 = ⟨#[]⟩ := by simpa [nokey] using g
  rw [this]
  decide
 ·exact h e (hm e (by simpa using g) he)
theorem l19Some_ev (b : List Int) (i h : Int) (hb : b.length ≤ 1048576) (hi : 0 ≤ i) {n c : Nat} {xs : List En} (ht : TOk n xs) (hs : Small xs) (hc : xs.countP (fun e => !nokey e) ≤ c) (hc1 : c ≤ 100) :
  ∃ (m : Nat) (ys : List En) (i' h' : Int), TOk m ys ∧ Small ys ∧ ys.countP (fun e => !nokey e) ≤ c + 1 ∧ 0 ≤ i' ∧ Ev (fun k => spec_l19Some.f k b i h (n : Int) xs) ((m : Int), ys, i', h') := by
 have hn := ht.le
 obtain ⟨x, i1, h1, e1, x0, x1, _, hi1⟩ := l01Below_ex b i h 7 hb hi (by omega)
 by_cases c0 : x = 0
 ·obtain ⟨m, q, t, es, _⟩ := grow_tok ht
  refine ⟨m, xs, i1, h1, t, hs, by omega, hi1, ?_⟩
  unfold spec_l19Some.f
  exact Ev.bind (Ev.const e1) (Ev.pos c0 (Ev.bind es (Ev.const rfl)))
 by_cases c1 : x = 1
 ·obtain ⟨y, i2, h2, e2, y0, y1, _, hi2⟩ := l01Below_ex b i1 h1 (n : Int) hb hi1 (by omega)
  have y2 := y1 (by omega)
  obtain ⟨z, rfl⟩ := Int.eq_ofNat_of_zero_le y0
  obtain ⟨ys, t, kk, mm, es, _⟩ := open_tok ht (b := z) (by omega)
  have hm : ∀ e, nokey e = false → (e ∈ ys → e ∈ xs) := by
   intro e he a
   rcases (mm e).1 a with ⟨c, _, rfl⟩ | a
   ·rw [nokey_dmy] at he; cases he
   ·exact a
  refine ⟨n, ys, i2, h2, t, small_same hs hm, ?_, hi2, ?_⟩
  ·have : (keysOf ys).length = (keysOf xs).length := by rw [kk]
   rw [keysOf_len, keysOf_len] at this
   omega
  ·unfold spec_l19Some.f
   exact Ev.bind (Ev.const e1) (Ev.neg c0 (Ev.pos c1 (Ev.bind (Ev.const e2) (Ev.bind es (Ev.const rfl)))))
 obtain ⟨s, i2, h2, e2, w, hi2⟩ := l19Word_ex b i1 h1 hb hi1
 by_cases c2 : x = 2
 ·obtain ⟨ys, t, mm, cc, es, _⟩ := del_tok ht w.1
  refine ⟨n, ys, i2, h2, t, small_same hs (fun e _ a => ((mm e).1 a).1), by omega, hi2, ?_⟩
  unfold spec_l19Some.f
  exact Ev.bind (Ev.const e1) (Ev.neg c0 (Ev.neg c1 (Ev.pos c2 (Ev.bind (Ev.const e2) (Ev.bind es (Ev.const rfl))))))
 ·obtain ⟨ys, t, mm, cc, es, _⟩ := add_tok ht w.1 (by omega)
  refine ⟨n, ys, i2, h2, t, small_more hs w.2 mm, by omega, hi2, ?_⟩
  unfold spec_l19Some.f
  exact Ev.bind (Ev.const e1) (Ev.neg c0 (Ev.neg c1 (Ev.neg c2 (Ev.bind (Ev.const e2) (Ev.bind es (Ev.const rfl))))))
theorem l19Draw_l0 (b : List Int) (hb : b.length ≤ 1048576) : ∀ (d : Nat) (i h : Int) (n c : Nat) (xs : List En), 0 ≤ i → TOk n xs → Small xs → xs.countP (fun e => !nokey e) ≤ c → c + d ≤ 100 →
  ∃ (m : Nat) (ys : List En) (i' h' : Int), TOk m ys ∧ Small ys ∧ ys.countP (fun e => !nokey e) ≤ c + d ∧ 0 ≤ i' ∧ Ev (fun k => spec_l19Draw.l0 k (d : Int) b i h (n : Int) xs) ((m : Int), ys, i', h') := by
 intro d
 induction d with
 | zero =>
  intro i h n c xs hi ht hs hc _
  refine ⟨n, xs, i, h, ht, hs, by omega, hi, Ev.step (fun _ => rfl) ?_⟩
  simp only [spec_l19Draw.l0]
  exact Ev.neg (by omega) (Ev.const rfl)
 | succ d ih =>
  intro i h n c xs hi ht hs hc hcd
  obtain ⟨m, ys, i1, h1, t1, s1, c1, hi1, e1⟩ := l19Some_ev b i h hb hi ht hs hc (by omega)
  obtain ⟨m2, zs, i2, h2, t2, s2, c2, hi2, e2⟩ := ih i1 h1 m (c + 1) ys hi1 t1 s1 c1 (by omega)
  refine ⟨m2, zs, i2, h2, t2, s2, by omega, hi2, Ev.step (fun _ => rfl) ?_⟩
  simp only [spec_l19Draw.l0]
  refine Ev.pos (by omega) (Ev.bind e1 ?_)
  rw [w64 (by omega) (by omega), show (((d + 1 : Nat) : Int) - 1) = (d : Int) by omega]
  exact e2
theorem new_tok : TOk 1 [dmy ((0 : Nat) : Int)] := by
 refine ⟨rfl, fun i h => ?_, List.mem_cons_self, fun e he g => ?_, fun e he _ => ⟨0, by omega, by simpa using he⟩, fun b hb h => ?_, ?_⟩
 ·simp at h
 ·rw [List.mem_singleton] at he
  subst he
  rw [nokey_dmy] at g; cases g
 ·have : b = 0 := by omega
  subst this
  exact h
 ·rw [List.countP_cons, List.countP_nil, nokey_dmy]
  simp
theorem spec_TableNew_ev' : Ev (fun k => spec_TableNew.f k) (((1 : Nat) : Int), [dmy ((0 : Nat) : Int)]) := by
 unfold spec_TableNew.f
 exact Ev.bind (spec_l19Dummy_ev 0) (Ev.const rfl)
/-- What MakeTable makes. -/
theorem makeTable_ev (b : List Int) (hb : b.length ≤ 1048576) : ∃ (n : Nat) (xs : List En), TOk n xs ∧ Small xs ∧ xs.countP (fun e => !nokey e) ≤ 20 ∧ Ev (fun k => spec_MakeTable.f k b) ((n : Int), xs) := by
 obtain ⟨h, e0⟩ := l01New_ev b hb
 obtain ⟨x, i1, h1, e1, x0, x1, _, hi1⟩ := l01Below_ex b 0 (wrap64 (h + 61)) 20 hb (by omega) (by omega)
 have x2 := x1 (by omega)
 obtain ⟨d, rfl⟩ := Int.eq_ofNat_of_zero_le x0
 obtain ⟨m, ys, i2, h2, t2, s2, c2, _, e2⟩ := l19Draw_l0 b hb d i1 h1 1 0 [dmy ((0 : Nat) : Int)] hi1 new_tok (fun e he => by
  rw [List.mem_singleton] at he
  subst he
  exact dmy_small _) (by rw [List.countP_cons, List.countP_nil, nokey_dmy]; simp) (by omega)
 refine ⟨m, ys, t2, s2, by omega, ?_⟩
 unfold spec_MakeTable.f
 refine Ev.bind e0 ?_
 refine Ev.bind (a := ((m : Int), ys, i2, h2)) ?_ (Ev.const rfl)
 unfold spec_l19Draw.f
 refine Ev.bind spec_TableNew_ev' ?_
 exact Ev.bind (Ev.const e1) e2
end Go.Proofs.Ytbjlldjkkdiblaa.Q

namespace Go.Proofs.Ytbjlldjkkdiblaa.Q
open Go.RowKit Go.Proofs.Ytbjlldjkkdiblaa.G Go.Proofs.Ytbjlldjkkdiblaa.PL Go.Proofs.YtbjlldjkkdiblaaW.PrintWords
instance decMemBA (s : ByteArray) (l : List ByteArray) : Decidable (s ∈ l) := @List.instDecidableMemOfLawfulBEq ByteArray instBEqOfDecidableEq inferInstance s l
theorem rdS_at {l : List ByteArray} {i : Nat} (h : i < l.length) : rdOf ByteArray.empty l (i : Int) = l[i] := getD_at h _
theorem sameTexts_refl (l : List ByteArray) (hl : l.length ≤ 1000000) : Ev (fun k => laws_sameTexts.f k l l) true := by
 have go : ∀ (d i : Nat), i + d = l.length → Ev (fun k => laws_sameTexts.l0 k l l (l.length : Int) (i : Int)) true := by
  intro d
  induction d with
  | zero =>
   intro i hi
   refine Ev.step (fun _ => rfl) ?_
   simp only [laws_sameTexts.l0]
   exact Ev.neg (by omega) (Ev.const rfl)
  | succ d ih =>
   intro i hi
   refine Ev.step (fun _ => rfl) ?_
   simp only [laws_sameTexts.l0]
   rw [wsucc (by omega)]
   exact Ev.pos (by omega) (Ev.pos (by omega) (Ev.pos (by omega) (Ev.pos (by omega) (Ev.pos trivial (ih (i + 1) (by omega))))))
 unfold laws_sameTexts.f
 exact Ev.pos rfl (go l.length 0 (by omega))
end Go.Proofs.Ytbjlldjkkdiblaa.Q

namespace Go.Proofs.Ytbjlldjkkdiblaa.Q
open Go.RowKit Go.Proofs.Ytbjlldjkkdiblaa.G Go.Proofs.Ytbjlldjkkdiblaa.PL Go.Proofs.Ytbjlldjkkdiblaa.Ok Go.Proofs.Ytbjlldjkkdiblaa.Fam Go.Proofs.YtbjlldjkkdiblaaW.PrintWords
def chainFrom : List En → List ByteArray
 | [] => []
 | e :: r => if nokey e = true then [] else e.f1 :: chainFrom r
theorem chainFrom_len : ∀ l : List En, (chainFrom l).length ≤ l.countP (fun e => !nokey e)
 | [] => Nat.le_refl _
 | e :: r => by
  have := chainFrom_len r
  rw [chainFrom, List.countP_cons]
  by_cases c : nokey e = true
  ·rw [if_pos c]; exact Nat.zero_le _
  ·rw [if_neg c, if_pos (by simpa using c), List.length_cons]; omega
def chain (size : Int) (xs : List En) (b : Int) : List ByteArray :=
 if tableOk size xs = true ∧ 0 ≤ b ∧ b < size ∧ dmy b ∈ xs then chainFrom (xs.drop ((atFrom xs 0 (dmy b)).toNat + 1)) else []
theorem drop_count (xs : List En) (n : Nat) : (xs.drop n).countP (fun e => !nokey e) ≤ xs.countP (fun e => !nokey e) :=
 List.Sublist.countP_le (List.drop_sublist n xs)
theorem chain_len (size : Int) (xs : List En) (b : Int) : (chain size xs b).length ≤ 200 := by
 unfold chain
 split
 ·rename_i h
  have h1 := (tableOk_srt h.1).2.1
  exact Nat.le_trans (chainFrom_len _) (Nat.le_trans (drop_count _ _) h1)
 ·exact Nat.zero_le _
theorem impl_Chain_l0 (xs : List En) (hl : xs.length ≤ 140737488351232) : ∀ (d i : Nat) (acc : List ByteArray), i + d = xs.length → acc.length + (xs.drop i).countP (fun e => !nokey e) ≤ 200 → Ev (fun k => impl_Chain.l0 k acc xs (xs.length : Int) (i : Int)) (acc ++ chainFrom (xs.drop i)) := by
 intro d
 induction d with
 | zero =>
  intro i acc hi hc
  rw [List.drop_of_length_le (by omega)]
  refine Ev.step (fun _ => rfl) ?_
  simp only [impl_Chain.l0]
  exact Ev.neg (by omega) (Ev.const (by simp [chainFrom]))
 | succ d ih =>
  intro i acc hi hc
  have hx : i < xs.length := by omega
  have er : rd_T49 xs (i : Int) = xs[i] := getD_at hx _
  rw [drop_at hx, List.countP_cons] at hc
  refine Ev.step (fun _ => rfl) ?_
  simp only [impl_Chain.l0]
  rw [er, drop_at hx, wsucc (by omega), chainFrom]
  refine Ev.pos (by omega) (Ev.pos (by omega) (Ev.pos (by omega) ?_))
  by_cases e : xs[i].f1 = ⟨#[]⟩
  ·exact Ev.pos (toList_nil.2 e) (Ev.const (by simp [nokey, e]))
  ·have g : nokey xs[i] = false := by simp [nokey, e]
   rw [if_pos (by simp [g])] at hc
   refine Ev.neg (fun h => e (toList_nil.1 h)) (Ev.pos (by omega) ?_)
   refine Ev.to (ih (i + 1) (acc ++ [xs[i].f1]) (by omega) (by rw [List.length_append, List.length_singleton]; omega)) ?_
   simp [g]
theorem impl_Chain_ev (size : Int) (xs : List En) (b : Int) (hl : xs.length ≤ 140737488351232) (ho : ∀ e ∈ xs, e.f1.size ≤ 140737488351232) : Ev (fun k => impl_Chain.f k size xs b) (chain size xs b) := by
 have no : Ev (fun k => impl_Chain.j0 k b [] true size xs) [] := by
  refine Ev.step (fun _ => rfl) ?_
  simp only [impl_Chain.j0]
  exact Ev.pos trivial (Ev.const rfl)
 unfold impl_Chain.f chain
 refine Ev.bind (Ev.const rfl) ?_
 refine Ev.bind (impl_TableOk_ev size xs hl ho) ?_
 by_cases t : tableOk size xs = true
 rotate_left
 ·exact Ev.neg t (Ev.to no (by rw [if_neg (fun h => t h.1)]))
 refine Ev.pos t ?_
 obtain ⟨hs, hk, z1, z2⟩ := tableOk_srt t
 refine Ev.bind (Ev.const (impl_within_eq _ _ _)) ?_
 rw [w64 (x := size - 1) (by omega) (by omega)]
 by_cases c : 0 ≤ b ∧ b < size
 rotate_left
 ·exact Ev.neg (by simp; omega) (Ev.to no (by rw [if_neg (fun h => by omega)]))
 refine Ev.pos (by simp; omega) ?_
 refine Ev.bind (isOpen_ev size xs b hs hl) ?_
 by_cases m : dmy b ∈ xs
 ·obtain ⟨p, hp, e1, e⟩ := atFrom_some xs 0 (dmy b) m
  rw [Nat.zero_add] at e
  have hd := drop_count xs (p + 1)
  obtain ⟨r, hr, he⟩ := place_ev size xs (dmy b) hs hl
  have hpr := hr.at hp e1 hs
  subst hpr
  rw [if_pos ⟨t, c.1, c.2, m⟩, e, Int.toNat_natCast, decide_eq_true m]
  refine Ev.step (fun _ => rfl) ?_
  simp only [impl_Chain.j0]
  refine Ev.neg (by simp) ?_
  refine Ev.bind (Ev.const (impl_DummyKey_eq b)) ?_
  refine Ev.bind he ?_
  rw [wsucc (by omega), Int.toNat_natCast]
  refine Ev.pos (by omega) (Ev.pos (by omega) ?_)
  refine Ev.bind (Ev.const rfl) ?_
  exact Ev.to (impl_Chain_l0 (xs.drop (p + 1)) (by rw [List.length_drop]; omega) (xs.drop (p + 1)).length 0 [] (by omega) (by rw [List.length_nil, List.drop_zero]; omega)) (by simp)
 ·rw [if_neg (fun h => m h.2.2.2), decide_eq_false m]
  exact no
theorem flip_div (h j : Nat) (hj : j ≤ 32) : flip h / 2 ^ (32 - j) = flip (h % 2 ^ j) / 2 ^ (32 - j) := by
 apply Nat.eq_of_testBit_eq
 intro i
 rw [Nat.testBit_div_two_pow, Nat.testBit_div_two_pow, flip_bit, flip_bit, Nat.testBit_mod_two_pow]
 by_cases a : i + (32 - j) < 32
 ·rw [show decide (31 - (i + (32 - j)) < j) = true from decide_eq_true (by omega), Bool.true_and]
 ·rw [decide_eq_false a, Bool.false_and, Bool.false_and]
theorem flip_mul (b j : Nat) (hb : b < 2 ^ j) (hj : j ≤ 32) : flip b % 2 ^ (32 - j) = 0 := by
 apply Nat.eq_of_testBit_eq
 intro i
 rw [Nat.testBit_mod_two_pow, flip_bit, Nat.zero_testBit]
 by_cases a : i < 32 - j
 ·have : b < 2 ^ (31 - i) := Nat.lt_of_lt_of_le hb (Nat.pow_le_pow_right (by decide) (by omega))
  rw [Nat.testBit_lt_two_pow this, Bool.and_false, Bool.and_false]
 ·rw [decide_eq_false a, Bool.false_and]
theorem size_pow {n : Nat} (h : size2 (n : Int) = true) : ∃ j, j ≤ 6 ∧ n = 2 ^ j := by
 simp [size2] at h
 rcases h with h | h | h | h | h | h | h
 ·exact ⟨0, by omega, by omega⟩
 ·exact ⟨1, by omega, by omega⟩
 ·exact ⟨2, by omega, by omega⟩
 ·exact ⟨3, by omega, by omega⟩
 ·exact ⟨4, by omega, by omega⟩
 ·exact ⟨5, by omega, by omega⟩
 ·exact ⟨6, by omega, by omega⟩
theorem flip_even {b j : Nat} (hb : b < 2 ^ j) (hj : j ≤ 6) : flip b % 2 = 0 := by
 have h := flip_mul b j hb (by omega)
 have e : 2 ^ (32 - j) = 2 * 2 ^ (31 - j) := by rw [show 32 - j = (31 - j) + 1 by omega, Nat.pow_succ, Nat.mul_comm]
 rw [e] at h
 have d : flip b = 2 * 2 ^ (31 - j) * (flip b / (2 * 2 ^ (31 - j))) + flip b % (2 * 2 ^ (31 - j)) := (Nat.div_add_mod _ _).symm
 rw [h, Nat.add_zero, Nat.mul_assoc] at d
 omega
theorem dmy_f0 {b j : Nat} (hb : b < 2 ^ j) (hj : j ≤ 6) : (dmy (b : Int)).f0 = ((flip b : Nat) : Int) := by
 have h64 : 2 ^ j ≤ 2 ^ 6 := Nat.pow_le_pow_right (by decide) hj
 have hn : isNum (b : Int) = true := by simp [isNum]; omega
 have e : (dmy (b : Int)).f0 = ((flip b / 2 * 2 : Nat) : Int) := by
  show dummyKey (b : Int) = _
  unfold dummyKey
  rw [if_pos hn, Int.toNat_natCast]
 have := flip_even hb hj
 rw [e]
 omega
/-- A key stands behind the entry of its own bucket, and no other bucket's entry stands between. -/
theorem split_order {n : Nat} (hz : size2 (n : Int) = true) (s : ByteArray) : ∃ b : Nat, b < n ∧ (b : Int) = bucket (hash s) (n : Int) ∧ (dmy (b : Int)).f0 < (keyE s).f0 ∧ ∀ c : Nat, c < n → (dmy (c : Int)).f0 < (keyE s).f0 → (dmy (c : Int)).f0 ≤ (dmy (b : Int)).f0 := by
 obtain ⟨j, hj, rfl⟩ := size_pow hz
 obtain ⟨h, eh, hh⟩ := isNum_nat (hash_num s)
 have hk : (keyE s).f0 = ((flip h / 2 * 2 + 1 : Nat) : Int) := by
  show orderKey (hash s) = _
  unfold orderKey
  rw [if_pos (hash_num s), eh, Int.toNat_natCast]
 have hp : 0 < 2 ^ j := Nat.two_pow_pos j
 have hK : 0 < 2 ^ (32 - j) := Nat.two_pow_pos _
 have hb := Nat.mod_lt h hp
 have hd := flip_div h j (by omega)
 have hm := flip_mul (h % 2 ^ j) j hb (by omega)
 have e1 := Nat.div_add_mod (flip (h % 2 ^ j)) (2 ^ (32 - j))
 rw [hm, Nat.add_zero, ← hd] at e1
 have l1 : 2 ^ (32 - j) * (flip h / 2 ^ (32 - j)) ≤ flip h := Nat.mul_div_le _ _
 refine ⟨h % 2 ^ j, hb, ?_, ?_, ?_⟩
 ·rw [eh]
  unfold bucket
  rfl
 ·have ev := flip_even hb hj
  rw [dmy_f0 hb hj, hk]
  omega
 ·intro c hc hlt
  have ev := flip_even hc hj
  rw [dmy_f0 hc hj, hk] at hlt
  rw [dmy_f0 hc hj, dmy_f0 hb hj]
  have hle : flip c ≤ flip h := by omega
  have hm2 := flip_mul c j hc (by omega)
  have e2 := Nat.div_add_mod (flip c) (2 ^ (32 - j))
  rw [hm2, Nat.add_zero] at e2
  have l2 : flip c / 2 ^ (32 - j) ≤ flip h / 2 ^ (32 - j) := Nat.div_le_div_right hle
  have l3 := Nat.mul_le_mul_left (2 ^ (32 - j)) l2
  omega
theorem dk_lt {n c : Nat} {s : ByteArray} (hn : n ≤ 64) (hc : c < n) (h : elt (dmy (c : Int)) (keyE s) = true) : (dmy (c : Int)).f0 < (keyE s).f0 := by
 rw [elt_iff] at h
 rcases h with h | ⟨h, _⟩
 ·exact h
 ·obtain ⟨k, ek, _⟩ := isNum_nat (hash_num s)
  have hk : (keyE s).f0 = ((flip k / 2 * 2 + 1 : Nat) : Int) := by
   show orderKey (hash s) = _
   unfold orderKey
   rw [if_pos (hash_num s), ek, Int.toNat_natCast]
  have hb : isNum (c : Int) = true := by simp [isNum]; omega
  have e : (dmy (c : Int)).f0 = ((flip c / 2 * 2 : Nat) : Int) := by
   show dummyKey (c : Int) = _
   unfold dummyKey
   rw [if_pos hb, Int.toNat_natCast]
  rw [hk, e] at h
  omega
theorem dd_lt {a b : Int} (h : elt (dmy a) (dmy b) = true) : (dmy a).f0 < (dmy b).f0 := by
 rw [elt_iff] at h
 rcases h with h | ⟨_, h⟩
 ·exact h
 ·have : Go.Op.bytesLess (⟨#[]⟩ : ByteArray).toList (⟨#[]⟩ : ByteArray).toList = true := h
  rw [bl_irrefl] at this
  cases this
theorem chainFrom_mem : ∀ (l : List En) (s : ByteArray), s ∈ chainFrom l ↔ ∃ i, ∃ h : i < l.length, l[i].f1 = s ∧ ∀ j (hj : j ≤ i), nokey (l[j]'(by omega)) = false
 | [], s => by simp [chainFrom]
 | e :: r, s => by
  rw [chainFrom]
  by_cases c : nokey e = true
  ·rw [if_pos c]
   constructor
   ·intro h; cases h
   ·rintro ⟨i, hi, _, h⟩
    have := h 0 (Nat.zero_le _)
    rw [List.getElem_cons_zero, c] at this
    cases this
  ·rw [if_neg c, List.mem_cons, chainFrom_mem r s]
   constructor
   ·rintro (rfl | ⟨i, hi, h1, h2⟩)
    ·refine ⟨0, by simp, rfl, fun j hj => ?_⟩
     have : j = 0 := by omega
     subst this
     simpa using c
    ·refine ⟨i + 1, by simpa using hi, h1, fun j hj => ?_⟩
     cases j with
     | zero => simpa using c
     | succ j => exact h2 j (by omega)
   ·rintro ⟨i, hi, h1, h2⟩
    cases i with
    | zero => exact Or.inl h1.symm
    | succ i => exact Or.inr ⟨i, by simpa using hi, h1, fun j hj => h2 (j + 1) (by omega)⟩
theorem chainFrom_sub : ∀ l : List En, (chainFrom l).Sublist (keysOf l)
 | [] => List.Sublist.refl _
 | e :: r => by
  have ih := chainFrom_sub r
  rw [chainFrom]
  by_cases c : nokey e = true
  ·rw [if_pos c]; exact List.nil_sublist _
  ·rw [if_neg c]
   have e1 : keysOf (e :: r) = e.f1 :: keysOf r := by
    unfold keysOf
    rw [List.filter_cons, if_pos (by simp [c]), List.map_cons]
   rw [e1]
   exact ih.cons_cons _
theorem keysOf_drop (xs : List En) (k : Nat) : (keysOf (xs.drop k)).Sublist (keysOf xs) := by
 unfold keysOf
 exact (List.Sublist.filter _ (List.drop_sublist k xs)).map _
/-- All buckets are open. -/
def AllOpen (n : Nat) (xs : List En) : Prop := ∀ c : Nat, c < n → dmy (c : Int) ∈ xs
theorem chain_at {n b : Nat} {xs : List En} (t : TOk n xs) (ha : AllOpen n xs) (hb : b < n) : ∃ p, ∃ hp : p < xs.length, xs[p] = dmy (b : Int) ∧ chain (n : Int) xs (b : Int) = chainFrom (xs.drop (p + 1)) := by
 obtain ⟨p, hp, e1, e2⟩ := atFrom_some xs 0 (dmy (b : Int)) (ha b hb)
 refine ⟨p, hp, e1, ?_⟩
 unfold chain
 rw [if_pos ⟨t.ok, by omega, by omega, ha b hb⟩, e2, Nat.zero_add, Int.toNat_natCast]
theorem chain_nodup {n b : Nat} {xs : List En} (t : TOk n xs) (ha : AllOpen n xs) (hb : b < n) : (chain (n : Int) xs (b : Int)).Nodup := by
 obtain ⟨p, hp, _, e⟩ := chain_at t ha hb
 rw [e]
 exact List.Pairwise.sublist ((chainFrom_sub _).trans (keysOf_drop xs _)) (keysOf_nodup t)
theorem chain_mem {n b : Nat} {xs : List En} (t : TOk n xs) (ha : AllOpen n xs) (hb : b < n) (s : ByteArray) : s ∈ chain (n : Int) xs (b : Int) ↔ s ∈ keysOf xs ∧ bucket (hash s) (n : Int) = (b : Int) := by
 have hn := t.le
 obtain ⟨p, hp, ep, e⟩ := chain_at t ha hb
 rw [e, chainFrom_mem]
 constructor
 ·rintro ⟨i, hi, h1, h2⟩
  rw [List.length_drop] at hi
  have hq : p + 1 + i < xs.length := by omega
  have hki : nokey xs[p + 1 + i] = false := by
   have := h2 i (Nat.le_refl _)
   rw [List.getElem_drop] at this
   exact this
  rw [List.getElem_drop] at h1
  have ke := (key_eq (t.keys _ (List.getElem_mem hq) hki)).2
  rw [h1] at ke
  have hs0 : s ≠ ⟨#[]⟩ := by
   intro q
   rw [nokey, h1, q] at hki
   simp at hki
  refine ⟨(keysOf_mem t s).2 ⟨hs0, by rw [← ke]; exact List.getElem_mem hq⟩, ?_⟩
  obtain ⟨b', hb', eb, o1, o2⟩ := split_order t.sz s
  rw [← eb]
  obtain ⟨q, hq', eq⟩ := List.getElem_of_mem (ha b' hb')
  have lt1 : elt (dmy (b' : Int)) (keyE s) = true := by rw [elt_iff]; exact Or.inl o1
  have q1 : q < p + 1 + i := by
   apply Nat.lt_of_not_le
   intro hle
   rcases Nat.eq_or_lt_of_le hle with h | h
   ·have : xs[q] = xs[p + 1 + i] := by congr 1; exact h.symm
    rw [eq, ke] at this
    rw [this, elt_irrefl] at lt1
    cases lt1
   ·have := t.srt.lt' h hq'
    rw [eq, ke, elt_asymm lt1] at this
    cases this
  have q2 : q ≤ p := by
   apply Nat.le_of_not_lt
   intro hlt
   have := h2 (q - (p + 1)) (by omega)
   rw [List.getElem_drop] at this
   simp only [show p + 1 + (q - (p + 1)) = q by omega] at this
   rw [eq, nokey_dmy] at this
   cases this
  rcases Nat.eq_or_lt_of_le q2 with h | h
  ·subst h
   rw [eq] at ep
   have := dmy_inj (b := b') (c := b) (by omega) (by omega) ep
   rw [this]
  ·have l1 := t.srt.lt' h hp
   rw [eq, ep] at l1
   have l2 := dd_lt l1
   have l3 := t.srt.lt' (i := p) (j := p + 1 + i) (by omega) hq
   rw [ep, ke] at l3
   have := o2 b hb (dk_lt hn.2 hb l3)
   omega
 ·rintro ⟨hs, hbk⟩
  obtain ⟨hs0, hm⟩ := (keysOf_mem t s).1 hs
  obtain ⟨b', hb', eb, o1, o2⟩ := split_order t.sz s
  have : b' = b := by omega
  subst this
  obtain ⟨q, hq, eq⟩ := List.getElem_of_mem hm
  have lt1 : elt (dmy (b' : Int)) (keyE s) = true := by rw [elt_iff]; exact Or.inl o1
  have pq : p < q := by
   apply Nat.lt_of_not_le
   intro hle
   rcases Nat.eq_or_lt_of_le hle with h | h
   ·have : xs[q] = xs[p] := by congr 1
    rw [eq, ep] at this
    rw [this, elt_irrefl] at lt1
    cases lt1
   ·have := t.srt.lt' h hp
    rw [eq, ep, elt_asymm lt1] at this
    cases this
  refine ⟨q - (p + 1), by rw [List.length_drop]; omega, ?_, fun j hj => ?_⟩
  ·rw [List.getElem_drop]
   simp only [show p + 1 + (q - (p + 1)) = q by omega, eq]
   rfl
  ·rw [List.getElem_drop]
   have hj' : p + 1 + j < xs.length := by omega
   cases g : nokey (xs[p + 1 + j]'hj')
   ·rfl
   ·exfalso
    obtain ⟨c, hc, ec⟩ := t.dum _ (List.getElem_mem hj') g
    have l1 := t.srt.lt' (i := p) (j := p + 1 + j) (by omega) hj'
    rw [ep, ec] at l1
    have l2 := dd_lt l1
    rcases Nat.eq_or_lt_of_le (show p + 1 + j ≤ q by omega) with h | h
    ·have : xs[p + 1 + j] = xs[q] := by congr 1
     rw [this, eq, nokey_key hs0] at g
     cases g
    ·have l3 := t.srt.lt' h hq
     rw [ec, eq] at l3
     have := o2 c hc (dk_lt hn.2 hc l3)
     omega
theorem chain_count {n b : Nat} {xs : List En} (t : TOk n xs) (ha : AllOpen n xs) (hb : b < n) : (chain (n : Int) xs (b : Int)).length = (keysOf xs).countP (fun s => decide (bucket (hash s) (n : Int) = (b : Int))) := by
 rw [List.countP_eq_length_filter]
 refine same_len (chain_nodup t ha hb) (List.Pairwise.filter _ (keysOf_nodup t)) (fun s => ?_)
 rw [chain_mem t ha hb, List.mem_filter, decide_eq_true_eq]
def sumTo (f : Nat → Nat) : Nat → Nat
 | 0 => 0
 | k + 1 => sumTo f k + f k
theorem sumTo_count {α : Type} (g : α → Int) : ∀ (l : List α) (n : Nat), (∀ x ∈ l, 0 ≤ g x ∧ g x < (n : Int)) → sumTo (fun b => l.countP (fun s => decide (g s = (b : Int)))) n = l.length
 | [], n, _ => by
  have : ∀ n, sumTo (fun _ => 0) n = 0 := by
   intro n
   induction n with
   | zero => rfl
   | succ n ih => rw [sumTo, ih]
  simpa using this n
 | x :: l, n, h => by
  have ih := sumTo_count g l n (fun y hy => h y (List.mem_cons_of_mem _ hy))
  have hx := h x List.mem_cons_self
  obtain ⟨m, hm⟩ := Int.eq_ofNat_of_zero_le hx.1
  have key : ∀ k, sumTo (fun b => (x :: l).countP (fun s => decide (g s = (b : Int)))) k = sumTo (fun b => l.countP (fun s => decide (g s = (b : Int)))) k + (if m < k then 1 else 0) := by
   intro k
   induction k with
   | zero => simp [sumTo]
   | succ k ihk =>
    rw [sumTo, sumTo, ihk, List.countP_cons]
    by_cases c : m = k
    ·have : decide (g x = (k : Int)) = true := decide_eq_true (by omega)
     rw [this, if_neg (by omega : ¬ m < k), if_pos rfl, if_pos (by omega : m < k + 1)]
     omega
    ·have : decide (g x = (k : Int)) = false := decide_eq_false (by omega)
     rw [this, if_neg (show ¬ (false = true) by decide)]
     by_cases c2 : m < k
     ·rw [if_pos c2, if_pos (by omega : m < k + 1)]; omega
     ·rw [if_neg c2, if_neg (by omega : ¬ m < k + 1)]; omega
  rw [key n, ih, if_pos (by omega), List.length_cons]
theorem sumTo_congr {f g : Nat → Nat} : ∀ n, (∀ k, k < n → f k = g k) → sumTo f n = sumTo g n
 | 0, _ => rfl
 | n + 1, h => by
  rw [sumTo, sumTo, sumTo_congr n (fun k hk => h k (by omega)), h n (by omega)]
theorem sumTo_le {f : Nat → Nat} : ∀ n, (∀ k, k < n → f k ≤ 200) → sumTo f n ≤ 200 * n
 | 0, _ => Nat.le_refl _
 | n + 1, h => by
  have := sumTo_le n (fun k hk => h k (by omega))
  have := h n (by omega)
  rw [sumTo]
  omega
theorem chains_sum {n : Nat} {xs : List En} (t : TOk n xs) (ha : AllOpen n xs) : sumTo (fun b => (chain (n : Int) xs (b : Int)).length) n = (keysOf xs).length := by
 have hn := t.le
 rw [sumTo_congr n (fun b hb => chain_count t ha hb)]
 exact sumTo_count (fun s => bucket (hash s) (n : Int)) (keysOf xs) n (fun s _ => bucket_in (by omega))
theorem keysOf_size {n : Nat} {xs : List En} (t : TOk n xs) {s : ByteArray} (h : s ∈ keysOf xs) : s.size ≤ 140737488351232 := by
 obtain ⟨_, m⟩ := (keysOf_mem t s).1 h
 exact t.sizes _ m
theorem chain_l2 {n b x8 : Nat} {xs : List En} (x4 l : List ByteArray) (t : TOk n xs) (hl : l.length ≤ 200) (hb : b ≤ 64) (h : ∀ s ∈ l, s.size ≤ 140737488351232 ∧ bucket (hash s) (n : Int) = (b : Int)) (hk : Ev (fun k => laws_FnChain.l1 k x4 (x8 : Int) ((b + 1 : Nat) : Int) (n : Int) xs) true) :
  ∀ (d i : Nat), i + d = l.length → Ev (fun k => laws_FnChain.l2 k x4 (x8 : Int) (b : Int) l (l.length : Int) (i : Int) (n : Int) xs) true := by
 have hn := t.le
 intro d
 induction d with
 | zero =>
  intro i hi
  refine Ev.step (fun _ => rfl) ?_
  simp only [laws_FnChain.l2]
  refine Ev.neg (by omega) ?_
  rw [wsucc (by omega)]
  exact hk
 | succ d ih =>
  intro i hi
  have hx : i < l.length := by omega
  obtain ⟨h1, h2⟩ := h _ (List.getElem_mem hx)
  refine Ev.step (fun _ => rfl) ?_
  simp only [laws_FnChain.l2]
  rw [rdS_at hx]
  refine Ev.pos (by omega) (Ev.pos (by omega) (Ev.pos (by omega) ?_))
  refine Ev.bind (impl_Hash_ev _ h1) ?_
  refine Ev.bind (Ev.const (impl_Bucket_eq (hash_num _) (by omega) (by omega))) ?_
  rw [wsucc (by omega)]
  exact Ev.pos h2 (ih (i + 1) (by omega))
theorem chain_l1 {n : Nat} {xs : List En} (x4 : List ByteArray) (t : TOk n xs) (ha : AllOpen n xs) (h4 : x4 = keysOf xs) : ∀ (d b : Nat), b + d = n →
  Ev (fun k => laws_FnChain.l1 k x4 ((sumTo (fun b => (chain (n : Int) xs (b : Int)).length) b : Nat) : Int) (b : Int) (n : Int) xs) true := by
 have hn := t.le
 have hl := t.len
 intro d
 induction d with
 | zero =>
  intro b hb
  have : b = n := by omega
  subst this
  have hs := chains_sum t ha
  refine Ev.step (fun _ => rfl) ?_
  simp only [laws_FnChain.l1]
  refine Ev.neg (by omega) ?_
  refine Ev.bind (a := ((0 : Int), ([] : List En), false)) ?_ ?_
  ·unfold impl_Open.f
   refine Ev.bind (impl_TableOk_ev _ xs (by omega) t.sizes) (Ev.pos t.ok ?_)
   rw [w64 (x := (b : Int) - 1) (by omega) (by omega)]
   refine Ev.bind (Ev.const (impl_within_eq _ _ _)) ?_
   exact Ev.neg (by simp; omega) (Ev.const rfl)
  ·refine Ev.pos (by rw [hs, h4]) ?_
   refine Ev.bind (spec_Keys_ev _ xs (by omega) t.sizes) ?_
   rw [if_pos t.ok]
   refine Ev.pos (by rw [hs]) ?_
   refine Ev.bind (impl_TableOk_ev _ xs (by omega) t.sizes) (Ev.pos t.ok (Ev.const rfl))
 | succ d ih =>
  intro b hb
  have hc : ∀ k, (chain (n : Int) xs ((k : Nat) : Int)).length ≤ 200 := fun k => chain_len _ _ _
  have hsum := sumTo_le (f := fun b => (chain (n : Int) xs (b : Int)).length) b (fun k _ => hc k)
  refine Ev.step (fun _ => rfl) ?_
  simp only [laws_FnChain.l1]
  refine Ev.pos (by omega) ?_
  refine Ev.bind (impl_Chain_ev _ xs (b : Int) (by omega) t.sizes) ?_
  have hcb := hc b
  rw [w64 (by omega) (by omega)]
  have e : ((sumTo (fun b => (chain (n : Int) xs (b : Int)).length) b : Nat) : Int) + (((chain (n : Int) xs (b : Int)).length : Nat) : Int) = ((sumTo (fun b => (chain (n : Int) xs (b : Int)).length) (b + 1) : Nat) : Int) := by
   rw [sumTo]; omega
  rw [e]
  refine chain_l2 x4 (chain (n : Int) xs (b : Int)) t hcb (by omega) (fun s hs => ?_) (ih (b + 1) (by omega)) (chain (n : Int) xs (b : Int)).length 0 (by omega)
  obtain ⟨a, c⟩ := (chain_mem t ha (by omega) s).1 hs
  exact ⟨keysOf_size t a, c⟩
theorem chain_l0 {n : Nat} (x4 : List ByteArray) (hx4 : x4.length ≤ 200) : ∀ (d b : Nat) (xs : List En), b + d = n → TOk n xs → (∀ c : Nat, c < b → dmy (c : Int) ∈ xs) → x4 = keysOf xs → Ev (fun k => laws_FnChain.l0 k x4 (b : Int) (n : Int) xs) true := by
 intro d
 induction d with
 | zero =>
  intro b xs hb t ha h4
  refine Ev.step (fun _ => rfl) ?_
  simp only [laws_FnChain.l0]
  refine Ev.neg (by omega) ?_
  exact chain_l1 x4 t (fun c hc => ha c (by omega)) h4 n 0 (by omega)
 | succ d ih =>
  intro b xs hb t ha h4
  have hn := t.le
  obtain ⟨ys, t', hk, hm, _, eo⟩ := open_tok t (b := b) (by omega)
  refine Ev.step (fun _ => rfl) ?_
  simp only [laws_FnChain.l0]
  refine Ev.pos (by omega) ?_
  refine Ev.bind eo (Ev.pos rfl ?_)
  have hl := t'.len
  refine Ev.bind (Ev.to (impl_Keys_ev _ ys (by omega) t'.sizes) (if_pos t'.ok)) ?_
  rw [hk, ← h4]
  refine Ev.bind (sameTexts_refl x4 (by omega)) (Ev.pos rfl ?_)
  rw [wsucc (by omega)]
  refine ih (b + 1) ys (by omega) t' (fun c hc => ?_) (by rw [hk]; exact h4)
  rw [hm]
  by_cases e : c = b
  ·subst e; exact Or.inl ⟨c, Anc.self c, rfl⟩
  ·exact Or.inr (ha c (by omega))
end Go.Proofs.Ytbjlldjkkdiblaa.Q
namespace Go.Proofs.Ytbjlldjkkdiblaa.Pure
open Go.RowKit Go.Proofs.Ytbjlldjkkdiblaa.G Go.Proofs.Ytbjlldjkkdiblaa.PL Go.Proofs.Ytbjlldjkkdiblaa.Ok Go.Proofs.Ytbjlldjkkdiblaa.Fam Go.Proofs.Ytbjlldjkkdiblaa.Q Go.Proofs.YtbjlldjkkdiblaaW.PrintWords Go.Proofs.YtbjlldjkkdiblaaW.PrintLast
theorem FnChain : laws_FnChain.Pure := by
 intro b _ _ _
 apply Ev.rounds
 unfold laws_FnChain.f
 by_cases c : (b.length : Int) > 1048576
 ·exact Ev.pos c (Ev.const rfl)
 refine Ev.neg c ?_
 obtain ⟨n, xs, t, _, _, e1⟩ := makeTable_ev b (by omega)
 refine Ev.bind e1 ?_
 have hl := t.len
 refine Ev.bind (Ev.to (impl_Keys_ev _ xs (by omega) t.sizes) (if_pos t.ok)) ?_
 exact chain_l0 (keysOf xs) (by rw [keysOf_len]; exact t.cnt) n 0 xs (by omega) t (fun c hc => by omega) rfl
end Go.Proofs.Ytbjlldjkkdiblaa.Pure

namespace Go.Proofs.Ytbjlldjkkdiblaa.fnChain
open Go.ChangeShapes Go.WideShapes Go.ChangeAt Go.RowKit
open Go.ChangeMaps (open_string shut_string)
set_option linter.unusedVariables false
theorem own : ownKnob Try.prog.godebug = none := by kernel_rfl
theorem laidOut : laidOutB Try.prog = true := by kernel_rfl
def IsRow (k : IntKind) (w : World) (a : Option Addr) (len cap : Nat) (zs : List Int) : Prop :=
 (a = none ∧ len = 0 ∧ cap = 0 ∧ zs = []) ∨
 ∃ x, a = some x ∧ len ≤ cap ∧ cap ≤ maxLen ∧ zs.length = cap ∧ (∀ i, i < zs.length → w.cell? (x.add i) = some (.int k (zs.getD i 0))) ∧ ∀ n ∈ zs, (Lit.int k n).wf = true
set_option maxRecDepth 100000 in
theorem lifted (os : Os) (started : os.Started) (H : Type) (enc : TypeId × Value → H) :
  ReturnsInHanded {} Try.checked os 4 .any (Rows.fnChainSpec.pre6 enc Try.prog Try.f4 Rows.fnChainRow.domain false) (Rows.fnChainSpec.post enc Try.prog Try.f4 false true false false) := by
 refine returnsInHanded_of_change_sized (C := Try.checked) own started (by kernel_rfl) Try.func4
  (ChangeSpec.witness6 (enc := enc) (C := Try.checked) false ⟨#[], #[.slice none 0 0], []⟩ 8 (by kernel_rfl) (by kernel_rfl) (by kernel_rfl) (by kernel_rfl)) ?_
 intro W base args ds gs before hval0 hW hcnd hsz0 _
 have hsz : (DataW.weightsEach Try.prog (Try.f4.params.toList ++ Rows.fnChainSpec.plain.varTypes Try.prog) (ds ++ gs)).all (· ≤ reachBytes) = true := hsz0
 have hval : ∀ (j : Nat) t v, Try.f4.params[j]? = some t → args[j]? = some v → Value.okWide Try.prog W .any base t v := hval0
 have hW' := hW
 obtain ⟨p, q, hA0, hV, rfl, hfz, hnd⟩ := hW
 have hA : DataW.TrodAll enc Try.prog W 0 (fun _ => true) true Try.f4.params.toList args.toList ds p := hA0
 rw [Try.params4] at hA hval hsz
 obtain ⟨v0, vs0, d0, ds0, p0, q0, hargs, rfl, rfl, h0, r0⟩ := trodAll_cons hA
 obtain ⟨rfl, rfl, rfl⟩ := trodAll_nil r0
 obtain rfl : args = #[v0] := by cases args; simp_all
 obtain ⟨rfl, rfl⟩ := trodVars_none hV
 obtain ⟨a0, len0, cap0, rfl⟩ := okWide_slice Try.underlying22 (hval 0 22 v0 rfl rfl)
 have k0 := h0
 have lt0 : ∀ x ∈ p0, x.block < W.heap.size := by obtain ⟨m, hm⟩ := k0; exact DataW.trod_lt m _ _ _ hm
 obtain ⟨z0, w0⟩ : ∃ zs, IsRow .u8 W a0 len0 cap0 zs := by
  obtain ⟨fuel, hf⟩ := h0
  rcases open_ints Try.underlying22 Try.underlying5 (by kernel_rfl) hf with ⟨hcs, _⟩ | ⟨x, l, c, zs, hcs, _, hl, hm, hz, _, hcell, hwz⟩
  ·simp [Value.cells] at hcs
   obtain ⟨rfl, rfl, rfl⟩ := hcs
   exact ⟨[], .inl ⟨rfl, rfl, rfl, rfl⟩⟩
  ·simp [Value.cells] at hcs
   obtain ⟨rfl, rfl, rfl⟩ := hcs
   exact ⟨zs, .inr ⟨_, rfl, hl, hm, by simpa using hz, hcell, hwz⟩⟩
 have y0 : len0 * 1 ≤ 140737488351232 := Go.Proofs.YtbjlldjkkdiblaaW.PrintWords.sized_ints hsz (j := 0) (t := 22) rfl rfl Try.underlying22 Try.underlying5 (by kernel_rfl) (by kernel_rfl) h0
 clear hA0 hval0 hsz0 hsz
 refine (G.laws_FnChain.walk Pure.FnChain a0 len0 cap0 z0 W w0 y0).mono fun e W' ⟨he, bel⟩ => ?_
 subst he
 exact ⟨_, rfl, _, _, _, [], _, [], hW', trodAll_mk1 (shut_bool Try.underlying4 _), (trodAll_cons_mk (Below.trod laidOut (by kernel_rfl) (of_decide_eq_true (by kernel_rfl)) k0 bel lt0) trodAll_mk0), rfl, bel.frame _, fun h => by cases h⟩
theorem over : Rows.fnChainRow.holds Try.pinned (OpenSpec.ofChange Rows.fnChainSpec) :=
 OpenClaim.holds_of_wide 4 Try.f4 rfl rfl rfl rfl rfl rfl rfl ⟨rfl, rfl, rfl, rfl, rfl⟩ rfl rfl rfl rfl rfl (by kernel_rfl) Try.func4 (by kernel_rfl)
  (of_decide_eq_true (by kernel_rfl)) (by unfold Func.isWrapper; first | (rw [if_pos (by decide +kernel)]; kernel_rfl) | (rw [if_neg (by decide +kernel)]; exact ⟨rfl, rfl⟩))
  (fun os started H enc _ => lifted os started H enc)
theorem proved : Rows.FnChainSaid := over
end Go.Proofs.Ytbjlldjkkdiblaa.fnChain
namespace Go.Proofs.Ytbjlldjkkdiblaa
/-- The row, under a short name, for the claim. -/
theorem fnChain_holds : Rows.FnChainSaid := fnChain.proved
end Go.Proofs.Ytbjlldjkkdiblaa
