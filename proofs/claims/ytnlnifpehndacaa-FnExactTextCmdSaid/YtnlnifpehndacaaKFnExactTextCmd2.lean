/- Part 2 of the claim FnExactTextCmd, merged by pack.py (this session's program) out of: the print's words, cut to what is needed; texts that gen.py printed (it runs the kit's print in place); texts of this session. -/
import Derived.Test.YtnlnifpehndacaaKFnExactTextCmd1
namespace Go.Proofs.Ytnlnifpehndacaa.Mm
end Go.Proofs.Ytnlnifpehndacaa.Mm
namespace Go.Proofs.Ytnlnifpehndacaa.Sh
end Go.Proofs.Ytnlnifpehndacaa.Sh
set_option maxHeartbeats 8000000
set_option maxRecDepth 100000
namespace Go.Proofs.Ytnlnifpehndacaa.G
open Go.RowKit Go.Proofs.YtnlnifpehndacaaW.PrintWords Go.Proofs.YtnlnifpehndacaaW.PrintLast Go.Proofs.YtnlnifpehndacaaW.PrintMore Go.Proofs.Ytnlnifpehndacaa.Sh
attribute [local go_sem] max2_int min2_int max_two min_two max_three min_three max_four min_four
set_option linter.unusedVariables false
set_option linter.unusedSimpArgs false
open Go.Proofs.Ytnlnifpehndacaa.Mm
def impl_split.l0 : Nat → ByteArray → Int → List ByteArray → Int → Int → Option (List ByteArray)
 | 0, _, _, _, _, _ => none
 | k + 1, x0, x1, x5, x6, x7 => if x7 < (x0.size : Int) then (if 0 ≤ x7 then (if (bt x0 x7) = x1 then (if 0 ≤ x6 then (if x6 ≤ x7 then (if x7 ≤ (x0.size : Int) then (if x5.length < 8796093022208 then (impl_split.l0 k x0 x1 (x5 ++ [x0.extract (x6 : Int).toNat (x7 : Int).toNat]) (wrap64 (x7 + 1)) (wrap64 (x7 + 1))) else (none)) else (none)) else (none)) else (none)) else (impl_split.l0 k x0 x1 x5 x6 (wrap64 (x7 + 1)))) else (none)) else (if 0 ≤ x6 then (if x6 ≤ (x0.size : Int) then (if x5.length < 8796093022208 then (some (x5 ++ [x0.extract (x6 : Int).toNat x0.size])) else (none)) else (none)) else (none))
def impl_split.f (k : Nat) (a0 : ByteArray) (a1 : Int) : Option (List ByteArray) := impl_split.l0 k a0 a1 (([] : List ByteArray)) 0 0
theorem impl_split.calls (k : Nat) (a0 : ByteArray) (a1 : Int) (r : List ByteArray) (w : World)  (h : impl_split.f k a0 a1 = some r) :
  Calls Try.prog 26 #[.string a0, .int .u8 a1] w fun e w' => ∃ v0_ : Value, e = .returned (v0_) ∧ Mem w [] w' [rowR Kd.string 9 v0_ r] := by
 have HM := Mem.nil w
 have H := h
 clear h
 unfold impl_split.f at H
 go_enter Try.func26, Try.ntmps26
 have H' := Aside0.mk H
 clear H
 go_wp2_with (first | ((with_reducible refine gN 8 rfl ?_); refine pL 8 Kd.string 9 ([] : List ByteArray) [] (Reps.none _ _) HM rfl ?_; clear HM; intro v282 w3 HM))
 go_loopg [5, 6, 7] k (fun kq v5 v6 v7 w' => ∃ (x5_1 : List ByteArray) (x6_1 : Int) (x7_1 : Int), v6 = .int .i64 x6_1 ∧ v7 = .int .i64 x7_1 ∧ Aside0 (impl_split.l0 kq a0 a1 x5_1 x6_1 x7_1 = some r) ∧ Aside0 (kq ≤ k) ∧ Mem w [] w' [rowR Kd.string 9 v5 x5_1])
 case atStart => exact ⟨((([] : List ByteArray))), (0), (0), RS, RS, H', ⟨Nat.le_refl _⟩, (MD HM).pick [0]⟩
 case round =>
  clear H' HM
  obtain ⟨x5_1, x6_1, x7_1, rfl, rfl, HA, HK1, HM⟩ := hrel
  cases gk with
  | zero => exact absurd HA.out (by simp [impl_split.l0])
  | succ k1 =>
   have H := HA.out
   clear HA
   simp only [impl_split.l0] at H
   go_upto_if 12 with (fail)
   replace H := IT H; rcases H with ⟨c4, H⟩ | ⟨c4, H⟩
   ·have c4b0 := decide_eq_true c4
    clear c4
    first|rw [c4b0]|(simp only [i64_w, i32_w]; rw [c4b0])|skip
    replace H := GD H; obtain ⟨c5, H⟩ := H
    have c5b0 := decide_eq_true c5
    clear c5
    have p6 : 0 ≤ (x7_1 : Int) := of_decide_eq_true AS
    have q6 : x7_1 < (a0.size : Int) := of_decide_eq_true AS
    have hx6 := bt_at a0 x7_1
    replace p6 := eq_true p6
    replace q6 := eq_true q6
    go_upto_if 19 with (fail)
    replace H := IT H; rcases H with ⟨c7, H⟩ | ⟨c7, H⟩
    ·obtain ⟨c7b0, c7b1⟩ := BE c7
     clear c7
     first|rw [c7b0]|(simp only [i64_w, i32_w]; rw [c7b0])|skip
     replace H := GD H; obtain ⟨c8, H⟩ := H
     have c8b0 := eq_true c8
     have c8b1 : decide (0 ≤ x6_1) = true := decide_eq_true c8
     clear c8
     replace H := GD H; obtain ⟨c9, H⟩ := H
     have c9b0 := eq_true c9
     have c9b1 : decide (x6_1 ≤ x7_1) = true := decide_eq_true c9
     clear c9
     replace H := GD H; obtain ⟨c10, H⟩ := H
     have c10b0 := eq_true c10
     have c10b1 : decide (x7_1 ≤ (a0.size : Int)) = true := decide_eq_true c10
     clear c10
     replace H := GD H; obtain ⟨c11, H⟩ := H
     have LMc11 := Aside0.mk c11
     clear c11
     have H' := Aside0.mk H
     clear H
     go_wp2_with (first | ((with_reducible refine gN 25 rfl ?_); refine pL 25 Kd.string 9 [a0.extract (x6_1 : Int).toNat (x7_1 : Int).toNat] [.string (a0.extract (x6_1 : Int).toNat (x7_1 : Int).toNat)] (Reps.one (show Kd.M Kd.string _ _ _ (a0.extract (x6_1 : Int).toNat (x7_1 : Int).toNat) [.string (a0.extract (x6_1 : Int).toNat (x7_1 : Int).toNat)] from rfl) (Reps.none _ _)) HM rfl ?_; clear HM; intro v13 w12 HM; obtain ⟨Xv13, kv13, rfl⟩ := HM.rdR 1 rfl) | ((with_reducible refine gate_builtin (b := .append) (xs := #[.tmp 20, .tmp 25]) rfl ?_); refine pA 0 (.tmp 20) (.tmp 25) 33 9 Kd.string u5 x5_1 [a0.extract (x6_1 : Int).toNat (x7_1 : Int).toNat] Xv13 ([a0.extract (x6_1 : Int).toNat (x7_1 : Int).toNat].length) kv13 HM rfl Try.underlying33 info9 rfl (HM.CR 1 rfl).2.2 (by have h_ := LMc11.out; simp only [List.length_singleton]; omega) ?_; clear HM; intro v285 w14 HM))
     go_roundg k1
     case measure => have := HK1.out; omega
     case rel => exact ⟨((x5_1 ++ [a0.extract (x6_1 : Int).toNat (x7_1 : Int).toNat])), (wrap64 (x7_1 + 1)), (wrap64 (x7_1 + 1)), RS, RS, H', ⟨by have := HK1.out; omega⟩, (MD HM).pick [0]⟩
    ·obtain ⟨c7b0, c7b1⟩ := BF c7
     first|rw [c7b0]|(simp only [i64_w, i32_w]; rw [c7b0])|skip
     have H' := Aside0.mk H
     clear H
     go_wp2
     go_roundg k1
     case measure => have := HK1.out; omega
     case rel => exact ⟨(x5_1), (x6_1), (wrap64 (x7_1 + 1)), RS, RS, H', ⟨by have := HK1.out; omega⟩, (MD HM).pick [0]⟩
   ·have c4b0 := decide_eq_false c4
    clear c4
    first|rw [c4b0]|(simp only [i64_w, i32_w]; rw [c4b0])|skip
    replace H := GD H; obtain ⟨c15, H⟩ := H
    have c15b0 := eq_true c15
    have c15b1 : decide (0 ≤ x6_1) = true := decide_eq_true c15
    clear c15
    replace H := GD H; obtain ⟨c16, H⟩ := H
    have c16b0 := eq_true c16
    have c16b1 : decide (x6_1 ≤ (a0.size : Int)) = true := decide_eq_true c16
    clear c16
    replace H := GD H; obtain ⟨c17, H⟩ := H
    have LMc17 := Aside0.mk c17
    clear c17
    obtain rfl := Option.some.inj H
    go_wp2_with (first | ((with_reducible refine gN 33 rfl ?_); refine pL 33 Kd.string 9 [a0.extract (x6_1 : Int).toNat a0.size] [.string (a0.extract (x6_1 : Int).toNat a0.size)] (Reps.one (show Kd.M Kd.string _ _ _ (a0.extract (x6_1 : Int).toNat a0.size) [.string (a0.extract (x6_1 : Int).toNat a0.size)] from rfl) (Reps.none _ _)) HM rfl ?_; clear HM; intro v19 w18 HM; obtain ⟨Xv19, kv19, rfl⟩ := HM.rdR 1 rfl) | ((with_reducible refine gate_builtin (b := .append) (xs := #[.tmp 29, .tmp 33]) rfl ?_); refine pA 0 (.tmp 29) (.tmp 33) 33 9 Kd.string u5 x5_1 [a0.extract (x6_1 : Int).toNat a0.size] Xv19 ([a0.extract (x6_1 : Int).toNat a0.size].length) kv19 HM rfl Try.underlying33 info9 rfl (HM.CR 1 rfl).2.2 (by have h_ := LMc17.out; simp only [List.length_singleton]; omega) ?_; clear HM; intro v288 w20 HM))
    go_ret
    exact ⟨_, ER, (MD HM).pick [0]⟩
def impl_Cut.f (k : Nat) (a0 : ByteArray) : Option (List ByteArray) := (impl_split.f k a0 32).bind fun t290 => (some t290)
theorem impl_Cut.calls (k : Nat) (a0 : ByteArray) (r : List ByteArray) (w : World)  (h : impl_Cut.f k a0 = some r) :
  Calls Try.prog 40 #[.string a0] w fun e w' => ∃ v0_ : Value, e = .returned (v0_) ∧ Mem w [] w' [rowR Kd.string 9 v0_ r] := by
 have HM := Mem.nil w
 have H := h
 clear h
 unfold impl_Cut.f at H
 go_enter Try.func40, Try.ntmps40
 replace H := BN H; obtain ⟨t290, A2, H⟩ := H
 obtain rfl := Option.some.inj H
 go_wp2_with (first | ((with_reducible refine gC 26 rfl ?_); refine pC (some 4) rfl #[.string a0, .int .u8 32] rfl Try.func26 (impl_split.calls k a0 32 t290 _ A2.out) ?_; rintro e w3 ⟨v291, rfl, hR⟩; refine ⟨_, rfl, ?_⟩; replace HM := HM.call hR; clear hR))
 go_ret
 exact ⟨_, ER, (MD HM).pick [0]⟩
end Go.Proofs.Ytnlnifpehndacaa.G

namespace Go.Proofs.Ytnlnifpehndacaa.G
open Go.RowKit Go.Proofs.YtnlnifpehndacaaW.PrintWords Go.Proofs.YtnlnifpehndacaaW.PrintLast Go.Proofs.YtnlnifpehndacaaW.PrintMore Go.Proofs.Ytnlnifpehndacaa.Sh
attribute [local go_sem] max2_int min2_int max_two min_two max_three min_three max_four min_four
set_option linter.unusedVariables false
set_option linter.unusedSimpArgs false
def impl_within.f (a0 : Int) (a1 : Int) (a2 : Int) : Option (Bool) := if a0 ≥ a1 then (some (decide (a0 ≤ a2))) else (some false)
theorem impl_within.calls (a0 : Int) (a1 : Int) (a2 : Int) (r : Bool) (w : World) (h : impl_within.f a0 a1 a2 = some r) :
  Calls Try.prog 66 #[.int .i64 a0, .int .i64 a1, .int .i64 a2] w fun e w' => e = .returned (.bool r) ∧ Drawn0 w w' := by
 have H : (if a0 ≥ a1 then (some (decide (a0 ≤ a2))) else (some false)) = some r := h
 clear h
 by_cases c4 : a0 ≥ a1
 ·rw [if_pos c4] at H
  have c4b0 : decide (a1 ≤ a0) = true := decide_eq_true c4
  clear c4
  obtain rfl := Option.some.inj H
  go_enter Try.func66, Try.ntmps66
  go_wp2
  go_ret
  exact ⟨by first | rfl | (simp; done) | (simp [*]; done), DR⟩
 ·rw [if_neg c4] at H
  have c4b0 : decide (a1 ≤ a0) = false := decide_eq_false c4
  clear c4
  obtain rfl := Option.some.inj H
  go_enter Try.func66, Try.ntmps66
  go_wp2
  go_ret
  exact ⟨by first | rfl | (simp; done) | (simp [*]; done), DR⟩
def impl_isNum.f (a0 : Int) : Option (Bool) := (impl_within.f a0 0 4294967295).bind fun t294 => (some t294)
theorem impl_isNum.calls (a0 : Int) (r : Bool) (w : World) (h : impl_isNum.f a0 = some r) :
  Calls Try.prog 68 #[.int .i64 a0] w fun e w' => e = .returned (.bool r) ∧ Drawn0 w w' := by
 have H : ((impl_within.f a0 0 4294967295).bind fun t294 => (some t294)) = some r := h
 clear h
 replace H := BS H
 obtain ⟨t294, A20, H⟩ := H
 have A2 := Aside0.mk A20
 clear A20
 obtain rfl := Option.some.inj H
 go_enter Try.func68, Try.ntmps68
 go_wp2_with (first | ((with_reducible refine gate_callee (f := 66) rfl ?_); refine goesL_ (some 4) rfl rfl Try.func66 (by kernel_rfl) rfl #[.int .i64 a0, .int .i64 0, .int .i64 4294967295] rfl AQ ?_; (with_reducible refine (impl_within.calls a0 0 4294967295 t294 _ A2.out).mono ?_); rintro e w' ⟨rfl, ⟨nd, rfl⟩⟩; refine ⟨_, rfl, ?_⟩))
 go_ret
 exact ⟨by first | rfl | (simp; done) | (simp [*]; done), DR⟩
end Go.Proofs.Ytnlnifpehndacaa.G

namespace Go.Proofs.Ytnlnifpehndacaa.G
open Go.RowKit Go.Proofs.YtnlnifpehndacaaW.PrintWords Go.Proofs.YtnlnifpehndacaaW.PrintLast Go.Proofs.YtnlnifpehndacaaW.PrintMore Go.Proofs.Ytnlnifpehndacaa.Sh
attribute [local go_sem] max2_int min2_int max_two min_two max_three min_three max_four min_four
set_option linter.unusedVariables false
set_option linter.unusedSimpArgs false
open Go.Proofs.Ytnlnifpehndacaa.Mm
def impl_NumText.l0 : Nat → Int → ByteArray → Option (ByteArray)
 | 0, _, _ => none
 | k + 1, x0, x3 => if x0 > 9 then ((some (([(wrap64 (48 + (Int.tmod x0 10))) % 256] : List Int) : List Int)).bind fun y296 => (if (strOfNums y296).size + x3.size ≤ 9223372036854775807 then (impl_NumText.l0 k (wrap64 (Int.tdiv x0 10)) ((strOfNums y296) ++ x3)) else (none))) else ((some (([(wrap64 (48 + x0)) % 256] : List Int) : List Int)).bind fun y299 => (if (strOfNums y299).size + x3.size ≤ 9223372036854775807 then (some ((strOfNums y299) ++ x3)) else (none)))
def impl_NumText.f (k : Nat) (a0 : Int) : Option (ByteArray) := (impl_isNum.f a0).bind fun t295 => (if t295 = true then (impl_NumText.l0 k a0 (⟨#[]⟩ : ByteArray)) else (some (⟨#[]⟩ : ByteArray)))
theorem impl_NumText.calls (k : Nat) (a0 : Int) (r : ByteArray) (w : World)  (h : impl_NumText.f k a0 = some r) :
  Calls Try.prog 79 #[.int .i64 a0] w fun e w' => e = .returned (.string r) ∧ Mem w [] w' [] := by
 have HM := Mem.nil w
 have H := h
 clear h
 unfold impl_NumText.f at H
 go_enter Try.func79, Try.ntmps79
 replace H := BN H; obtain ⟨t295, A2, H⟩ := H
 go_upto_if 6 with (first | ((with_reducible refine gC 68 rfl ?_); refine pC (some 5) rfl #[.int .i64 a0] rfl Try.func68 (impl_isNum.calls a0 t295 _ A2.out) ?_; rintro e w3 ⟨rfl, hd⟩; refine ⟨_, rfl, ?_⟩; replace HM := HM.drawn hd; clear hd))
 replace H := IB H
 rcases H with ⟨c4, H⟩ | ⟨c4, H⟩
 ·subst c4
  have H' := Aside0.mk H
  clear H
  go_wp2
  go_loopg [0, 3] k (fun kq v0 v3 w' => ∃ (x0_1 : Int) (x3_1 : ByteArray), v0 = .int .i64 x0_1 ∧ v3 = .string x3_1 ∧ Aside0 (impl_NumText.l0 kq x0_1 x3_1 = some r) ∧ Aside0 (kq ≤ k) ∧ Mem w [] w' [])
  case atStart => exact ⟨(a0), ((⟨#[]⟩ : ByteArray)), RS, RS, H', ⟨Nat.le_refl _⟩, (MD HM).pick []⟩
  case round =>
   clear H' HM
   obtain ⟨x0_1, x3_1, rfl, rfl, HA, HK1, HM⟩ := hrel
   cases gk with
   | zero => exact absurd HA.out (by simp [impl_NumText.l0])
   | succ k1 =>
    have H := HA.out
    clear HA
    simp only [impl_NumText.l0] at H
    go_upto_if 8 with (fail)
    replace H := IT H; rcases H with ⟨c5, H⟩ | ⟨c5, H⟩
    ·have c5b0 : decide (9 < x0_1) = true := decide_eq_true c5
     clear c5
     first|rw [c5b0]|(simp only [i64_w, i32_w]; rw [c5b0])|skip
     replace H := BLt H; obtain ⟨y296, Ny296, H⟩ := H
     replace Ny296 := Aside0.mk Ny296
     replace H := GD H; obtain ⟨c8, H⟩ := H
     have c8b0 := eq_true c8
     have c8b1 : decide ((strOfNums y296).size + x3_1.size ≤ 9223372036854775807) = true := decide_eq_true c8
     try have c8b2 : (9223372036854775807 < (strOfNums y296).size + x3_1.size) = False := eq_false (Nat.not_lt.2 c8)
     have H' := Aside0.mk H
     clear H
     go_wp2_with (first | ((with_reducible refine gN 13 rfl ?_); refine pL 13 (Kd.int .u8) 5 ([(wrap64 (48 + (Int.tmod x0_1 10))) % 256] : List Int) [.int .u8 ((wrap64 (48 + (Int.tmod x0_1 10))) % 256)] (Reps.one (show Kd.M (Kd.int .u8) _ _ _ ((wrap64 (48 + (Int.tmod x0_1 10))) % 256) [.int .u8 ((wrap64 (48 + (Int.tmod x0_1 10))) % 256)] from rfl) (Reps.none _ _)) HM rfl ?_; clear HM; intro v297 w6 HM; replace HM := HM.nm 0 rfl Ny296.out; have hcv7 := HM.str 0 rfl Try.underlying105 Try.underlying5 Try.underlying9))
     go_roundg k1
     case measure => have := HK1.out; omega
     case rel => exact ⟨(wrap64 (Int.tdiv x0_1 10)), ((strOfNums y296) ++ x3_1), RS, RS, H', ⟨by have := HK1.out; omega⟩, (MD HM).pick []⟩
    ·have c5b0 : decide (9 < x0_1) = false := decide_eq_false c5
     clear c5
     first|rw [c5b0]|(simp only [i64_w, i32_w]; rw [c5b0])|skip
     replace H := BLt H; obtain ⟨y299, Ny299, H⟩ := H
     replace Ny299 := Aside0.mk Ny299
     replace H := GD H; obtain ⟨c11, H⟩ := H
     have c11b0 := eq_true c11
     have c11b1 : decide ((strOfNums y299).size + x3_1.size ≤ 9223372036854775807) = true := decide_eq_true c11
     try have c11b2 : (9223372036854775807 < (strOfNums y299).size + x3_1.size) = False := eq_false (Nat.not_lt.2 c11)
     obtain rfl := Option.some.inj H
     go_wp2_with (first | ((with_reducible refine gN 22 rfl ?_); refine pL 22 (Kd.int .u8) 5 ([(wrap64 (48 + x0_1)) % 256] : List Int) [.int .u8 ((wrap64 (48 + x0_1)) % 256)] (Reps.one (show Kd.M (Kd.int .u8) _ _ _ ((wrap64 (48 + x0_1)) % 256) [.int .u8 ((wrap64 (48 + x0_1)) % 256)] from rfl) (Reps.none _ _)) HM rfl ?_; clear HM; intro v300 w9 HM; replace HM := HM.nm 0 rfl Ny299.out; have hcv10 := HM.str 0 rfl Try.underlying105 Try.underlying5 Try.underlying9))
     go_ret
     exact ⟨ER, (MD HM).pick []⟩
 ·subst c4
  obtain rfl := Option.some.inj H
  go_wp2
  go_ret
  exact ⟨ER, (MD HM).pick []⟩
def impl_TextNum.l0 : Nat → ByteArray → Int → Int → Option (Int × Bool)
 | 0, _, _, _ => none
 | k + 1, x0, x4, x5 => if x5 < (x0.size : Int) then (if 0 ≤ x5 then (if (bt x0 x5) < 48 then (some (0, false)) else (if (bt x0 x5) > 57 then (some (0, false)) else (impl_TextNum.l0 k x0 (wrap64 ((wrap64 (10 * x4)) + (((bt x0 x5) - 48) % 256))) (wrap64 (x5 + 1))))) else (none)) else ((impl_NumText.f k x4).bind fun t303 => (if t303.toList = x0.toList then (some (x4, true)) else (some (0, false))))
def impl_TextNum.f (k : Nat) (a0 : ByteArray) : Option (Int × Bool) := (impl_within.f (a0.size : Int) 1 10).bind fun t302 => (if t302 = true then (impl_TextNum.l0 k a0 0 0) else (some (0, false)))
theorem impl_TextNum.calls (k : Nat) (a0 : ByteArray) (r1 : Int) (r2 : Bool) (w : World)  (h : impl_TextNum.f k a0 = some (r1, r2)) :
  Calls Try.prog 41 #[.string a0] w fun e w' => e = .returned (.tuple #[.int .i64 r1, .bool r2]) ∧ Mem w [] w' [] := by
 have HM := Mem.nil w
 have H := h
 clear h
 unfold impl_TextNum.f at H
 go_enter Try.func41, Try.ntmps41
 replace H := BN H; obtain ⟨t302, A2, H⟩ := H
 go_upto_if 9 with (first | ((with_reducible refine gC 66 rfl ?_); refine pC (some 8) rfl #[.int .i64 (a0.size : Int), .int .i64 1, .int .i64 10] rfl Try.func66 (impl_within.calls (a0.size : Int) 1 10 t302 _ A2.out) ?_; rintro e w3 ⟨rfl, hd⟩; refine ⟨_, rfl, ?_⟩; replace HM := HM.drawn hd; clear hd))
 replace H := IB H
 rcases H with ⟨c4, H⟩ | ⟨c4, H⟩
 ·subst c4
  have H' := Aside0.mk H
  clear H
  go_wp2
  go_loopg [4, 5] k (fun kq v4 v5 w' => ∃ (x4_1 : Int) (x5_1 : Int), v4 = .int .i64 x4_1 ∧ v5 = .int .i64 x5_1 ∧ Aside0 (impl_TextNum.l0 kq a0 x4_1 x5_1 = some (r1, r2)) ∧ Aside0 (kq ≤ k) ∧ Mem w [] w' [])
  case atStart => exact ⟨(0), (0), RS, RS, H', ⟨Nat.le_refl _⟩, (MD HM).pick []⟩
  case round =>
   clear H' HM
   obtain ⟨x4_1, x5_1, rfl, rfl, HA, HK1, HM⟩ := hrel
   cases gk with
   | zero => exact absurd HA.out (by simp [impl_TextNum.l0])
   | succ k1 =>
    have H := HA.out
    clear HA
    simp only [impl_TextNum.l0] at H
    go_upto_if 13 with (fail)
    replace H := IT H; rcases H with ⟨c5, H⟩ | ⟨c5, H⟩
    ·have c5b0 := decide_eq_true c5
     clear c5
     first|rw [c5b0]|(simp only [i64_w, i32_w]; rw [c5b0])|skip
     replace H := GD H; obtain ⟨c6, H⟩ := H
     have c6b0 := decide_eq_true c6
     clear c6
     replace H := IT H; rcases H with ⟨c8, H⟩ | ⟨c8, H⟩
     ·have c8b0 := decide_eq_true c8
      clear c8
      simp only [Option.some.injEq, Prod.mk.injEq] at H
      obtain ⟨rfl, rfl⟩ := H
      have p7 : 0 ≤ (x5_1 : Int) := of_decide_eq_true AS
      have q7 : x5_1 < (a0.size : Int) := of_decide_eq_true AS
      have hx7 := bt_at a0 x5_1
      replace p7 := eq_true p7
      replace q7 := eq_true q7
      go_wp2
      go_ret2
      exact ⟨ER, (MD HM).pick []⟩
     ·have c8b0 := decide_eq_false c8
      clear c8
      have p7 : 0 ≤ (x5_1 : Int) := of_decide_eq_true AS
      have q7 : x5_1 < (a0.size : Int) := of_decide_eq_true AS
      have hx7 := bt_at a0 x5_1
      replace p7 := eq_true p7
      replace q7 := eq_true q7
      have p9 : 0 ≤ (x5_1 : Int) := of_decide_eq_true AS
      have q9 : x5_1 < (a0.size : Int) := of_decide_eq_true AS
      have hx9 := bt_at a0 x5_1
      replace p9 := eq_true p9
      replace q9 := eq_true q9
      go_upto_if 25 with (fail)
      replace H := IT H; rcases H with ⟨c10, H⟩ | ⟨c10, H⟩
      ·have c10b0 : decide (57 < (bt a0 x5_1)) = true := decide_eq_true c10
       clear c10
       first|rw [c10b0]|(simp only [i64_w, i32_w]; rw [c10b0])|skip
       simp only [Option.some.injEq, Prod.mk.injEq] at H
       obtain ⟨rfl, rfl⟩ := H
       go_wp2
       go_ret2
       exact ⟨ER, (MD HM).pick []⟩
      ·have c10b0 : decide (57 < (bt a0 x5_1)) = false := decide_eq_false c10
       clear c10
       first|rw [c10b0]|(simp only [i64_w, i32_w]; rw [c10b0])|skip
       have H' := Aside0.mk H
       clear H
       have p11 : 0 ≤ (x5_1 : Int) := of_decide_eq_true AS
       have q11 : x5_1 < (a0.size : Int) := of_decide_eq_true AS
       have hx11 := bt_at a0 x5_1
       replace p11 := eq_true p11
       replace q11 := eq_true q11
       go_wp2
       go_roundg k1
       case measure => have := HK1.out; omega
       case rel => exact ⟨(wrap64 ((wrap64 (10 * x4_1)) + (((bt a0 x5_1) - 48) % 256))), (wrap64 (x5_1 + 1)), RS, RS, H', ⟨by have := HK1.out; omega⟩, (MD HM).pick []⟩
    ·have c5b0 := decide_eq_false c5
     clear c5
     first|rw [c5b0]|(simp only [i64_w, i32_w]; rw [c5b0])|skip
     replace H := BN H; obtain ⟨t303, A12, H⟩ := H
     go_upto_if 37 with (first | ((with_reducible refine gC 79 rfl ?_); refine pC (some 35) rfl #[.int .i64 x4_1] rfl Try.func79 (impl_NumText.calls k1 x4_1 t303 _ A12.out) ?_; rintro e w13 ⟨rfl, hR⟩; refine ⟨_, rfl, ?_⟩; replace HM := HM.call hR; clear hR))
     replace H := IT H; rcases H with ⟨c14, H⟩ | ⟨c14, H⟩
     ·obtain ⟨c14b0, c14b1⟩ := BE c14
      clear c14
      first|rw [c14b0]|(simp only [i64_w, i32_w]; rw [c14b0])|skip
      simp only [Option.some.injEq, Prod.mk.injEq] at H
      obtain ⟨rfl, rfl⟩ := H
      go_wp2
      go_ret2
      exact ⟨ER, (MD HM).pick []⟩
     ·obtain ⟨c14b0, c14b1⟩ := BF c14
      first|rw [c14b0]|(simp only [i64_w, i32_w]; rw [c14b0])|skip
      simp only [Option.some.injEq, Prod.mk.injEq] at H
      obtain ⟨rfl, rfl⟩ := H
      go_wp2
      go_ret2
      exact ⟨ER, (MD HM).pick []⟩
 ·subst c4
  simp only [Option.some.injEq, Prod.mk.injEq] at H
  obtain ⟨rfl, rfl⟩ := H
  go_wp2
  go_ret2
  exact ⟨ER, (MD HM).pick []⟩
end Go.Proofs.Ytnlnifpehndacaa.G

namespace Go.Proofs.Ytnlnifpehndacaa.G
open Go.RowKit Go.Proofs.YtnlnifpehndacaaW.PrintWords Go.Proofs.YtnlnifpehndacaaW.PrintLast Go.Proofs.YtnlnifpehndacaaW.PrintMore Go.Proofs.Ytnlnifpehndacaa.Sh
attribute [local go_sem] max2_int min2_int max_two min_two max_three min_three max_four min_four
set_option linter.unusedVariables false
set_option linter.unusedSimpArgs false
def impl_isPlain.l0 : Nat → ByteArray → Int → Option (Bool)
 | 0, _, _ => none
 | k + 1, x0, x3 => if x3 < (x0.size : Int) then (if 0 ≤ x3 then (if (bt x0 x3) = 32 then (some false) else (if (bt x0 x3) = 10 then (some false) else (impl_isPlain.l0 k x0 (wrap64 (x3 + 1))))) else (none)) else (some true)
def impl_isPlain.f (k : Nat) (a0 : ByteArray) : Option (Bool) := impl_isPlain.l0 k a0 0
theorem impl_isPlain.calls (k : Nat) (a0 : ByteArray) (r : Bool) (w : World) (h : impl_isPlain.f k a0 = some r) :
  Calls Try.prog 100 #[.string a0] w fun e w' => e = .returned (.bool r) ∧ Drawn0 w w' := by
 have H : (impl_isPlain.l0 k a0 0) = some r := h
 clear h
 have H' := Aside0.mk H
 clear H
 go_enter Try.func100, Try.ntmps100
 go_wp2
 go_loopg [3] k (fun kq v3 w' => ∃ (x3_1 : Int), v3 = .int .i64 x3_1 ∧ Aside0 (impl_isPlain.l0 kq a0 x3_1 = some r) ∧ Aside0 (kq ≤ k) ∧ Drawn0 w w')
 case atStart => exact ⟨(0), RS, H', ⟨Nat.le_refl _⟩, DR⟩
 case round =>
  clear H'
  try clear c1
  obtain ⟨x3_1, rfl, HA, HK1, ⟨m1, rfl⟩⟩ := hrel
  cases gk with
  | zero => exact absurd HA.out (by simp [impl_isPlain.l0])
  | succ k1 =>
   have H := HA.out
   clear HA
   simp only [impl_isPlain.l0] at H
   by_cases c2 : x3_1 < (a0.size : Int)
   ·rw [if_pos c2] at H
    have c2b0 : decide (x3_1 < (a0.size : Int)) = true := decide_eq_true c2
    clear c2
    by_cases c3 : 0 ≤ x3_1
    ·rw [if_pos c3] at H
     have c3b0 : decide (0 ≤ x3_1) = true := decide_eq_true c3
     clear c3
     by_cases c5 : (bt a0 x3_1) = 32
     ·rw [if_pos c5] at H
      have c5b0 : ((bt a0 x3_1) == 32) = true := beq_iff_eq.mpr c5
      have c5b1 : ((bt a0 x3_1) != 32) = false := bne_eq_false_iff_eq.mpr c5
      clear c5
      obtain rfl := Option.some.inj H
      have p4 : 0 ≤ (x3_1 : Int) := of_decide_eq_true AS
      have q4 : x3_1 < (a0.size : Int) := of_decide_eq_true AS
      have hx4 := bt_at a0 x3_1
      replace p4 := eq_true p4
      replace q4 := eq_true q4
      go_wp2
      go_ret
      exact ⟨by first | rfl | (simp; done) | (simp [*]; done), DR⟩
     ·rw [if_neg c5] at H
      have c5b0 : ((bt a0 x3_1) == 32) = false := beq_eq_false_iff_ne.mpr c5
      have c5b1 : ((bt a0 x3_1) != 32) = true := bne_iff_ne.mpr c5
      by_cases c7 : (bt a0 x3_1) = 10
      ·rw [if_pos c7] at H
       have c7b0 : ((bt a0 x3_1) == 10) = true := beq_iff_eq.mpr c7
       have c7b1 : ((bt a0 x3_1) != 10) = false := bne_eq_false_iff_eq.mpr c7
       clear c7
       obtain rfl := Option.some.inj H
       have p4 : 0 ≤ (x3_1 : Int) := of_decide_eq_true AS
       have q4 : x3_1 < (a0.size : Int) := of_decide_eq_true AS
       have hx4 := bt_at a0 x3_1
       replace p4 := eq_true p4
       replace q4 := eq_true q4
       have p6 : 0 ≤ (x3_1 : Int) := of_decide_eq_true AS
       have q6 : x3_1 < (a0.size : Int) := of_decide_eq_true AS
       have hx6 := bt_at a0 x3_1
       replace p6 := eq_true p6
       replace q6 := eq_true q6
       go_wp2
       go_ret
       exact ⟨by first | rfl | (simp; done) | (simp [*]; done), DR⟩
      ·rw [if_neg c7] at H
       have c7b0 : ((bt a0 x3_1) == 10) = false := beq_eq_false_iff_ne.mpr c7
       have c7b1 : ((bt a0 x3_1) != 10) = true := bne_iff_ne.mpr c7
       have H' := Aside0.mk H
       clear H
       have p4 : 0 ≤ (x3_1 : Int) := of_decide_eq_true AS
       have q4 : x3_1 < (a0.size : Int) := of_decide_eq_true AS
       have hx4 := bt_at a0 x3_1
       replace p4 := eq_true p4
       replace q4 := eq_true q4
       have p6 : 0 ≤ (x3_1 : Int) := of_decide_eq_true AS
       have q6 : x3_1 < (a0.size : Int) := of_decide_eq_true AS
       have hx6 := bt_at a0 x3_1
       replace p6 := eq_true p6
       replace q6 := eq_true q6
       go_wp2
       go_roundg k1
       case measure => have := HK1.out; omega
       case rel => exact ⟨(wrap64 (x3_1 + 1)), RS, H', ⟨by have := HK1.out; omega⟩, DR⟩
    ·rw [if_neg c3] at H
     exact absurd H (by simp)
   ·rw [if_neg c2] at H
    have c2b0 : decide (x3_1 < (a0.size : Int)) = false := decide_eq_false c2
    clear c2
    obtain rfl := Option.some.inj H
    go_wp2
    go_ret
    exact ⟨by first | rfl | (simp; done) | (simp [*]; done), DR⟩
end Go.Proofs.Ytnlnifpehndacaa.G

namespace Go.Proofs.Ytnlnifpehndacaa.G
open Go.RowKit Go.Proofs.YtnlnifpehndacaaW.PrintWords Go.Proofs.YtnlnifpehndacaaW.PrintLast Go.Proofs.YtnlnifpehndacaaW.PrintMore Go.Proofs.Ytnlnifpehndacaa.Sh
attribute [local go_sem] max2_int min2_int max_two min_two max_three min_three max_four min_four
set_option linter.unusedVariables false
set_option linter.unusedSimpArgs false
open Go.Proofs.Ytnlnifpehndacaa.Mm
def impl_ItemOk.f (k : Nat) (a0_0 : ByteArray) (a0_1 : ByteArray) (a0_2 : Int) : Option (Bool) := (impl_within.f (a0_0.size : Int) 1 20).bind fun t327 => (if t327 = true then (if (a0_1.size : Int) ≤ 40 then ((impl_isPlain.f k a0_0).bind fun t328 => (if t328 = true then ((impl_isPlain.f k a0_1).bind fun t329 => (if t329 = true then ((impl_within.f a0_2 0 3).bind fun t330 => (some t330)) else (some false))) else (some false))) else (some false)) else (some false))
theorem impl_ItemOk.calls (k : Nat) (a0_0 : ByteArray) (a0_1 : ByteArray) (a0_2 : Int) (r : Bool) (w : World)  (h : impl_ItemOk.f k a0_0 a0_1 a0_2 = some r) :
  Calls Try.prog 93 #[.agg #[.string a0_0, .string a0_1, .int .i64 a0_2]] w fun e w' => e = .returned (.bool r) ∧ Mem w [] w' [] := by
 have hu76 := Try.underlying76
 have HM := Mem.nil w
 have H := h
 clear h
 unfold impl_ItemOk.f at H
 go_enter Try.func93, Try.ntmps93
 replace H := BN H; obtain ⟨t327, A4, H⟩ := H
 replace H := IB H
 rcases H with ⟨c6, H⟩ | ⟨c6, H⟩
 ·subst c6
  replace H := IT H; rcases H with ⟨c8, H⟩ | ⟨c8, H⟩
  ·replace c8 : (a0_1.size : Int) ≤ 40 := c8
   have c8b0 := decide_eq_true c8
   have c8b1 : decide (a0_1.size ≤ 40) = true := decide_eq_true (by omega)
   clear c8
   replace H := BN H; obtain ⟨t328, A9, H⟩ := H
   replace H := IB H
   rcases H with ⟨c11, H⟩ | ⟨c11, H⟩
   ·subst c11
    replace H := BN H; obtain ⟨t329, A13, H⟩ := H
    replace H := IB H
    rcases H with ⟨c15, H⟩ | ⟨c15, H⟩
    ·subst c15
     replace H := BN H; obtain ⟨t330, A17, H⟩ := H
     obtain rfl := Option.some.inj H
     go_wp2_with (first | ((with_reducible refine gN 1 rfl ?_); refine pB 1 76 [.string a0_0, .string a0_1, .int .i64 a0_2] HM rfl ?_; clear HM; intro gb326 w2 HM; obtain ⟨_,_,_,_,_,_⟩ := bk3 (HM.bx 0 rfl)) | ((with_reducible refine gC 66 rfl ?_); refine pC (some 6) rfl #[.int .i64 (a0_0.size : Int), .int .i64 1, .int .i64 20] rfl Try.func66 (impl_within.calls (a0_0.size : Int) 1 20 true _ A4.out) ?_; rintro e w5 ⟨rfl, hd⟩; refine ⟨_, rfl, ?_⟩; replace HM := HM.drawn hd; clear hd; obtain ⟨_,_,_,_,_,_⟩ := bk3 (HM.bx 0 rfl)) | ((with_reducible refine gC 100 rfl ?_); refine pC (some 16) rfl #[.string a0_0] rfl Try.func100 (impl_isPlain.calls k a0_0 true _ A9.out) ?_; rintro e w10 ⟨rfl, hd⟩; refine ⟨_, rfl, ?_⟩; replace HM := HM.drawn hd; clear hd; obtain ⟨_,_,_,_,_,_⟩ := bk3 (HM.bx 0 rfl)) | ((with_reducible refine gC 100 rfl ?_); refine pC (some 21) rfl #[.string a0_1] rfl Try.func100 (impl_isPlain.calls k a0_1 true _ A13.out) ?_; rintro e w14 ⟨rfl, hd⟩; refine ⟨_, rfl, ?_⟩; replace HM := HM.drawn hd; clear hd; obtain ⟨_,_,_,_,_,_⟩ := bk3 (HM.bx 0 rfl)) | ((with_reducible refine gC 66 rfl ?_); refine pC (some 26) rfl #[.int .i64 a0_2, .int .i64 0, .int .i64 3] rfl Try.func66 (impl_within.calls a0_2 0 3 t330 _ A17.out) ?_; rintro e w18 ⟨rfl, hd⟩; refine ⟨_, rfl, ?_⟩; replace HM := HM.drawn hd; clear hd))
     go_ret
     exact ⟨ER, (MD HM).pick []⟩
    ·subst c15
     obtain rfl := Option.some.inj H
     go_wp2_with (first | ((with_reducible refine gN 1 rfl ?_); refine pB 1 76 [.string a0_0, .string a0_1, .int .i64 a0_2] HM rfl ?_; clear HM; intro gb326 w2 HM; obtain ⟨_,_,_,_,_,_⟩ := bk3 (HM.bx 0 rfl)) | ((with_reducible refine gC 66 rfl ?_); refine pC (some 6) rfl #[.int .i64 (a0_0.size : Int), .int .i64 1, .int .i64 20] rfl Try.func66 (impl_within.calls (a0_0.size : Int) 1 20 true _ A4.out) ?_; rintro e w5 ⟨rfl, hd⟩; refine ⟨_, rfl, ?_⟩; replace HM := HM.drawn hd; clear hd; obtain ⟨_,_,_,_,_,_⟩ := bk3 (HM.bx 0 rfl)) | ((with_reducible refine gC 100 rfl ?_); refine pC (some 16) rfl #[.string a0_0] rfl Try.func100 (impl_isPlain.calls k a0_0 true _ A9.out) ?_; rintro e w10 ⟨rfl, hd⟩; refine ⟨_, rfl, ?_⟩; replace HM := HM.drawn hd; clear hd; obtain ⟨_,_,_,_,_,_⟩ := bk3 (HM.bx 0 rfl)) | ((with_reducible refine gC 100 rfl ?_); refine pC (some 21) rfl #[.string a0_1] rfl Try.func100 (impl_isPlain.calls k a0_1 false _ A13.out) ?_; rintro e w14 ⟨rfl, hd⟩; refine ⟨_, rfl, ?_⟩; replace HM := HM.drawn hd; clear hd))
     go_ret
     exact ⟨ER, (MD HM).pick []⟩
   ·subst c11
    obtain rfl := Option.some.inj H
    go_wp2_with (first | ((with_reducible refine gN 1 rfl ?_); refine pB 1 76 [.string a0_0, .string a0_1, .int .i64 a0_2] HM rfl ?_; clear HM; intro gb326 w2 HM; obtain ⟨_,_,_,_,_,_⟩ := bk3 (HM.bx 0 rfl)) | ((with_reducible refine gC 66 rfl ?_); refine pC (some 6) rfl #[.int .i64 (a0_0.size : Int), .int .i64 1, .int .i64 20] rfl Try.func66 (impl_within.calls (a0_0.size : Int) 1 20 true _ A4.out) ?_; rintro e w5 ⟨rfl, hd⟩; refine ⟨_, rfl, ?_⟩; replace HM := HM.drawn hd; clear hd; obtain ⟨_,_,_,_,_,_⟩ := bk3 (HM.bx 0 rfl)) | ((with_reducible refine gC 100 rfl ?_); refine pC (some 16) rfl #[.string a0_0] rfl Try.func100 (impl_isPlain.calls k a0_0 false _ A9.out) ?_; rintro e w10 ⟨rfl, hd⟩; refine ⟨_, rfl, ?_⟩; replace HM := HM.drawn hd; clear hd))
    go_ret
    exact ⟨ER, (MD HM).pick []⟩
  ·replace c8 : ¬ ((a0_1.size : Int) ≤ 40) := c8
   have c8b0 := decide_eq_false c8
   have c8b1 : decide (a0_1.size ≤ 40) = false := decide_eq_false (by omega)
   clear c8
   obtain rfl := Option.some.inj H
   go_wp2_with (first | ((with_reducible refine gN 1 rfl ?_); refine pB 1 76 [.string a0_0, .string a0_1, .int .i64 a0_2] HM rfl ?_; clear HM; intro gb326 w2 HM; obtain ⟨_,_,_,_,_,_⟩ := bk3 (HM.bx 0 rfl)) | ((with_reducible refine gC 66 rfl ?_); refine pC (some 6) rfl #[.int .i64 (a0_0.size : Int), .int .i64 1, .int .i64 20] rfl Try.func66 (impl_within.calls (a0_0.size : Int) 1 20 true _ A4.out) ?_; rintro e w5 ⟨rfl, hd⟩; refine ⟨_, rfl, ?_⟩; replace HM := HM.drawn hd; clear hd; obtain ⟨_,_,_,_,_,_⟩ := bk3 (HM.bx 0 rfl)))
   go_ret
   exact ⟨ER, (MD HM).pick []⟩
 ·subst c6
  obtain rfl := Option.some.inj H
  go_wp2_with (first | ((with_reducible refine gN 1 rfl ?_); refine pB 1 76 [.string a0_0, .string a0_1, .int .i64 a0_2] HM rfl ?_; clear HM; intro gb326 w2 HM; obtain ⟨_,_,_,_,_,_⟩ := bk3 (HM.bx 0 rfl)) | ((with_reducible refine gC 66 rfl ?_); refine pC (some 6) rfl #[.int .i64 (a0_0.size : Int), .int .i64 1, .int .i64 20] rfl Try.func66 (impl_within.calls (a0_0.size : Int) 1 20 false _ A4.out) ?_; rintro e w5 ⟨rfl, hd⟩; refine ⟨_, rfl, ?_⟩; replace HM := HM.drawn hd; clear hd))
  go_ret
  exact ⟨ER, (MD HM).pick []⟩
def impl_OpOk.f (k : Nat) (a0_0 : Int) (a0_1 : ByteArray) (a0_2 : ByteArray) : Option (Bool) := (impl_within.f a0_0 1 3).bind fun t598 => (if t598 = true then ((impl_ItemOk.f k a0_1 a0_2 0).bind fun t599 => (if t599 = true then (if a0_0 = 2 then (some true) else (some (a0_2.toList == ([] : List UInt8)))) else (some false))) else (some false))
theorem impl_OpOk.calls (k : Nat) (a0_0 : Int) (a0_1 : ByteArray) (a0_2 : ByteArray) (r : Bool) (w : World)  (h : impl_OpOk.f k a0_0 a0_1 a0_2 = some r) :
  Calls Try.prog 80 #[.agg #[.int .i64 a0_0, .string a0_1, .string a0_2]] w fun e w' => e = .returned (.bool r) ∧ Mem w [] w' [] := by
 have hu32 := Try.underlying32
 have hu76 := Try.underlying76
 have HM := Mem.nil w
 have H := h
 clear h
 unfold impl_OpOk.f at H
 go_enter Try.func80, Try.ntmps80
 replace H := BN H; obtain ⟨t598, A4, H⟩ := H
 replace H := IB H
 rcases H with ⟨c6, H⟩ | ⟨c6, H⟩
 ·subst c6
  replace H := BN H; obtain ⟨t599, A8, H⟩ := H
  replace H := IB H
  rcases H with ⟨c10, H⟩ | ⟨c10, H⟩
  ·subst c10
   replace H := IT H; rcases H with ⟨c12, H⟩ | ⟨c12, H⟩
   ·obtain ⟨c12b0, c12b1⟩ := BE c12
    clear c12
    obtain rfl := Option.some.inj H
    go_wp2_with (first | ((with_reducible refine gN 1 rfl ?_); refine pB 1 32 [.int .i64 a0_0, .string a0_1, .string a0_2] HM rfl ?_; clear HM; intro gb597 w2 HM; obtain ⟨_,_,_,_,_,_⟩ := bk3 (HM.bx 0 rfl)) | ((with_reducible refine gC 66 rfl ?_); refine pC (some 5) rfl #[.int .i64 a0_0, .int .i64 1, .int .i64 3] rfl Try.func66 (impl_within.calls a0_0 1 3 true _ A4.out) ?_; rintro e w5 ⟨rfl, hd⟩; refine ⟨_, rfl, ?_⟩; replace HM := HM.drawn hd; clear hd; obtain ⟨_,_,_,_,_,_⟩ := bk3 (HM.bx 0 rfl)) | ((with_reducible refine gC 93 rfl ?_); refine pC (some 12) rfl #[.agg #[.string a0_1, .string a0_2, .int .i64 0]] rfl Try.func93 (impl_ItemOk.calls k a0_1 a0_2 0 true _ A8.out) ?_; rintro e w9 ⟨rfl, hR⟩; refine ⟨_, rfl, ?_⟩; replace HM := HM.call hR; clear hR; obtain ⟨_,_,_,_,_,_⟩ := bk3 (HM.bx 0 rfl)))
    go_ret
    exact ⟨ER, (MD HM).pick []⟩
   ·obtain ⟨c12b0, c12b1⟩ := BF c12
    obtain rfl := Option.some.inj H
    go_wp2_with (first | ((with_reducible refine gN 1 rfl ?_); refine pB 1 32 [.int .i64 a0_0, .string a0_1, .string a0_2] HM rfl ?_; clear HM; intro gb597 w2 HM; obtain ⟨_,_,_,_,_,_⟩ := bk3 (HM.bx 0 rfl)) | ((with_reducible refine gC 66 rfl ?_); refine pC (some 5) rfl #[.int .i64 a0_0, .int .i64 1, .int .i64 3] rfl Try.func66 (impl_within.calls a0_0 1 3 true _ A4.out) ?_; rintro e w5 ⟨rfl, hd⟩; refine ⟨_, rfl, ?_⟩; replace HM := HM.drawn hd; clear hd; obtain ⟨_,_,_,_,_,_⟩ := bk3 (HM.bx 0 rfl)) | ((with_reducible refine gC 93 rfl ?_); refine pC (some 12) rfl #[.agg #[.string a0_1, .string a0_2, .int .i64 0]] rfl Try.func93 (impl_ItemOk.calls k a0_1 a0_2 0 true _ A8.out) ?_; rintro e w9 ⟨rfl, hR⟩; refine ⟨_, rfl, ?_⟩; replace HM := HM.call hR; clear hR; obtain ⟨_,_,_,_,_,_⟩ := bk3 (HM.bx 0 rfl)))
    go_ret
    exact ⟨ER, (MD HM).pick []⟩
  ·subst c10
   obtain rfl := Option.some.inj H
   go_wp2_with (first | ((with_reducible refine gN 1 rfl ?_); refine pB 1 32 [.int .i64 a0_0, .string a0_1, .string a0_2] HM rfl ?_; clear HM; intro gb597 w2 HM; obtain ⟨_,_,_,_,_,_⟩ := bk3 (HM.bx 0 rfl)) | ((with_reducible refine gC 66 rfl ?_); refine pC (some 5) rfl #[.int .i64 a0_0, .int .i64 1, .int .i64 3] rfl Try.func66 (impl_within.calls a0_0 1 3 true _ A4.out) ?_; rintro e w5 ⟨rfl, hd⟩; refine ⟨_, rfl, ?_⟩; replace HM := HM.drawn hd; clear hd; obtain ⟨_,_,_,_,_,_⟩ := bk3 (HM.bx 0 rfl)) | ((with_reducible refine gC 93 rfl ?_); refine pC (some 12) rfl #[.agg #[.string a0_1, .string a0_2, .int .i64 0]] rfl Try.func93 (impl_ItemOk.calls k a0_1 a0_2 0 false _ A8.out) ?_; rintro e w9 ⟨rfl, hR⟩; refine ⟨_, rfl, ?_⟩; replace HM := HM.call hR; clear hR))
   go_ret
   exact ⟨ER, (MD HM).pick []⟩
 ·subst c6
  obtain rfl := Option.some.inj H
  go_wp2_with (first | ((with_reducible refine gN 1 rfl ?_); refine pB 1 32 [.int .i64 a0_0, .string a0_1, .string a0_2] HM rfl ?_; clear HM; intro gb597 w2 HM; obtain ⟨_,_,_,_,_,_⟩ := bk3 (HM.bx 0 rfl)) | ((with_reducible refine gC 66 rfl ?_); refine pC (some 5) rfl #[.int .i64 a0_0, .int .i64 1, .int .i64 3] rfl Try.func66 (impl_within.calls a0_0 1 3 false _ A4.out) ?_; rintro e w5 ⟨rfl, hd⟩; refine ⟨_, rfl, ?_⟩; replace HM := HM.drawn hd; clear hd))
  go_ret
  exact ⟨ER, (MD HM).pick []⟩
def impl_OpText.f (k : Nat) (a0_0 : Int) (a0_1 : ByteArray) (a0_2 : ByteArray) : Option (ByteArray) := (impl_OpOk.f k a0_0 a0_1 a0_2).bind fun t601 => (if t601 = true then (if a0_0 = 1 then (if 4 + a0_1.size ≤ 9223372036854775807 then (some ((⟨#[103, 101, 116, 32]⟩ : ByteArray) ++ a0_1)) else (none)) else (if a0_0 = 2 then (if 4 + a0_1.size ≤ 9223372036854775807 then (if 4 + a0_1.size + 1 ≤ 9223372036854775807 then (if 4 + a0_1.size + 1 + a0_2.size ≤ 9223372036854775807 then (some ((((⟨#[112, 117, 116, 32]⟩ : ByteArray) ++ a0_1) ++ (⟨#[32]⟩ : ByteArray)) ++ a0_2)) else (none)) else (none)) else (none)) else (if 5 + a0_1.size ≤ 9223372036854775807 then (some ((⟨#[100, 114, 111, 112, 32]⟩ : ByteArray) ++ a0_1)) else (none)))) else (some (⟨#[]⟩ : ByteArray)))
theorem impl_OpText.calls (k : Nat) (a0_0 : Int) (a0_1 : ByteArray) (a0_2 : ByteArray) (r : ByteArray) (w : World)  (h : impl_OpText.f k a0_0 a0_1 a0_2 = some r) :
  Calls Try.prog 81 #[.agg #[.int .i64 a0_0, .string a0_1, .string a0_2]] w fun e w' => e = .returned (.string r) ∧ Mem w [] w' [] := by
 have hu32 := Try.underlying32
 have HM := Mem.nil w
 have H := h
 clear h
 unfold impl_OpText.f at H
 go_enter Try.func81, Try.ntmps81
 replace H := BN H; obtain ⟨t601, A4, H⟩ := H
 go_upto_if 5 with (first | ((with_reducible refine gN 1 rfl ?_); refine pB 1 32 [.int .i64 a0_0, .string a0_1, .string a0_2] HM rfl ?_; clear HM; intro gb600 w2 HM; obtain ⟨_,_,_,_,_,_⟩ := bk3 (HM.bx 0 rfl)) | ((with_reducible refine gC 80 rfl ?_); refine pC (some 4) rfl #[.agg #[.int .i64 a0_0, .string a0_1, .string a0_2]] rfl Try.func80 (impl_OpOk.calls k a0_0 a0_1 a0_2 t601 _ A4.out) ?_; rintro e w5 ⟨rfl, hR⟩; refine ⟨_, rfl, ?_⟩; replace HM := HM.call hR; clear hR))
 replace HM := nzM HM
 replace H := IB H
 rcases H with ⟨c6, H⟩ | ⟨c6, H⟩
 ·subst c6
  obtain ⟨_,_,_,_,_,_⟩ := bk3 (HM.bx 0 rfl)
  go_upto_if 8 with (fail)
  replace H := IT H; rcases H with ⟨c8, H⟩ | ⟨c8, H⟩
  ·obtain ⟨c8b0, c8b1⟩ := BE c8
   clear c8
   first|rw [c8b0]|(simp only [i64_w, i32_w]; rw [c8b0])|skip
   replace H := GD H; obtain ⟨c9, H⟩ := H
   have c9b0 := eq_true c9
   have c9b1 : decide (4 + a0_1.size ≤ 9223372036854775807) = true := decide_eq_true c9
   try have c9b2 : (9223372036854775807 < 4 + a0_1.size) = False := eq_false (Nat.not_lt.2 c9)
   obtain rfl := Option.some.inj H
   go_wp2
   go_ret
   exact ⟨ER, (MD HM).pick []⟩
  ·obtain ⟨c8b0, c8b1⟩ := BF c8
   first|rw [c8b0]|(simp only [i64_w, i32_w]; rw [c8b0])|skip
   go_upto_if 13 with (fail)
   replace H := IT H; rcases H with ⟨c10, H⟩ | ⟨c10, H⟩
   ·obtain ⟨c10b0, c10b1⟩ := BE c10
    clear c10
    first|rw [c10b0]|(simp only [i64_w, i32_w]; rw [c10b0])|skip
    replace H := GD H; obtain ⟨c11, H⟩ := H
    have c11b0 := eq_true c11
    have c11b1 : decide (4 + a0_1.size ≤ 9223372036854775807) = true := decide_eq_true c11
    try have c11b2 : (9223372036854775807 < 4 + a0_1.size) = False := eq_false (Nat.not_lt.2 c11)
    replace H := GD H; obtain ⟨c12, H⟩ := H
    have c12b0 := eq_true c12
    have c12b1 : decide (4 + a0_1.size + 1 ≤ 9223372036854775807) = true := decide_eq_true c12
    try have c12b2 : (9223372036854775807 < 4 + a0_1.size + 1) = False := eq_false (Nat.not_lt.2 c12)
    replace H := GD H; obtain ⟨c13, H⟩ := H
    have c13b0 := eq_true c13
    have c13b1 : decide (4 + a0_1.size + 1 + a0_2.size ≤ 9223372036854775807) = true := decide_eq_true c13
    try have c13b2 : (9223372036854775807 < 4 + a0_1.size + 1 + a0_2.size) = False := eq_false (Nat.not_lt.2 c13)
    obtain rfl := Option.some.inj H
    go_wp2
    go_ret
    exact ⟨ER, (MD HM).pick []⟩
   ·obtain ⟨c10b0, c10b1⟩ := BF c10
    first|rw [c10b0]|(simp only [i64_w, i32_w]; rw [c10b0])|skip
    replace H := GD H; obtain ⟨c14, H⟩ := H
    have c14b0 := eq_true c14
    have c14b1 : decide (5 + a0_1.size ≤ 9223372036854775807) = true := decide_eq_true c14
    try have c14b2 : (9223372036854775807 < 5 + a0_1.size) = False := eq_false (Nat.not_lt.2 c14)
    obtain rfl := Option.some.inj H
    go_wp2
    go_ret
    exact ⟨ER, (MD HM).pick []⟩
 ·subst c6
  obtain rfl := Option.some.inj H
  go_wp2
  go_ret
  exact ⟨ER, (MD HM).pick []⟩
mutual
def impl_TextOp.j2 : Nat → ByteArray → Int → ByteArray → ByteArray → Option (Int × ByteArray × ByteArray × Bool)
 | 0, _, _, _, _ => none
 | k + 1, x0, x607000, x607001, x607002 => (impl_OpOk.f k x607000 x607001 x607002).bind fun t614 => (if t614 = true then ((impl_OpText.f k x607000 x607001 x607002).bind fun t615 => (if t615.toList = x0.toList then (some (x607000, x607001, x607002, true)) else (some (0, (⟨#[]⟩ : ByteArray), (⟨#[]⟩ : ByteArray), false)))) else (some (0, (⟨#[]⟩ : ByteArray), (⟨#[]⟩ : ByteArray), false)))
def impl_TextOp.j0 : Nat → ByteArray → List ByteArray → Bool → Int → ByteArray → ByteArray → Option (Int × ByteArray × ByteArray × Bool)
 | 0, _, _, _, _, _, _ => none
 | k + 1, x0, x4, x9, x607000, x607001, x607002 => if x9 = true then (if 1 < (x4.length : Int) then (impl_TextOp.j2 k x0 1 (rdOf ByteArray.empty x4 1) (⟨#[]⟩ : ByteArray)) else (none)) else (if 0 < (x4.length : Int) then (if (rdOf ByteArray.empty x4 0).toList = ([112, 117, 116] : List UInt8) then (impl_TextOp.j1 k x0 x4 ((x4.length : Int) == 3) x607000 x607001 x607002) else (impl_TextOp.j1 k x0 x4 false x607000 x607001 x607002)) else (none))
def impl_TextOp.j1 : Nat → ByteArray → List ByteArray → Bool → Int → ByteArray → ByteArray → Option (Int × ByteArray × ByteArray × Bool)
 | 0, _, _, _, _, _, _ => none
 | k + 1, x0, x4, x23, x607000, x607001, x607002 => if x23 = true then (if 1 < (x4.length : Int) then (if 2 < (x4.length : Int) then (impl_TextOp.j2 k x0 2 (rdOf ByteArray.empty x4 1) (rdOf ByteArray.empty x4 2)) else (none)) else (none)) else (if 0 < (x4.length : Int) then (if (rdOf ByteArray.empty x4 0).toList = ([100, 114, 111, 112] : List UInt8) then (if (x4.length : Int) = 2 then (if 1 < (x4.length : Int) then (impl_TextOp.j2 k x0 3 (rdOf ByteArray.empty x4 1) (⟨#[]⟩ : ByteArray)) else (none)) else (impl_TextOp.j2 k x0 x607000 x607001 x607002)) else (impl_TextOp.j2 k x0 x607000 x607001 x607002)) else (none))
end
def impl_TextOp.f (k : Nat) (a0 : ByteArray) : Option (Int × ByteArray × ByteArray × Bool) := (impl_Cut.f k a0).bind fun t603 => (if 0 < (t603.length : Int) then (if (rdOf ByteArray.empty t603 0).toList = ([103, 101, 116] : List UInt8) then (impl_TextOp.j0 k a0 t603 ((t603.length : Int) == 2) 0 (⟨#[]⟩ : ByteArray) (⟨#[]⟩ : ByteArray)) else (impl_TextOp.j0 k a0 t603 false 0 (⟨#[]⟩ : ByteArray) (⟨#[]⟩ : ByteArray))) else (none))
def impl_TextOp.T6 : Bool × List (List Nat × List Nat) := (true, [([], []), ([0], [0]), ([1], [1]), ([], []), ([3], [3]), ([4], [4]), ([2, 5], [2, 5]), ([6, 0, 1, 2, 3, 4, 5, 6], [6])])
def impl_TextOp.B6 : List Nat := [0, 1, 3, 0, 8, 24, 63, 127]
theorem impl_TextOp.tab6 : rtab .any (opsOf Try.f42 6) = impl_TextOp.T6 := by kernel_rfl
theorem impl_TextOp.bits6 : waitsOk impl_TextOp.T6.2 impl_TextOp.B6 = true := by kernel_rfl
theorem impl_TextOp.z0 {P : Prop} (h : P := by have := HJ7.out; have := HJ15.out; first | omega | exact Nat.le_refl _) : P := h
theorem impl_TextOp.calls (k : Nat) (a0 : ByteArray) (r1 : Int) (r2 : ByteArray) (r3 : ByteArray) (r4 : Bool) (w : World)  (h : impl_TextOp.f k a0 = some (r1, r2, r3, r4)) :
  Calls Try.prog 42 #[.string a0] w fun e w' => e = .returned (.tuple #[.agg #[.int .i64 r1, .string r2, .string r3], .bool r4]) ∧ Mem w [] w' [] := by
 have hu32 := Try.underlying32
 have HM := Mem.nil w
 have H := h
 clear h
 unfold impl_TextOp.f at H
 go_enter Try.func42, Try.ntmps42
 replace H := BN H; obtain ⟨t603, A3, H⟩ := H
 have HC7 := Aside0.mk H
 clear H
 go_upto_block 0 with (first | ((with_reducible refine gN 2 rfl ?_); refine pB 2 32 [.int .i64 0, .string (⟨#[]⟩ : ByteArray), .string (⟨#[]⟩ : ByteArray)] HM rfl ?_; clear HM; intro gb602 w2 HM) | ((with_reducible refine gC 40 rfl ?_); refine pC (some 7) rfl #[.string a0] rfl Try.func40 (impl_Cut.calls k a0 t603 _ A3.out) ?_; rintro e w4 ⟨v604, rfl, hR⟩; refine ⟨_, rfl, ?_⟩; replace HM := HM.call hR; clear hR) | ((with_reducible refine gN 5 rfl ?_); refine pB 5 32 [.int .i64 0, .string (⟨#[]⟩ : ByteArray), .string (⟨#[]⟩ : ByteArray)] HM rfl ?_; clear HM; intro gb606 w5 HM) | ((with_reducible refine gS 5 rfl ?_); refine pS 2 5 0 [.int .i64 0, .string (⟨#[]⟩ : ByteArray), .string (⟨#[]⟩ : ByteArray)] HM rfl rfl ?_; clear HM; intro w6 HM))
 replace HM := nzM HM
 try simp only [Act.put, List.setIfInBounds_toArray, List.set_cons_zero, List.set_cons_succ]
 go_cut [] (fun wc => ∃ (kq : Nat) (x607000_6 : Int) (x607001_6 : ByteArray) (x607002_6 : ByteArray), Aside0 (impl_TextOp.j2 kq a0 x607000_6 x607001_6 x607002_6 = some (r1, r2, r3, r4)) ∧ Aside0 (kq ≤ k) ∧ Mem w [] wc [box 32 gb602 [.int .i64 0, .string (⟨#[]⟩ : ByteArray), .string (⟨#[]⟩ : ByteArray)], box 32 gb606 [.int .i64 x607000_6, .string x607001_6, .string x607002_6]])
 case first =>
  have H := HC7.out
  clear HC7
  have HC8 := Aside0.mk H
  clear H
  go_upto_region 3 with (fail)
  go_cut [9] (fun v9 wc => ∃ (kq : Nat) (x9_7 : Bool), v9 = .bool x9_7 ∧ Aside0 (impl_TextOp.j0 kq a0 t603 x9_7 0 (⟨#[]⟩ : ByteArray) (⟨#[]⟩ : ByteArray) = some (r1, r2, r3, r4)) ∧ Aside0 (kq ≤ k) ∧ Mem w [] wc [rowR Kd.string 9 v604 t603, box 32 gb602 [.int .i64 0, .string (⟨#[]⟩ : ByteArray), .string (⟨#[]⟩ : ByteArray)], box 32 gb606 [.int .i64 0, .string (⟨#[]⟩ : ByteArray), .string (⟨#[]⟩ : ByteArray)]])
  case first =>
   have H := HC8.out
   clear HC8
   replace H := GD H; obtain ⟨c9, H⟩ := H
   replace c9 : 0 < (t603.length : Int) := c9
   have c9b0 := decide_eq_true c9
   have c9b1 : decide (0 < t603.length) = true := decide_eq_true (by omega)
   have c9b9 : decide (0 < t603.length) = true := decide_eq_true (by omega)
   clear c9
   replace H := IT H; rcases H with ⟨c11, H⟩ | ⟨c11, H⟩
   ·obtain ⟨c11b0, c11b1⟩ := BE c11
    clear c11
    have H' := Aside0.mk H
    clear H
    obtain ⟨Xo10, ko10, rfl⟩ := HM.rdR 1 rfl
    have p607 : 0 ≤ (0 : Int) := (by omega)
    have q607 : (0 : Int) < (t603.length : Int) := of_decide_eq_true AS
    obtain ⟨ad607, e607, hx607_0⟩ := Kd.at_string (HM.CR 1 rfl).2.2 0 p607 q607
    cases e607
    have qi607 : (0 < t603.length) = True := eq_true (by omega)
    (try rw [show ((0 : Int)).toNat = 0 from rfl] at hx607_0)
    (try rw [Addr.add_zero'] at hx607_0)
    replace p607 := eq_true p607
    replace q607 := eq_true q607
    go_wp2
    go_meet
    case rel => exact ⟨_, (((t603.length : Int) == 2)), RS, H', ⟨by first | omega | exact Nat.le_refl _⟩, (MD HM).pick [1, 0, 2]⟩
   ·obtain ⟨c11b0, c11b1⟩ := BF c11
    have H' := Aside0.mk H
    clear H
    obtain ⟨Xo10, ko10, rfl⟩ := HM.rdR 1 rfl
    have p607 : 0 ≤ (0 : Int) := (by omega)
    have q607 : (0 : Int) < (t603.length : Int) := of_decide_eq_true AS
    obtain ⟨ad607, e607, hx607_0⟩ := Kd.at_string (HM.CR 1 rfl).2.2 0 p607 q607
    cases e607
    have qi607 : (0 < t603.length) = True := eq_true (by omega)
    (try rw [show ((0 : Int)).toNat = 0 from rfl] at hx607_0)
    (try rw [Addr.add_zero'] at hx607_0)
    replace p607 := eq_true p607
    replace q607 := eq_true q607
    go_wp2
    go_meet
    case rel => exact ⟨_, (false), RS, H', ⟨by first | omega | exact Nat.le_refl _⟩, (MD HM).pick [1, 0, 2]⟩
  case rest =>
   clear HC8 HM
   obtain ⟨kq, x9_7, rfl, HA, HJ7, HM⟩ := hcut
   cases kq with
   | zero => exact absurd HA.out (by simp [impl_TextOp.j0])
   | succ kj7 =>
    have H := HA.out
    clear HA
    simp only [impl_TextOp.j0] at H
    go_upto_if 9 with (fail)
    replace H := IB H
    rcases H with ⟨c12, H⟩ | ⟨c12, H⟩
    ·subst c12
     replace H := GD H; obtain ⟨c13, H⟩ := H
     replace c13 : 1 < (t603.length : Int) := c13
     have c13b0 := decide_eq_true c13
     have c13b1 : decide (1 < t603.length) = true := decide_eq_true (by omega)
     have c13b9 : decide (1 < t603.length) = true := decide_eq_true (by omega)
     clear c13
     have H' := Aside0.mk H
     clear H
     obtain ⟨Xo14, ko14, rfl⟩ := HM.rdR 0 rfl
     have p608 : 0 ≤ (1 : Int) := (by omega)
     have q608 : (1 : Int) < (t603.length : Int) := of_decide_eq_true AS
     obtain ⟨ad608, e608, hx608_0⟩ := Kd.at_string (HM.CR 0 rfl).2.2 1 p608 q608
     cases e608
     have qi608 : (1 < t603.length) = True := eq_true (by omega)
     (try rw [show ((1 : Int)).toNat = 1 from rfl] at hx608_0)
     (try simp only [Nat.reduceMul, Nat.reduceEqDiff, Go.Addr.add, ↓reduceIte] at hx608_0)
     replace p608 := eq_true p608
     replace q608 := eq_true q608
     go_wp2_with (first | ((with_reducible refine gS 5 rfl ?_); refine pS 2 5 0 [.int .i64 1, .string (rdOf ByteArray.empty t603 1), .string (⟨#[]⟩ : ByteArray)] HM rfl rfl ?_; clear HM; intro w15 HM))
     go_meet
     case rel => exact ⟨_, (1), (rdOf ByteArray.empty t603 1), ((⟨#[]⟩ : ByteArray)), H', ⟨by have := HJ7.out; first | omega | exact Nat.le_refl _⟩, (MD HM).pick [1, 2]⟩
    ·subst c12
     have HC16 := Aside0.mk H
     clear H
     go_upto_region 5 with (fail)
     go_cut [23] (fun v23 wc => ∃ (kq : Nat) (x23_15 : Bool), v23 = .bool x23_15 ∧ Aside0 (impl_TextOp.j1 kq a0 t603 x23_15 0 (⟨#[]⟩ : ByteArray) (⟨#[]⟩ : ByteArray) = some (r1, r2, r3, r4)) ∧ Aside0 (kq ≤ kj7) ∧ Mem w [] wc [rowR Kd.string 9 v604 t603, box 32 gb602 [.int .i64 0, .string (⟨#[]⟩ : ByteArray), .string (⟨#[]⟩ : ByteArray)], box 32 gb606 [.int .i64 0, .string (⟨#[]⟩ : ByteArray), .string (⟨#[]⟩ : ByteArray)]])
     case first =>
      have H := HC16.out
      clear HC16
      replace H := GD H; obtain ⟨c17, H⟩ := H
      replace c17 : 0 < (t603.length : Int) := c17
      have c17b0 := decide_eq_true c17
      have c17b1 : decide (0 < t603.length) = true := decide_eq_true (by omega)
      have c17b9 : decide (0 < t603.length) = true := decide_eq_true (by omega)
      clear c17
      replace H := IT H; rcases H with ⟨c19, H⟩ | ⟨c19, H⟩
      ·obtain ⟨c19b0, c19b1⟩ := BE c19
       clear c19
       have H' := Aside0.mk H
       clear H
       obtain ⟨Xo18, ko18, rfl⟩ := HM.rdR 0 rfl
       have p609 : 0 ≤ (0 : Int) := (by omega)
       have q609 : (0 : Int) < (t603.length : Int) := of_decide_eq_true AS
       obtain ⟨ad609, e609, hx609_0⟩ := Kd.at_string (HM.CR 0 rfl).2.2 0 p609 q609
       cases e609
       have qi609 : (0 < t603.length) = True := eq_true (by omega)
       (try rw [show ((0 : Int)).toNat = 0 from rfl] at hx609_0)
       (try rw [Addr.add_zero'] at hx609_0)
       replace p609 := eq_true p609
       replace q609 := eq_true q609
       go_wp2
       go_meet
       case rel => exact ⟨_, (((t603.length : Int) == 3)), RS, H', ⟨by have := HJ7.out; first | omega | exact Nat.le_refl _⟩, (MD HM).pick [0, 1, 2]⟩
      ·obtain ⟨c19b0, c19b1⟩ := BF c19
       have H' := Aside0.mk H
       clear H
       obtain ⟨Xo18, ko18, rfl⟩ := HM.rdR 0 rfl
       have p609 : 0 ≤ (0 : Int) := (by omega)
       have q609 : (0 : Int) < (t603.length : Int) := of_decide_eq_true AS
       obtain ⟨ad609, e609, hx609_0⟩ := Kd.at_string (HM.CR 0 rfl).2.2 0 p609 q609
       cases e609
       have qi609 : (0 < t603.length) = True := eq_true (by omega)
       (try rw [show ((0 : Int)).toNat = 0 from rfl] at hx609_0)
       (try rw [Addr.add_zero'] at hx609_0)
       replace p609 := eq_true p609
       replace q609 := eq_true q609
       go_wp2
       go_meet
       case rel => exact ⟨_, (false), RS, H', ⟨by have := HJ7.out; first | omega | exact Nat.le_refl _⟩, (MD HM).pick [0, 1, 2]⟩
     case rest =>
      clear HC16 HM
      obtain ⟨kq, x23_15, rfl, HA, HJ15, HM⟩ := hcut
      cases kq with
      | zero => exact absurd HA.out (by simp [impl_TextOp.j1])
      | succ kj15 =>
       have H := HA.out
       clear HA
       simp only [impl_TextOp.j1] at H
       go_upto_if 23 with (fail)
       replace H := IB H
       rcases H with ⟨c20, H⟩ | ⟨c20, H⟩
       ·subst c20
        try go_wp2
        replace H := GD H; obtain ⟨c21, H⟩ := H
        replace c21 : 1 < (t603.length : Int) := c21
        have c21b0 := decide_eq_true c21
        have c21b1 : decide (1 < t603.length) = true := decide_eq_true (by omega)
        have c21b9 : decide (1 < t603.length) = true := decide_eq_true (by omega)
        clear c21
        replace H := GD H; obtain ⟨c22, H⟩ := H
        replace c22 : 2 < (t603.length : Int) := c22
        have c22b0 := decide_eq_true c22
        have c22b1 : decide (2 < t603.length) = true := decide_eq_true (by omega)
        have c22b9 : decide (2 < t603.length) = true := decide_eq_true (by omega)
        clear c22
        obtain ⟨Xo28, ko28, rfl⟩ := HM.rdR 0 rfl
        have p610 : 0 ≤ (1 : Int) := (by omega)
        have q610 : (1 : Int) < (t603.length : Int) := of_decide_eq_true AS
        obtain ⟨ad610, e610, hx610_0⟩ := Kd.at_string (HM.CR 0 rfl).2.2 1 p610 q610
        cases e610
        have qi610 : (1 < t603.length) = True := eq_true (by omega)
        (try rw [show ((1 : Int)).toNat = 1 from rfl] at hx610_0)
        (try simp only [Nat.reduceMul, Nat.reduceEqDiff, Go.Addr.add, ↓reduceIte] at hx610_0)
        replace p610 := eq_true p610
        replace q610 := eq_true q610
        have p611 : 0 ≤ (2 : Int) := (by omega)
        have q611 : (2 : Int) < (t603.length : Int) := of_decide_eq_true AS
        obtain ⟨ad611, e611, hx611_0⟩ := Kd.at_string (HM.CR 0 rfl).2.2 2 p611 q611
        obtain rfl := Option.some.inj e611
        have qi611 : (2 < t603.length) = True := eq_true (by omega)
        (try rw [show ((2 : Int)).toNat = 2 from rfl] at hx611_0)
        (try simp only [Nat.reduceMul, Nat.reduceEqDiff, Go.Addr.add, ↓reduceIte] at hx611_0)
        replace p611 := eq_true p611
        replace q611 := eq_true q611
        refine RGN 8 [0, 1, 2, 3, 4, 5, 6, 7] (fun a0 b a w' => a = putSel a0 b [(0, 33, .slice (some ad610) t603.length ko28), (1, 34, .pointer (some (ad610.add 1))), (2, 35, .string (rdOf ByteArray.empty t603 1)), (3, 36, .slice (some ad610) t603.length ko28), (4, 37, .pointer (some (ad610.add 2))), (5, 38, .string (rdOf ByteArray.empty t603 2)), (6, 39, .agg #[.int .i64 2, .string (rdOf ByteArray.empty t603 1), .string (rdOf ByteArray.empty t603 2)])] ∧ Mem w [] w' [rowR Kd.string 9 (.slice (some ad610) t603.length ko28) t603, box 32 gb602 [.int .i64 0, .string (⟨#[]⟩ : ByteArray), .string (⟨#[]⟩ : ByteArray)], sel (b 7) (box 32 gb606 [.int .i64 2, .string (rdOf ByteArray.empty t603 1), .string (rdOf ByteArray.empty t603 2)]) (box 32 gb606 [.int .i64 0, .string (⟨#[]⟩ : ByteArray), .string (⟨#[]⟩ : ByteArray)])]) impl_TextOp.tab6 impl_TextOp.bits6 ?_ ?_ ?_
        ·exact ⟨PS0' rfl _, (HM.drew).pick [0, 1, 2]⟩
        ·clear HM
         refine SY ?_ ?_
         ·intro b a w ha HM hb hon hoff K hK
          have e4 := PG ha 4
          exact VL (.slice (some ad610) t603.length ko28) (hK.out _ _ ⟨PUT ha 0 hb, HM⟩)
         refine SY ?_ ?_
         ·intro b a w ha HM hb hon hoff K hK
          have p610 : 0 ≤ (1 : Int) := (by omega)
          have q610 : (1 : Int) < (t603.length : Int) := of_decide_eq_true AS
          obtain ⟨ad610, e610, hx610_0⟩ := Kd.at_string (HM.CR 0 rfl).2.2 1 p610 q610
          obtain rfl := Option.some.inj e610
          have qi610 : (1 < t603.length) = True := eq_true (by omega)
          (try rw [show ((1 : Int)).toNat = 1 from rfl] at hx610_0)
          (try simp only [Nat.reduceMul, Nat.reduceEqDiff, Go.Addr.add, ↓reduceIte] at hx610_0)
          replace p610 := eq_true p610
          replace q610 := eq_true q610
          have e33 := PE ha 0 hon
          exact VL (.pointer (some (ad610.add 1))) (hK.out _ _ ⟨PUT ha 1 hb, HM⟩)
         refine SY ?_ ?_
         ·intro b a w ha HM hb hon hoff K hK
          have p610 : 0 ≤ (1 : Int) := (by omega)
          have q610 : (1 : Int) < (t603.length : Int) := of_decide_eq_true AS
          obtain ⟨ad610, e610, hx610_0⟩ := Kd.at_string (HM.CR 0 rfl).2.2 1 p610 q610
          obtain rfl := Option.some.inj e610
          have qi610 : (1 < t603.length) = True := eq_true (by omega)
          (try rw [show ((1 : Int)).toNat = 1 from rfl] at hx610_0)
          (try simp only [Nat.reduceMul, Nat.reduceEqDiff, Go.Addr.add, ↓reduceIte] at hx610_0)
          replace p610 := eq_true p610
          replace q610 := eq_true q610
          have e34 := PE ha 1 hon
          exact VL (.string (rdOf ByteArray.empty t603 1)) (hK.out _ _ ⟨PUT ha 2 hb, HM⟩)
         refine SY ?_ ?_
         ·intro b a w ha HM hb hon hoff K hK
          have e4 := PG ha 4
          exact VL (.slice (some ad610) t603.length ko28) (hK.out _ _ ⟨PUT ha 3 hb, HM⟩)
         refine SY ?_ ?_
         ·intro b a w ha HM hb hon hoff K hK
          have p611 : 0 ≤ (2 : Int) := (by omega)
          have q611 : (2 : Int) < (t603.length : Int) := of_decide_eq_true AS
          obtain ⟨ad611, e611, hx611_0⟩ := Kd.at_string (HM.CR 0 rfl).2.2 2 p611 q611
          obtain rfl := Option.some.inj e611
          have qi611 : (2 < t603.length) = True := eq_true (by omega)
          (try rw [show ((2 : Int)).toNat = 2 from rfl] at hx611_0)
          (try simp only [Nat.reduceMul, Nat.reduceEqDiff, Go.Addr.add, ↓reduceIte] at hx611_0)
          replace p611 := eq_true p611
          replace q611 := eq_true q611
          have e36 := PE ha 3 hon
          exact VL (.pointer (some (ad610.add 2))) (hK.out _ _ ⟨PUT ha 4 hb, HM⟩)
         refine SY ?_ ?_
         ·intro b a w ha HM hb hon hoff K hK
          have p611 : 0 ≤ (2 : Int) := (by omega)
          have q611 : (2 : Int) < (t603.length : Int) := of_decide_eq_true AS
          obtain ⟨ad611, e611, hx611_0⟩ := Kd.at_string (HM.CR 0 rfl).2.2 2 p611 q611
          obtain rfl := Option.some.inj e611
          have qi611 : (2 < t603.length) = True := eq_true (by omega)
          (try rw [show ((2 : Int)).toNat = 2 from rfl] at hx611_0)
          (try simp only [Nat.reduceMul, Nat.reduceEqDiff, Go.Addr.add, ↓reduceIte] at hx611_0)
          replace p611 := eq_true p611
          replace q611 := eq_true q611
          have e37 := PE ha 4 hon
          exact VL (.string (rdOf ByteArray.empty t603 2)) (hK.out _ _ ⟨PUT ha 5 hb, HM⟩)
         refine SY ?_ ?_
         ·intro b a w ha HM hb hon hoff K hK
          have e35 := PE ha 2 hon
          have e38 := PE ha 5 hon
          exact VL (.agg #[.int .i64 2, .string (rdOf ByteArray.empty t603 1), .string (rdOf ByteArray.empty t603 2)]) (hK.out _ _ ⟨PUT ha 6 hb, HM⟩)
         refine SY ?_ ?_
         ·intro b a w ha HM hb hon hoff K hK
          replace HM := HM.sF 2 rfl hb
          have e5 := PG ha 5
          have e39 := PE ha 6 hon
          refine ST (eS 2 5 0 [.int .i64 2, .string (rdOf ByteArray.empty t603 1), .string (rdOf ByteArray.empty t603 2)] HM rfl rfl ?_ (hp := (eval_of e5)) (hx := (by rw [eval_of e39]; rfl)))
          clear HM
          intro w29 HM
          exact hK.out _ _ ⟨PUS ha, (HM).pick [0, 1, 2]⟩
         exact steps_nil
        rintro _ w30 ⟨rfl, HM⟩
        replace HM := HM.sT 2 rfl rfl
        simp only [putSel, if_true, Act.put, List.setIfInBounds_toArray, List.set_cons_zero, List.set_cons_succ, gt_iff_lt, ge_iff_le]
        have H' := Aside0.mk H
        clear H
        go_wp2
        go_meet
        case rel => exact ⟨_, (2), (rdOf ByteArray.empty t603 1), (rdOf ByteArray.empty t603 2), H', ⟨impl_TextOp.z0⟩, (MD HM).pick [1, 2]⟩
       ·subst c20
        replace H := GD H; obtain ⟨c31, H⟩ := H
        replace c31 : 0 < (t603.length : Int) := c31
        have c31b0 := decide_eq_true c31
        have c31b1 : decide (0 < t603.length) = true := decide_eq_true (by omega)
        have c31b9 : decide (0 < t603.length) = true := decide_eq_true (by omega)
        clear c31
        replace H := IT H; rcases H with ⟨c33, H⟩ | ⟨c33, H⟩
        ·obtain ⟨c33b0, c33b1⟩ := BE c33
         clear c33
         obtain ⟨Xo32, ko32, rfl⟩ := HM.rdR 0 rfl
         have p612 : 0 ≤ (0 : Int) := (by omega)
         have q612 : (0 : Int) < (t603.length : Int) := of_decide_eq_true AS
         obtain ⟨ad612, e612, hx612_0⟩ := Kd.at_string (HM.CR 0 rfl).2.2 0 p612 q612
         cases e612
         have qi612 : (0 < t603.length) = True := eq_true (by omega)
         (try rw [show ((0 : Int)).toNat = 0 from rfl] at hx612_0)
         (try rw [Addr.add_zero'] at hx612_0)
         replace p612 := eq_true p612
         replace q612 := eq_true q612
         go_upto_if 40 with (fail)
         replace H := IT H; rcases H with ⟨c34, H⟩ | ⟨c34, H⟩
         ·obtain ⟨c34b0, c34b1⟩ := BE c34
          clear c34
          first|rw [c34b0]|(simp only [i64_w, i32_w]; rw [c34b0])|skip
          replace H := GD H; obtain ⟨c35, H⟩ := H
          replace c35 : 1 < (t603.length : Int) := c35
          have c35b0 := decide_eq_true c35
          have c35b1 : decide (1 < t603.length) = true := decide_eq_true (by omega)
          have c35b9 : decide (1 < t603.length) = true := decide_eq_true (by omega)
          clear c35
          have H' := Aside0.mk H
          clear H
          have p613 : 0 ≤ (1 : Int) := (by omega)
          have q613 : (1 : Int) < (t603.length : Int) := of_decide_eq_true AS
          obtain ⟨ad613, e613, hx613_0⟩ := Kd.at_string (HM.CR 0 rfl).2.2 1 p613 q613
          obtain rfl := Option.some.inj e613
          have qi613 : (1 < t603.length) = True := eq_true (by omega)
          (try rw [show ((1 : Int)).toNat = 1 from rfl] at hx613_0)
          (try simp only [Nat.reduceMul, Nat.reduceEqDiff, Go.Addr.add, ↓reduceIte] at hx613_0)
          replace p613 := eq_true p613
          replace q613 := eq_true q613
          go_wp2_with (first | ((with_reducible refine gS 5 rfl ?_); refine pS 2 5 0 [.int .i64 3, .string (rdOf ByteArray.empty t603 1), .string (⟨#[]⟩ : ByteArray)] HM rfl rfl ?_; clear HM; intro w36 HM))
          go_meet
          case rel => exact ⟨_, (3), (rdOf ByteArray.empty t603 1), ((⟨#[]⟩ : ByteArray)), H', ⟨impl_TextOp.z0⟩, (MD HM).pick [1, 2]⟩
         ·obtain ⟨c34b0, c34b1⟩ := BF c34
          first|rw [c34b0]|(simp only [i64_w, i32_w]; rw [c34b0])|skip
          have H' := Aside0.mk H
          clear H
          go_wp2
          go_meet
          case rel => exact ⟨_, (0), ((⟨#[]⟩ : ByteArray)), ((⟨#[]⟩ : ByteArray)), H', ⟨impl_TextOp.z0⟩, (MD HM).pick [1, 2]⟩
        ·obtain ⟨c33b0, c33b1⟩ := BF c33
         have H' := Aside0.mk H
         clear H
         obtain ⟨Xo32, ko32, rfl⟩ := HM.rdR 0 rfl
         have p612 : 0 ≤ (0 : Int) := (by omega)
         have q612 : (0 : Int) < (t603.length : Int) := of_decide_eq_true AS
         obtain ⟨ad612, e612, hx612_0⟩ := Kd.at_string (HM.CR 0 rfl).2.2 0 p612 q612
         cases e612
         have qi612 : (0 < t603.length) = True := eq_true (by omega)
         (try rw [show ((0 : Int)).toNat = 0 from rfl] at hx612_0)
         (try rw [Addr.add_zero'] at hx612_0)
         replace p612 := eq_true p612
         replace q612 := eq_true q612
         go_wp2
         go_meet
         case rel => exact ⟨_, (0), ((⟨#[]⟩ : ByteArray)), ((⟨#[]⟩ : ByteArray)), H', ⟨impl_TextOp.z0⟩, (MD HM).pick [1, 2]⟩
 case rest =>
  clear HC7 HM
  obtain ⟨kq, x607000_6, x607001_6, x607002_6, HA, HJ6, HM⟩ := hcut
  cases kq with
  | zero => exact absurd HA.out (by simp [impl_TextOp.j2])
  | succ kj6 =>
   have H := HA.out
   clear HA
   simp only [impl_TextOp.j2] at H
   replace H := BN H; obtain ⟨t614, A38, H⟩ := H
   replace H := IB H
   rcases H with ⟨c40, H⟩ | ⟨c40, H⟩
   ·subst c40
    replace H := BN H; obtain ⟨t615, A42, H⟩ := H
    obtain ⟨_,_,_,_,_,_⟩ := bk3 (HM.bx 1 rfl)
    go_upto_if 62 with (first | ((with_reducible refine gC 80 rfl ?_); refine pC (some 55) rfl #[.agg #[.int .i64 x607000_6, .string x607001_6, .string x607002_6]] rfl Try.func80 (impl_OpOk.calls kj6 x607000_6 x607001_6 x607002_6 true _ A38.out) ?_; rintro e w39 ⟨rfl, hR⟩; refine ⟨_, rfl, ?_⟩; replace HM := HM.call hR; clear hR; obtain ⟨_,_,_,_,_,_⟩ := bk3 (HM.bx 1 rfl)) | ((with_reducible refine gC 81 rfl ?_); refine pC (some 59) rfl #[.agg #[.int .i64 x607000_6, .string x607001_6, .string x607002_6]] rfl Try.func81 (impl_OpText.calls kj6 x607000_6 x607001_6 x607002_6 t615 _ A42.out) ?_; rintro e w43 ⟨rfl, hR⟩; refine ⟨_, rfl, ?_⟩; replace HM := HM.call hR; clear hR))
    replace HM := nzM HM
    replace H := IT H; rcases H with ⟨c44, H⟩ | ⟨c44, H⟩
    ·obtain ⟨c44b0, c44b1⟩ := BE c44
     clear c44
     first|rw [c44b0]|(simp only [i64_w, i32_w]; rw [c44b0])|skip
     simp only [Option.some.injEq, Prod.mk.injEq] at H
     obtain ⟨rfl, rfl, rfl, rfl⟩ := H
     obtain ⟨_,_,_,_,_,_⟩ := bk3 (HM.bx 1 rfl)
     go_wp2_with (first | ((with_reducible refine gS 2 rfl ?_); refine pS 0 2 0 [.int .i64 x607000_6, .string x607001_6, .string x607002_6] HM rfl rfl ?_; clear HM; intro w46 HM))
     refine bodyPost_ret (results_ct rfl _ _ gb602 32 #[.int .i64 x607000_6, .string x607001_6, .string x607002_6] (0, 0) _ rfl (HM.bx 0 rfl) Try.underlying32 rfl (by kernel_rfl)) rfl ?_
     exact ⟨ER, (MD HM).pick []⟩
    ·obtain ⟨c44b0, c44b1⟩ := BF c44
     first|rw [c44b0]|(simp only [i64_w, i32_w]; rw [c44b0])|skip
     simp only [Option.some.injEq, Prod.mk.injEq] at H
     obtain ⟨rfl, rfl, rfl, rfl⟩ := H
     go_wp2_with (first | ((with_reducible refine gS 2 rfl ?_); refine pS 0 2 0 [.int .i64 0, .string (⟨#[]⟩ : ByteArray), .string (⟨#[]⟩ : ByteArray)] HM rfl rfl ?_; clear HM; intro w47 HM))
     refine bodyPost_ret (results_ct rfl _ _ gb602 32 #[.int .i64 0, .string (⟨#[]⟩ : ByteArray), .string (⟨#[]⟩ : ByteArray)] (0, 0) _ rfl (HM.bx 0 rfl) Try.underlying32 rfl (by kernel_rfl)) rfl ?_
     exact ⟨ER, (MD HM).pick []⟩
   ·subst c40
    simp only [Option.some.injEq, Prod.mk.injEq] at H
    obtain ⟨rfl, rfl, rfl, rfl⟩ := H
    obtain ⟨_,_,_,_,_,_⟩ := bk3 (HM.bx 1 rfl)
    go_wp2_with (first | ((with_reducible refine gC 80 rfl ?_); refine pC (some 55) rfl #[.agg #[.int .i64 x607000_6, .string x607001_6, .string x607002_6]] rfl Try.func80 (impl_OpOk.calls kj6 x607000_6 x607001_6 x607002_6 false _ A38.out) ?_; rintro e w39 ⟨rfl, hR⟩; refine ⟨_, rfl, ?_⟩; replace HM := HM.call hR; clear hR) | ((with_reducible refine gS 2 rfl ?_); refine pS 0 2 0 [.int .i64 0, .string (⟨#[]⟩ : ByteArray), .string (⟨#[]⟩ : ByteArray)] HM rfl rfl ?_; clear HM; intro w48 HM))
    refine bodyPost_ret (results_ct rfl _ _ gb602 32 #[.int .i64 0, .string (⟨#[]⟩ : ByteArray), .string (⟨#[]⟩ : ByteArray)] (0, 0) _ rfl (HM.bx 0 rfl) Try.underlying32 rfl (by kernel_rfl)) rfl ?_
    exact ⟨ER, (MD HM).pick []⟩
def impl_isAlone.f (a0_0 : Int) (a0_1 : Int) (a0_2 : Int) (a0_3 : Int) (a0_4 : ByteArray) (a0_5 : ByteArray) (l0_6 : List ByteArray) : Option (Bool) := if a0_0 = 1 then (if a0_0 = 2 then (if a0_0 = 3 then (some true) else (some ((l0_6.length : Int) == 0))) else (if a0_3 = 0 then (if a0_4.toList = ([] : List UInt8) then (if a0_5.toList = ([] : List UInt8) then (if a0_0 = 3 then (some true) else (some ((l0_6.length : Int) == 0))) else (some false)) else (some false)) else (some false))) else (if a0_0 = 6 then (if a0_2 = 0 then (if a0_0 = 2 then (if a0_0 = 3 then (some true) else (some ((l0_6.length : Int) == 0))) else (if a0_3 = 0 then (if a0_4.toList = ([] : List UInt8) then (if a0_5.toList = ([] : List UInt8) then (if a0_0 = 3 then (some true) else (some ((l0_6.length : Int) == 0))) else (some false)) else (some false)) else (some false))) else (some false)) else (if a0_1 = 0 then (if a0_2 = 0 then (if a0_0 = 2 then (if a0_0 = 3 then (some true) else (some ((l0_6.length : Int) == 0))) else (if a0_3 = 0 then (if a0_4.toList = ([] : List UInt8) then (if a0_5.toList = ([] : List UInt8) then (if a0_0 = 3 then (some true) else (some ((l0_6.length : Int) == 0))) else (some false)) else (some false)) else (some false))) else (some false)) else (some false)))
theorem impl_isAlone.calls (a0_0 : Int) (a0_1 : Int) (a0_2 : Int) (a0_3 : Int) (a0_4 : ByteArray) (a0_5 : ByteArray) (A0_6 : Option Addr) (c0_6 : Nat) (l0_6 : List ByteArray) (r : Bool) (w : World) (hr0_6 : Kd.C Kd.string w A0_6 l0_6.length l0_6) (hc0_6 : l0_6.length ≤ c0_6) (h : impl_isAlone.f a0_0 a0_1 a0_2 a0_3 a0_4 a0_5 l0_6 = some r) :
  Calls Try.prog 82 #[.agg #[.int .i64 a0_0, .int .i64 a0_1, .int .i64 a0_2, .int .i64 a0_3, .string a0_4, .string a0_5, .slice A0_6 l0_6.length c0_6]] w fun e w' => e = .returned (.bool r) ∧ Mem w [] w' [] := by
 have hu35 := Try.underlying35
 have hu32 := Try.underlying32
 have HR0_6 := Aside0.mk hr0_6
 have HC0_6 := Aside0.mk hc0_6
 clear hr0_6 hc0_6
 have HM := Mem.nil w
 have H := h
 clear h
 unfold impl_isAlone.f at H
 go_enter Try.func82, Try.ntmps82
 replace H := IT H; rcases H with ⟨c4, H⟩ | ⟨c4, H⟩
 ·obtain ⟨c4b0, c4b1⟩ := BE c4
  clear c4
  replace H := IT H; rcases H with ⟨c5, H⟩ | ⟨c5, H⟩
  ·obtain ⟨c5b0, c5b1⟩ := BE c5
   clear c5
   replace H := IT H; rcases H with ⟨c6, H⟩ | ⟨c6, H⟩
   ·obtain ⟨c6b0, c6b1⟩ := BE c6
    clear c6
    obtain rfl := Option.some.inj H
    go_wp2_with (first | ((with_reducible refine gN 1 rfl ?_); refine pB 1 35 [.int .i64 a0_0, .int .i64 a0_1, .int .i64 a0_2, .int .i64 a0_3, .string a0_4, .string a0_5, .slice A0_6 l0_6.length c0_6] HM rfl ?_; clear HM; intro gb616 w2 HM; obtain ⟨_,_,_,_,_,_,_,_,_,_,_,_,_,_⟩ := bk7 (HM.bx 0 rfl)))
    go_ret
    exact ⟨ER, (MD HM).pick []⟩
   ·obtain ⟨c6b0, c6b1⟩ := BF c6
    obtain rfl := Option.some.inj H
    go_wp2_with (first | ((with_reducible refine gN 1 rfl ?_); refine pB 1 35 [.int .i64 a0_0, .int .i64 a0_1, .int .i64 a0_2, .int .i64 a0_3, .string a0_4, .string a0_5, .slice A0_6 l0_6.length c0_6] HM rfl ?_; clear HM; intro gb616 w2 HM; obtain ⟨_,_,_,_,_,_,_,_,_,_,_,_,_,_⟩ := bk7 (HM.bx 0 rfl)))
    go_ret
    exact ⟨ER, (MD HM).pick []⟩
  ·obtain ⟨c5b0, c5b1⟩ := BF c5
   replace H := IT H; rcases H with ⟨c7, H⟩ | ⟨c7, H⟩
   ·obtain ⟨c7b0, c7b1⟩ := BE c7
    clear c7
    replace H := IT H; rcases H with ⟨c8, H⟩ | ⟨c8, H⟩
    ·obtain ⟨c8b0, c8b1⟩ := BE c8
     have c8b6 : (a0_4.toList).isEmpty = true := by first | (rw [c8]; rfl) | (cases h_ : a0_4.toList with | nil => exact absurd h_ c8 | cons _ _ => rfl)
     clear c8
     replace H := IT H; rcases H with ⟨c9, H⟩ | ⟨c9, H⟩
     ·obtain ⟨c9b0, c9b1⟩ := BE c9
      have c9b6 : (a0_5.toList).isEmpty = true := by first | (rw [c9]; rfl) | (cases h_ : a0_5.toList with | nil => exact absurd h_ c9 | cons _ _ => rfl)
      clear c9
      replace H := IT H; rcases H with ⟨c10, H⟩ | ⟨c10, H⟩
      ·obtain ⟨c10b0, c10b1⟩ := BE c10
       clear c10
       obtain rfl := Option.some.inj H
       go_wp2_with (first | ((with_reducible refine gN 1 rfl ?_); refine pB 1 35 [.int .i64 a0_0, .int .i64 a0_1, .int .i64 a0_2, .int .i64 a0_3, .string a0_4, .string a0_5, .slice A0_6 l0_6.length c0_6] HM rfl ?_; clear HM; intro gb616 w2 HM; obtain ⟨_,_,_,_,_,_,_,_,_,_,_,_,_,_⟩ := bk7 (HM.bx 0 rfl)))
       go_ret
       exact ⟨ER, (MD HM).pick []⟩
      ·obtain ⟨c10b0, c10b1⟩ := BF c10
       obtain rfl := Option.some.inj H
       go_wp2_with (first | ((with_reducible refine gN 1 rfl ?_); refine pB 1 35 [.int .i64 a0_0, .int .i64 a0_1, .int .i64 a0_2, .int .i64 a0_3, .string a0_4, .string a0_5, .slice A0_6 l0_6.length c0_6] HM rfl ?_; clear HM; intro gb616 w2 HM; obtain ⟨_,_,_,_,_,_,_,_,_,_,_,_,_,_⟩ := bk7 (HM.bx 0 rfl)))
       go_ret
       exact ⟨ER, (MD HM).pick []⟩
     ·obtain ⟨c9b0, c9b1⟩ := BF c9
      have c9b6 : (a0_5.toList).isEmpty = false := by first | (rw [c9]; rfl) | (cases h_ : a0_5.toList with | nil => exact absurd h_ c9 | cons _ _ => rfl)
      obtain rfl := Option.some.inj H
      go_wp2_with (first | ((with_reducible refine gN 1 rfl ?_); refine pB 1 35 [.int .i64 a0_0, .int .i64 a0_1, .int .i64 a0_2, .int .i64 a0_3, .string a0_4, .string a0_5, .slice A0_6 l0_6.length c0_6] HM rfl ?_; clear HM; intro gb616 w2 HM; obtain ⟨_,_,_,_,_,_,_,_,_,_,_,_,_,_⟩ := bk7 (HM.bx 0 rfl)))
      go_ret
      exact ⟨ER, (MD HM).pick []⟩
    ·obtain ⟨c8b0, c8b1⟩ := BF c8
     have c8b6 : (a0_4.toList).isEmpty = false := by first | (rw [c8]; rfl) | (cases h_ : a0_4.toList with | nil => exact absurd h_ c8 | cons _ _ => rfl)
     obtain rfl := Option.some.inj H
     go_wp2_with (first | ((with_reducible refine gN 1 rfl ?_); refine pB 1 35 [.int .i64 a0_0, .int .i64 a0_1, .int .i64 a0_2, .int .i64 a0_3, .string a0_4, .string a0_5, .slice A0_6 l0_6.length c0_6] HM rfl ?_; clear HM; intro gb616 w2 HM; obtain ⟨_,_,_,_,_,_,_,_,_,_,_,_,_,_⟩ := bk7 (HM.bx 0 rfl)))
     go_ret
     exact ⟨ER, (MD HM).pick []⟩
   ·obtain ⟨c7b0, c7b1⟩ := BF c7
    obtain rfl := Option.some.inj H
    go_wp2_with (first | ((with_reducible refine gN 1 rfl ?_); refine pB 1 35 [.int .i64 a0_0, .int .i64 a0_1, .int .i64 a0_2, .int .i64 a0_3, .string a0_4, .string a0_5, .slice A0_6 l0_6.length c0_6] HM rfl ?_; clear HM; intro gb616 w2 HM; obtain ⟨_,_,_,_,_,_,_,_,_,_,_,_,_,_⟩ := bk7 (HM.bx 0 rfl)))
    go_ret
    exact ⟨ER, (MD HM).pick []⟩
 ·obtain ⟨c4b0, c4b1⟩ := BF c4
  replace H := IT H; rcases H with ⟨c11, H⟩ | ⟨c11, H⟩
  ·obtain ⟨c11b0, c11b1⟩ := BE c11
   clear c11
   replace H := IT H; rcases H with ⟨c12, H⟩ | ⟨c12, H⟩
   ·obtain ⟨c12b0, c12b1⟩ := BE c12
    clear c12
    replace H := IT H; rcases H with ⟨c13, H⟩ | ⟨c13, H⟩
    ·obtain ⟨c13b0, c13b1⟩ := BE c13
     clear c13
     replace H := IT H; rcases H with ⟨c14, H⟩ | ⟨c14, H⟩
     ·obtain ⟨c14b0, c14b1⟩ := BE c14
      clear c14
      obtain rfl := Option.some.inj H
      go_wp2_with (first | ((with_reducible refine gN 1 rfl ?_); refine pB 1 35 [.int .i64 a0_0, .int .i64 a0_1, .int .i64 a0_2, .int .i64 a0_3, .string a0_4, .string a0_5, .slice A0_6 l0_6.length c0_6] HM rfl ?_; clear HM; intro gb616 w2 HM; obtain ⟨_,_,_,_,_,_,_,_,_,_,_,_,_,_⟩ := bk7 (HM.bx 0 rfl)))
      go_ret
      exact ⟨ER, (MD HM).pick []⟩
     ·obtain ⟨c14b0, c14b1⟩ := BF c14
      obtain rfl := Option.some.inj H
      go_wp2_with (first | ((with_reducible refine gN 1 rfl ?_); refine pB 1 35 [.int .i64 a0_0, .int .i64 a0_1, .int .i64 a0_2, .int .i64 a0_3, .string a0_4, .string a0_5, .slice A0_6 l0_6.length c0_6] HM rfl ?_; clear HM; intro gb616 w2 HM; obtain ⟨_,_,_,_,_,_,_,_,_,_,_,_,_,_⟩ := bk7 (HM.bx 0 rfl)))
      go_ret
      exact ⟨ER, (MD HM).pick []⟩
    ·obtain ⟨c13b0, c13b1⟩ := BF c13
     replace H := IT H; rcases H with ⟨c15, H⟩ | ⟨c15, H⟩
     ·obtain ⟨c15b0, c15b1⟩ := BE c15
      clear c15
      replace H := IT H; rcases H with ⟨c16, H⟩ | ⟨c16, H⟩
      ·obtain ⟨c16b0, c16b1⟩ := BE c16
       have c16b6 : (a0_4.toList).isEmpty = true := by first | (rw [c16]; rfl) | (cases h_ : a0_4.toList with | nil => exact absurd h_ c16 | cons _ _ => rfl)
       clear c16
       replace H := IT H; rcases H with ⟨c17, H⟩ | ⟨c17, H⟩
       ·obtain ⟨c17b0, c17b1⟩ := BE c17
        have c17b6 : (a0_5.toList).isEmpty = true := by first | (rw [c17]; rfl) | (cases h_ : a0_5.toList with | nil => exact absurd h_ c17 | cons _ _ => rfl)
        clear c17
        replace H := IT H; rcases H with ⟨c18, H⟩ | ⟨c18, H⟩
        ·obtain ⟨c18b0, c18b1⟩ := BE c18
         clear c18
         obtain rfl := Option.some.inj H
         go_wp2_with (first | ((with_reducible refine gN 1 rfl ?_); refine pB 1 35 [.int .i64 a0_0, .int .i64 a0_1, .int .i64 a0_2, .int .i64 a0_3, .string a0_4, .string a0_5, .slice A0_6 l0_6.length c0_6] HM rfl ?_; clear HM; intro gb616 w2 HM; obtain ⟨_,_,_,_,_,_,_,_,_,_,_,_,_,_⟩ := bk7 (HM.bx 0 rfl)))
         go_ret
         exact ⟨ER, (MD HM).pick []⟩
        ·obtain ⟨c18b0, c18b1⟩ := BF c18
         obtain rfl := Option.some.inj H
         go_wp2_with (first | ((with_reducible refine gN 1 rfl ?_); refine pB 1 35 [.int .i64 a0_0, .int .i64 a0_1, .int .i64 a0_2, .int .i64 a0_3, .string a0_4, .string a0_5, .slice A0_6 l0_6.length c0_6] HM rfl ?_; clear HM; intro gb616 w2 HM; obtain ⟨_,_,_,_,_,_,_,_,_,_,_,_,_,_⟩ := bk7 (HM.bx 0 rfl)))
         go_ret
         exact ⟨ER, (MD HM).pick []⟩
       ·obtain ⟨c17b0, c17b1⟩ := BF c17
        have c17b6 : (a0_5.toList).isEmpty = false := by first | (rw [c17]; rfl) | (cases h_ : a0_5.toList with | nil => exact absurd h_ c17 | cons _ _ => rfl)
        obtain rfl := Option.some.inj H
        go_wp2_with (first | ((with_reducible refine gN 1 rfl ?_); refine pB 1 35 [.int .i64 a0_0, .int .i64 a0_1, .int .i64 a0_2, .int .i64 a0_3, .string a0_4, .string a0_5, .slice A0_6 l0_6.length c0_6] HM rfl ?_; clear HM; intro gb616 w2 HM; obtain ⟨_,_,_,_,_,_,_,_,_,_,_,_,_,_⟩ := bk7 (HM.bx 0 rfl)))
        go_ret
        exact ⟨ER, (MD HM).pick []⟩
      ·obtain ⟨c16b0, c16b1⟩ := BF c16
       have c16b6 : (a0_4.toList).isEmpty = false := by first | (rw [c16]; rfl) | (cases h_ : a0_4.toList with | nil => exact absurd h_ c16 | cons _ _ => rfl)
       obtain rfl := Option.some.inj H
       go_wp2_with (first | ((with_reducible refine gN 1 rfl ?_); refine pB 1 35 [.int .i64 a0_0, .int .i64 a0_1, .int .i64 a0_2, .int .i64 a0_3, .string a0_4, .string a0_5, .slice A0_6 l0_6.length c0_6] HM rfl ?_; clear HM; intro gb616 w2 HM; obtain ⟨_,_,_,_,_,_,_,_,_,_,_,_,_,_⟩ := bk7 (HM.bx 0 rfl)))
       go_ret
       exact ⟨ER, (MD HM).pick []⟩
     ·obtain ⟨c15b0, c15b1⟩ := BF c15
      obtain rfl := Option.some.inj H
      go_wp2_with (first | ((with_reducible refine gN 1 rfl ?_); refine pB 1 35 [.int .i64 a0_0, .int .i64 a0_1, .int .i64 a0_2, .int .i64 a0_3, .string a0_4, .string a0_5, .slice A0_6 l0_6.length c0_6] HM rfl ?_; clear HM; intro gb616 w2 HM; obtain ⟨_,_,_,_,_,_,_,_,_,_,_,_,_,_⟩ := bk7 (HM.bx 0 rfl)))
      go_ret
      exact ⟨ER, (MD HM).pick []⟩
   ·obtain ⟨c12b0, c12b1⟩ := BF c12
    obtain rfl := Option.some.inj H
    go_wp2_with (first | ((with_reducible refine gN 1 rfl ?_); refine pB 1 35 [.int .i64 a0_0, .int .i64 a0_1, .int .i64 a0_2, .int .i64 a0_3, .string a0_4, .string a0_5, .slice A0_6 l0_6.length c0_6] HM rfl ?_; clear HM; intro gb616 w2 HM; obtain ⟨_,_,_,_,_,_,_,_,_,_,_,_,_,_⟩ := bk7 (HM.bx 0 rfl)))
    go_ret
    exact ⟨ER, (MD HM).pick []⟩
  ·obtain ⟨c11b0, c11b1⟩ := BF c11
   replace H := IT H; rcases H with ⟨c19, H⟩ | ⟨c19, H⟩
   ·obtain ⟨c19b0, c19b1⟩ := BE c19
    clear c19
    replace H := IT H; rcases H with ⟨c20, H⟩ | ⟨c20, H⟩
    ·obtain ⟨c20b0, c20b1⟩ := BE c20
     clear c20
     replace H := IT H; rcases H with ⟨c21, H⟩ | ⟨c21, H⟩
     ·obtain ⟨c21b0, c21b1⟩ := BE c21
      clear c21
      replace H := IT H; rcases H with ⟨c22, H⟩ | ⟨c22, H⟩
      ·obtain ⟨c22b0, c22b1⟩ := BE c22
       clear c22
       obtain rfl := Option.some.inj H
       go_wp2_with (first | ((with_reducible refine gN 1 rfl ?_); refine pB 1 35 [.int .i64 a0_0, .int .i64 a0_1, .int .i64 a0_2, .int .i64 a0_3, .string a0_4, .string a0_5, .slice A0_6 l0_6.length c0_6] HM rfl ?_; clear HM; intro gb616 w2 HM; obtain ⟨_,_,_,_,_,_,_,_,_,_,_,_,_,_⟩ := bk7 (HM.bx 0 rfl)))
       go_ret
       exact ⟨ER, (MD HM).pick []⟩
      ·obtain ⟨c22b0, c22b1⟩ := BF c22
       obtain rfl := Option.some.inj H
       go_wp2_with (first | ((with_reducible refine gN 1 rfl ?_); refine pB 1 35 [.int .i64 a0_0, .int .i64 a0_1, .int .i64 a0_2, .int .i64 a0_3, .string a0_4, .string a0_5, .slice A0_6 l0_6.length c0_6] HM rfl ?_; clear HM; intro gb616 w2 HM; obtain ⟨_,_,_,_,_,_,_,_,_,_,_,_,_,_⟩ := bk7 (HM.bx 0 rfl)))
       go_ret
       exact ⟨ER, (MD HM).pick []⟩
     ·obtain ⟨c21b0, c21b1⟩ := BF c21
      replace H := IT H; rcases H with ⟨c23, H⟩ | ⟨c23, H⟩
      ·obtain ⟨c23b0, c23b1⟩ := BE c23
       clear c23
       replace H := IT H; rcases H with ⟨c24, H⟩ | ⟨c24, H⟩
       ·obtain ⟨c24b0, c24b1⟩ := BE c24
        have c24b6 : (a0_4.toList).isEmpty = true := by first | (rw [c24]; rfl) | (cases h_ : a0_4.toList with | nil => exact absurd h_ c24 | cons _ _ => rfl)
        clear c24
        replace H := IT H; rcases H with ⟨c25, H⟩ | ⟨c25, H⟩
        ·obtain ⟨c25b0, c25b1⟩ := BE c25
         have c25b6 : (a0_5.toList).isEmpty = true := by first | (rw [c25]; rfl) | (cases h_ : a0_5.toList with | nil => exact absurd h_ c25 | cons _ _ => rfl)
         clear c25
         replace H := IT H; rcases H with ⟨c26, H⟩ | ⟨c26, H⟩
         ·obtain ⟨c26b0, c26b1⟩ := BE c26
          clear c26
          obtain rfl := Option.some.inj H
          go_wp2_with (first | ((with_reducible refine gN 1 rfl ?_); refine pB 1 35 [.int .i64 a0_0, .int .i64 a0_1, .int .i64 a0_2, .int .i64 a0_3, .string a0_4, .string a0_5, .slice A0_6 l0_6.length c0_6] HM rfl ?_; clear HM; intro gb616 w2 HM; obtain ⟨_,_,_,_,_,_,_,_,_,_,_,_,_,_⟩ := bk7 (HM.bx 0 rfl)))
          go_ret
          exact ⟨ER, (MD HM).pick []⟩
         ·obtain ⟨c26b0, c26b1⟩ := BF c26
          obtain rfl := Option.some.inj H
          go_wp2_with (first | ((with_reducible refine gN 1 rfl ?_); refine pB 1 35 [.int .i64 a0_0, .int .i64 a0_1, .int .i64 a0_2, .int .i64 a0_3, .string a0_4, .string a0_5, .slice A0_6 l0_6.length c0_6] HM rfl ?_; clear HM; intro gb616 w2 HM; obtain ⟨_,_,_,_,_,_,_,_,_,_,_,_,_,_⟩ := bk7 (HM.bx 0 rfl)))
          go_ret
          exact ⟨ER, (MD HM).pick []⟩
        ·obtain ⟨c25b0, c25b1⟩ := BF c25
         have c25b6 : (a0_5.toList).isEmpty = false := by first | (rw [c25]; rfl) | (cases h_ : a0_5.toList with | nil => exact absurd h_ c25 | cons _ _ => rfl)
         obtain rfl := Option.some.inj H
         go_wp2_with (first | ((with_reducible refine gN 1 rfl ?_); refine pB 1 35 [.int .i64 a0_0, .int .i64 a0_1, .int .i64 a0_2, .int .i64 a0_3, .string a0_4, .string a0_5, .slice A0_6 l0_6.length c0_6] HM rfl ?_; clear HM; intro gb616 w2 HM; obtain ⟨_,_,_,_,_,_,_,_,_,_,_,_,_,_⟩ := bk7 (HM.bx 0 rfl)))
         go_ret
         exact ⟨ER, (MD HM).pick []⟩
       ·obtain ⟨c24b0, c24b1⟩ := BF c24
        have c24b6 : (a0_4.toList).isEmpty = false := by first | (rw [c24]; rfl) | (cases h_ : a0_4.toList with | nil => exact absurd h_ c24 | cons _ _ => rfl)
        obtain rfl := Option.some.inj H
        go_wp2_with (first | ((with_reducible refine gN 1 rfl ?_); refine pB 1 35 [.int .i64 a0_0, .int .i64 a0_1, .int .i64 a0_2, .int .i64 a0_3, .string a0_4, .string a0_5, .slice A0_6 l0_6.length c0_6] HM rfl ?_; clear HM; intro gb616 w2 HM; obtain ⟨_,_,_,_,_,_,_,_,_,_,_,_,_,_⟩ := bk7 (HM.bx 0 rfl)))
        go_ret
        exact ⟨ER, (MD HM).pick []⟩
      ·obtain ⟨c23b0, c23b1⟩ := BF c23
       obtain rfl := Option.some.inj H
       go_wp2_with (first | ((with_reducible refine gN 1 rfl ?_); refine pB 1 35 [.int .i64 a0_0, .int .i64 a0_1, .int .i64 a0_2, .int .i64 a0_3, .string a0_4, .string a0_5, .slice A0_6 l0_6.length c0_6] HM rfl ?_; clear HM; intro gb616 w2 HM; obtain ⟨_,_,_,_,_,_,_,_,_,_,_,_,_,_⟩ := bk7 (HM.bx 0 rfl)))
       go_ret
       exact ⟨ER, (MD HM).pick []⟩
    ·obtain ⟨c20b0, c20b1⟩ := BF c20
     obtain rfl := Option.some.inj H
     go_wp2_with (first | ((with_reducible refine gN 1 rfl ?_); refine pB 1 35 [.int .i64 a0_0, .int .i64 a0_1, .int .i64 a0_2, .int .i64 a0_3, .string a0_4, .string a0_5, .slice A0_6 l0_6.length c0_6] HM rfl ?_; clear HM; intro gb616 w2 HM; obtain ⟨_,_,_,_,_,_,_,_,_,_,_,_,_,_⟩ := bk7 (HM.bx 0 rfl)))
     go_ret
     exact ⟨ER, (MD HM).pick []⟩
   ·obtain ⟨c19b0, c19b1⟩ := BF c19
    obtain rfl := Option.some.inj H
    go_wp2_with (first | ((with_reducible refine gN 1 rfl ?_); refine pB 1 35 [.int .i64 a0_0, .int .i64 a0_1, .int .i64 a0_2, .int .i64 a0_3, .string a0_4, .string a0_5, .slice A0_6 l0_6.length c0_6] HM rfl ?_; clear HM; intro gb616 w2 HM; obtain ⟨_,_,_,_,_,_,_,_,_,_,_,_,_,_⟩ := bk7 (HM.bx 0 rfl)))
    go_ret
    exact ⟨ER, (MD HM).pick []⟩
end Go.Proofs.Ytnlnifpehndacaa.G

namespace Go.Proofs.Ytnlnifpehndacaa.G
open Go.RowKit Go.Proofs.YtnlnifpehndacaaW.PrintWords Go.Proofs.YtnlnifpehndacaaW.PrintLast Go.Proofs.YtnlnifpehndacaaW.PrintMore Go.Proofs.Ytnlnifpehndacaa.Sh
attribute [local go_sem] max2_int min2_int max_two min_two max_three min_three max_four min_four
set_option linter.unusedVariables false
set_option linter.unusedSimpArgs false
def impl_glued.l0 : Nat → ByteArray → List ByteArray → Int → Int → Option (ByteArray)
 | 0, _, _, _, _ => none
 | k + 1, x3, x6, x7, x8 => if x8 < x7 then (if 0 ≤ x8 then (if x8 < (x6.length : Int) then (if x8 > 0 then (if x3.size + 1 ≤ 9223372036854775807 then (if x3.size + 1 + (rdOf ByteArray.empty x6 x8).size ≤ 9223372036854775807 then (impl_glued.l0 k ((x3 ++ (⟨#[32]⟩ : ByteArray)) ++ (rdOf ByteArray.empty x6 x8)) x6 x7 (wrap64 (x8 + 1))) else (none)) else (none)) else (if x3.size + (rdOf ByteArray.empty x6 x8).size ≤ 9223372036854775807 then (impl_glued.l0 k (x3 ++ (rdOf ByteArray.empty x6 x8)) x6 x7 (wrap64 (x8 + 1))) else (none))) else (none)) else (none)) else (some x3)
def impl_glued.f (k : Nat) (l0 : List ByteArray) : Option (ByteArray) := impl_glued.l0 k (⟨#[]⟩ : ByteArray) l0 (l0.length : Int) 0
theorem impl_glued.calls (k : Nat) (A0 : Option Addr) (c0 : Nat) (l0 : List ByteArray) (r : ByteArray) (w : World) (hr0 : Kd.C Kd.string w A0 l0.length l0) (hc0 : l0.length ≤ c0) (h : impl_glued.f k l0 = some r) :
  Calls Try.prog 83 #[.slice A0 l0.length c0] w fun e w' => e = .returned (.string r) ∧ Drawn0 w w' := by
 have HR0 := Aside0.mk hr0
 have HC0 := Aside0.mk hc0
 clear hr0 hc0
 have H : (impl_glued.l0 k (⟨#[]⟩ : ByteArray) l0 (l0.length : Int) 0) = some r := h
 clear h
 have H' := Aside0.mk H
 clear H
 go_enter Try.func83, Try.ntmps83
 go_wp2
 go_loopg [3, 8] k (fun kq v3 v8 w' => ∃ (x3_1 : ByteArray) (x8_1 : Int), v3 = .string x3_1 ∧ v8 = .int .i64 x8_1 ∧ Aside0 (impl_glued.l0 kq x3_1 l0 (l0.length : Int) x8_1 = some r) ∧ Aside0 (kq ≤ k) ∧ Drawn0 w w')
 case atStart => exact ⟨((⟨#[]⟩ : ByteArray)), (0), RS, RS, H', ⟨Nat.le_refl _⟩, DR⟩
 case round =>
  clear H'
  obtain ⟨x3_1, x8_1, rfl, rfl, HA, HK1, ⟨m1, rfl⟩⟩ := hrel
  cases gk with
  | zero => exact absurd HA.out (by simp [impl_glued.l0])
  | succ k1 =>
   have H := HA.out
   clear HA
   simp only [impl_glued.l0] at H
   by_cases c2 : x8_1 < (l0.length : Int)
   ·rw [if_pos c2] at H
    have c2b0 : decide (x8_1 < (l0.length : Int)) = true := decide_eq_true c2
    clear c2
    by_cases c3 : 0 ≤ x8_1
    ·rw [if_pos c3] at H
     have c3b0 : decide (0 ≤ x8_1) = true := decide_eq_true c3
     clear c3
     by_cases c4 : x8_1 < (l0.length : Int)
     ·rw [if_pos c4] at H
      have c4b0 : decide (x8_1 < (l0.length : Int)) = true := decide_eq_true c4
      clear c4
      by_cases c5 : x8_1 > 0
      ·rw [if_pos c5] at H
       have c5b0 : decide (0 < x8_1) = true := decide_eq_true c5
       clear c5
       by_cases c6 : x3_1.size + 1 ≤ 9223372036854775807
       ·rw [if_pos c6] at H
        have c6b0 := eq_true c6
        have c6b1 : decide (x3_1.size + 1 ≤ 9223372036854775807) = true := decide_eq_true c6
        try have c6b2 : (9223372036854775807 < x3_1.size + 1) = False := eq_false (Nat.not_lt.2 c6)
        by_cases c7 : x3_1.size + 1 + (rdOf ByteArray.empty l0 x8_1).size ≤ 9223372036854775807
        ·rw [if_pos c7] at H
         have c7b0 := eq_true c7
         have c7b1 : decide (x3_1.size + 1 + (rdOf ByteArray.empty l0 x8_1).size ≤ 9223372036854775807) = true := decide_eq_true c7
         try have c7b2 : (9223372036854775807 < x3_1.size + 1 + (rdOf ByteArray.empty l0 x8_1).size) = False := eq_false (Nat.not_lt.2 c7)
         have H' := Aside0.mk H
         clear H
         have p618 : 0 ≤ (x8_1 : Int) := of_decide_eq_true AS
         have q618 : x8_1 < (l0.length : Int) := of_decide_eq_true AS
         obtain ⟨ad618, e618, hx618_0⟩ := Kd.at_string HR0.out x8_1 p618 q618
         cases e618
         replace p618 := eq_true p618
         replace q618 := eq_true q618
         go_wp2
         go_roundg k1
         case measure => have := HK1.out; omega
         case rel => exact ⟨((x3_1 ++ (⟨#[32]⟩ : ByteArray)) ++ (rdOf ByteArray.empty l0 x8_1)), (wrap64 (x8_1 + 1)), RS, RS, H', ⟨by have := HK1.out; omega⟩, DR⟩
        ·rw [if_neg c7] at H
         exact absurd H (by simp)
       ·rw [if_neg c6] at H
        exact absurd H (by simp)
      ·rw [if_neg c5] at H
       have c5b0 : decide (0 < x8_1) = false := decide_eq_false c5
       clear c5
       by_cases c8 : x3_1.size + (rdOf ByteArray.empty l0 x8_1).size ≤ 9223372036854775807
       ·rw [if_pos c8] at H
        have c8b0 := eq_true c8
        have c8b1 : decide (x3_1.size + (rdOf ByteArray.empty l0 x8_1).size ≤ 9223372036854775807) = true := decide_eq_true c8
        try have c8b2 : (9223372036854775807 < x3_1.size + (rdOf ByteArray.empty l0 x8_1).size) = False := eq_false (Nat.not_lt.2 c8)
        have H' := Aside0.mk H
        clear H
        have p618 : 0 ≤ (x8_1 : Int) := of_decide_eq_true AS
        have q618 : x8_1 < (l0.length : Int) := of_decide_eq_true AS
        obtain ⟨ad618, e618, hx618_0⟩ := Kd.at_string HR0.out x8_1 p618 q618
        cases e618
        replace p618 := eq_true p618
        replace q618 := eq_true q618
        go_wp2
        go_roundg k1
        case measure => have := HK1.out; omega
        case rel => exact ⟨(x3_1 ++ (rdOf ByteArray.empty l0 x8_1)), (wrap64 (x8_1 + 1)), RS, RS, H', ⟨by have := HK1.out; omega⟩, DR⟩
       ·rw [if_neg c8] at H
        exact absurd H (by simp)
     ·rw [if_neg c4] at H
      exact absurd H (by simp)
    ·rw [if_neg c3] at H
     exact absurd H (by simp)
   ·rw [if_neg c2] at H
    have c2b0 : decide (x8_1 < (l0.length : Int)) = false := decide_eq_false c2
    clear c2
    obtain rfl := Option.some.inj H
    go_wp2
    go_ret
    exact ⟨by first | rfl | (simp; done) | (simp [*]; done), DR⟩
end Go.Proofs.Ytnlnifpehndacaa.G

namespace Go.Proofs.Ytnlnifpehndacaa.G
open Go.RowKit Go.Proofs.YtnlnifpehndacaaW.PrintWords Go.Proofs.YtnlnifpehndacaaW.PrintLast Go.Proofs.YtnlnifpehndacaaW.PrintMore Go.Proofs.Ytnlnifpehndacaa.Sh
attribute [local go_sem] max2_int min2_int max_two min_two max_three min_three max_four min_four
set_option linter.unusedVariables false
set_option linter.unusedSimpArgs false
open Go.Proofs.Ytnlnifpehndacaa.Mm
def impl_AsksOk.l0 : Nat → List ByteArray → List ByteArray → Int → Int → Option (Bool)
 | 0, _, _, _, _ => none
 | k + 1, x0, x5, x6, x7 => if x7 < x6 then (if 0 ≤ x7 then (if x7 < (x5.length : Int) then ((impl_ItemOk.f k (rdOf ByteArray.empty x5 x7) (⟨#[]⟩ : ByteArray) 0).bind fun t620 => (if t620 = true then (impl_AsksOk.l0 k x0 x5 x6 (wrap64 (x7 + 1))) else (some false))) else (none)) else (none)) else (some (decide ((x0.length : Int) ≤ 300)))
def impl_AsksOk.f (k : Nat) (l0 : List ByteArray) : Option (Bool) := impl_AsksOk.l0 k l0 l0 (l0.length : Int) 0
theorem impl_AsksOk.calls (k : Nat) (A0 : Option Addr) (c0 : Nat) (l0 : List ByteArray) (r : Bool) (w : World) (hr0 : Kd.C Kd.string w A0 l0.length l0) (hc0 : l0.length ≤ c0) (h : impl_AsksOk.f k l0 = some r) :
  Calls Try.prog 96 #[.slice A0 l0.length c0] w fun e w' => e = .returned (.bool r) ∧ Mem w [] w' [] := by
 have hu76 := Try.underlying76
 have HR0 := Aside0.mk hr0
 have HC0 := Aside0.mk hc0
 clear hr0 hc0
 have HM := Mem.nil w
 have H := h
 clear h
 unfold impl_AsksOk.f at H
 go_enter Try.func96, Try.ntmps96
 have H' := Aside0.mk H
 clear H
 go_wp2
 go_loopg [7] k (fun kq v7 w' => ∃ (x7_1 : Int), v7 = .int .i64 x7_1 ∧ Aside0 (impl_AsksOk.l0 kq l0 l0 (l0.length : Int) x7_1 = some r) ∧ Aside0 (kq ≤ k) ∧ Mem w [] w' [])
 case atStart => exact ⟨(0), RS, H', ⟨Nat.le_refl _⟩, (MD HM).pick []⟩
 case round =>
  clear H' HM
  obtain ⟨x7_1, rfl, HA, HK1, HM⟩ := hrel
  cases gk with
  | zero => exact absurd HA.out (by simp [impl_AsksOk.l0])
  | succ k1 =>
   have H := HA.out
   clear HA
   simp only [impl_AsksOk.l0] at H
   go_upto_if 8 with (fail)
   replace H := IT H; rcases H with ⟨c2, H⟩ | ⟨c2, H⟩
   ·have c2b0 := decide_eq_true c2
    clear c2
    first|rw [c2b0]|(simp only [i64_w, i32_w]; rw [c2b0])|skip
    replace H := GD H; obtain ⟨c3, H⟩ := H
    have c3b0 := decide_eq_true c3
    clear c3
    replace H := GD H; obtain ⟨c4, H⟩ := H
    have c4b0 := decide_eq_true c4
    clear c4
    replace H := BN H; obtain ⟨t620, A5, H⟩ := H
    have p619 : 0 ≤ (x7_1 : Int) := of_decide_eq_true AS
    have q619 : (x7_1 : Int) < (l0.length : Int) := of_decide_eq_true AS
    obtain ⟨ad619, e619, hx619_0⟩ := Kd.at_string (HM.came HR0.out) x7_1 p619 q619
    cases e619
    replace p619 := eq_true p619
    replace q619 := eq_true q619
    go_upto_if 14 with (first | ((with_reducible refine gC 93 rfl ?_); refine pC (some 13) rfl #[.agg #[.string (rdOf ByteArray.empty l0 x7_1), .string (⟨#[]⟩ : ByteArray), .int .i64 0]] rfl Try.func93 (impl_ItemOk.calls k1 (rdOf ByteArray.empty l0 x7_1) (⟨#[]⟩ : ByteArray) 0 t620 _ A5.out) ?_; rintro e w6 ⟨rfl, hR⟩; refine ⟨_, rfl, ?_⟩; replace HM := HM.call hR; clear hR))
    replace H := IB H
    rcases H with ⟨c7, H⟩ | ⟨c7, H⟩
    ·subst c7
     have H' := Aside0.mk H
     clear H
     go_wp2
     go_roundg k1
     case measure => have := HK1.out; omega
     case rel => exact ⟨(wrap64 (x7_1 + 1)), RS, H', ⟨by have := HK1.out; omega⟩, (MD HM).pick []⟩
    ·subst c7
     obtain rfl := Option.some.inj H
     go_wp2
     go_ret
     exact ⟨ER, (MD HM).pick []⟩
   ·have c2b0 := decide_eq_false c2
    clear c2
    first|rw [c2b0]|(simp only [i64_w, i32_w]; rw [c2b0])|skip
    obtain rfl := Option.some.inj H
    go_wp2
    go_ret
    exact ⟨ER, (MD HM).pick []⟩
def impl_AsksText.f (k : Nat) (l0 : List ByteArray) : Option (ByteArray) := (impl_AsksOk.f k l0).bind fun t621 => (if t621 = true then ((impl_glued.f k l0).bind fun t622 => (some t622)) else (some (⟨#[]⟩ : ByteArray)))
theorem impl_AsksText.calls (k : Nat) (A0 : Option Addr) (c0 : Nat) (l0 : List ByteArray) (r : ByteArray) (w : World) (hr0 : Kd.C Kd.string w A0 l0.length l0) (hc0 : l0.length ≤ c0) (h : impl_AsksText.f k l0 = some r) :
  Calls Try.prog 84 #[.slice A0 l0.length c0] w fun e w' => e = .returned (.string r) ∧ Mem w [] w' [] := by
 have HR0 := Aside0.mk hr0
 have HC0 := Aside0.mk hc0
 clear hr0 hc0
 have HM := Mem.nil w
 have H := h
 clear h
 unfold impl_AsksText.f at H
 go_enter Try.func84, Try.ntmps84
 replace H := BN H; obtain ⟨t621, A2, H⟩ := H
 go_upto_if 5 with (first | ((with_reducible refine gC 96 rfl ?_); refine pC (some 4) rfl #[.slice A0 l0.length c0] rfl Try.func96 (impl_AsksOk.calls k _ _ l0 t621 _ (HM.came HR0.out) HC0.out A2.out) ?_; rintro e w3 ⟨rfl, hR⟩; refine ⟨_, rfl, ?_⟩; replace HM := HM.call hR; clear hR))
 replace H := IB H
 rcases H with ⟨c4, H⟩ | ⟨c4, H⟩
 ·subst c4
  replace H := BN H; obtain ⟨t622, A5, H⟩ := H
  obtain rfl := Option.some.inj H
  go_wp2_with (first | ((with_reducible refine gC 83 rfl ?_); refine pC (some 7) rfl #[.slice A0 l0.length c0] rfl Try.func83 (impl_glued.calls k _ _ l0 t622 _ (HM.came HR0.out) HC0.out A5.out) ?_; rintro e w6 ⟨rfl, hd⟩; refine ⟨_, rfl, ?_⟩; replace HM := HM.drawn hd; clear hd))
  go_ret
  exact ⟨ER, (MD HM).pick []⟩
 ·subst c4
  obtain rfl := Option.some.inj H
  go_wp2
  go_ret
  exact ⟨ER, (MD HM).pick []⟩
def impl_CmdText.j0 : Nat → ByteArray → ByteArray → Bool → Int → Int → Int → Int → ByteArray → ByteArray → List ByteArray → Option (ByteArray)
 | 0, _, _, _, _, _, _, _, _, _, _ => none
 | k + 1, x3, x4, x22, x624000, x624001, x624002, x624003, x624004, x624005, x624006 => if x22 = true then (some (⟨#[]⟩ : ByteArray)) else (if x624000 = 1 then ((impl_glued.f k (([(⟨#[110, 101, 119]⟩ : ByteArray), x3, x4] : List ByteArray))).bind fun t630 => (some t630)) else (if x624000 = 2 then ((impl_OpText.f k x624003 x624004 x624005).bind fun t631 => (some t631)) else (if x624000 = 3 then ((impl_AsksText.f k x624006).bind fun t632 => (if t632.toList = ([] : List UInt8) then (some (⟨#[]⟩ : ByteArray)) else (if 4 + t632.size ≤ 9223372036854775807 then (some ((⟨#[97, 115, 107, 32]⟩ : ByteArray) ++ t632)) else (none)))) else (if x624000 = 4 then (some (⟨#[115, 104, 111, 119]⟩ : ByteArray)) else (if x624000 = 5 then (some (⟨#[114, 97, 116, 101]⟩ : ByteArray)) else (if x624000 = 6 then (if 4 + x3.size ≤ 9223372036854775807 then (some ((⟨#[108, 97, 98, 32]⟩ : ByteArray) ++ x3)) else (none)) else (if x624000 = 7 then (some (⟨#[115, 97, 118, 101]⟩ : ByteArray)) else (some (⟨#[]⟩ : ByteArray)))))))))
def impl_CmdText.f (k : Nat) (a0_0 : Int) (a0_1 : Int) (a0_2 : Int) (a0_3 : Int) (a0_4 : ByteArray) (a0_5 : ByteArray) (l0_6 : List ByteArray) : Option (ByteArray) := (impl_NumText.f k a0_1).bind fun t624 => ((impl_NumText.f k a0_2).bind fun t625 => ((impl_isAlone.f a0_0 a0_1 a0_2 a0_3 a0_4 a0_5 l0_6).bind fun t626 => (if t626 = true then (if t624.toList = ([] : List UInt8) then (impl_CmdText.j0 k t624 t625 true a0_0 a0_1 a0_2 a0_3 a0_4 a0_5 l0_6) else (impl_CmdText.j0 k t624 t625 (t625.toList == ([] : List UInt8)) a0_0 a0_1 a0_2 a0_3 a0_4 a0_5 l0_6)) else (impl_CmdText.j0 k t624 t625 true a0_0 a0_1 a0_2 a0_3 a0_4 a0_5 l0_6))))
def impl_CmdText.T1 : Bool × List (List Nat × List Nat) := (true, [([], []), ([0], [0]), ([1], [1]), ([], []), ([3], [3]), ([4, 2], [4]), ([2, 5, 0, 1, 2], [2]), ([5, 6, 0, 1, 2, 3, 4, 5, 6], [5])])
def impl_CmdText.B1 : List Nat := [0, 1, 3, 0, 8, 31, 63, 127]
theorem impl_CmdText.tab1 : rtab .any (opsOf Try.f43 1) = impl_CmdText.T1 := by kernel_rfl
theorem impl_CmdText.bits1 : waitsOk impl_CmdText.T1.2 impl_CmdText.B1 = true := by kernel_rfl
theorem impl_CmdText.calls (k : Nat) (a0_0 : Int) (a0_1 : Int) (a0_2 : Int) (a0_3 : Int) (a0_4 : ByteArray) (a0_5 : ByteArray) (A0_6 : Option Addr) (c0_6 : Nat) (l0_6 : List ByteArray) (r : ByteArray) (w : World) (hr0_6 : Kd.C Kd.string w A0_6 l0_6.length l0_6) (hc0_6 : l0_6.length ≤ c0_6) (h : impl_CmdText.f k a0_0 a0_1 a0_2 a0_3 a0_4 a0_5 l0_6 = some r) :
  Calls Try.prog 43 #[.agg #[.int .i64 a0_0, .int .i64 a0_1, .int .i64 a0_2, .int .i64 a0_3, .string a0_4, .string a0_5, .slice A0_6 l0_6.length c0_6]] w fun e w' => e = .returned (.string r) ∧ Mem w [] w' [] := by
 have hu35 := Try.underlying35
 have hu32 := Try.underlying32
 have HR0_6 := Aside0.mk hr0_6
 have HC0_6 := Aside0.mk hc0_6
 clear hr0_6 hc0_6
 have HM := Mem.nil w
 have H := h
 clear h
 unfold impl_CmdText.f at H
 go_enter Try.func43, Try.ntmps43
 try go_wp2_with (first | ((with_reducible refine gN 1 rfl ?_); refine pB 1 35 [.int .i64 a0_0, .int .i64 a0_1, .int .i64 a0_2, .int .i64 a0_3, .string a0_4, .string a0_5, .slice A0_6 l0_6.length c0_6] HM rfl ?_; clear HM; intro gb623 w2 HM))
 replace H := BN H; obtain ⟨t624, A3, H⟩ := H
 replace H := BN H; obtain ⟨t625, A4, H⟩ := H
 refine RGN 8 [0, 1, 2, 3, 4, 5, 6, 7] (fun a0 b a w' => a = putSel a0 b [(0, 6, .pointer (some ⟨gb623, 1, none⟩)), (1, 7, .int .i64 a0_1), (2, 8, .string t624), (3, 9, .pointer (some ⟨gb623, 2, none⟩)), (4, 10, .int .i64 a0_2), (5, 11, .string t625), (6, 3, .string t624), (7, 4, .string t625)] ∧ Mem w [] w' [box 35 gb623 [.int .i64 a0_0, .int .i64 a0_1, .int .i64 a0_2, .int .i64 a0_3, .string a0_4, .string a0_5, .slice A0_6 l0_6.length c0_6]]) impl_CmdText.tab1 impl_CmdText.bits1 ?_ ?_ ?_
 ·exact ⟨PS0' rfl _, (HM.drew).pick [0]⟩
 ·clear HM
  refine SY ?_ ?_
  ·intro b a w ha HM hb hon hoff K hK
   have e1 := PG ha 1
   exact VL (.pointer (some ⟨gb623, 1, none⟩)) (hK.out _ _ ⟨PUT ha 0 hb, HM⟩)
  refine SY ?_ ?_
  ·intro b a w ha HM hb hon hoff K hK
   obtain ⟨_,_,_,_,_,_,_,_,_,_,_,_,_,_⟩ := bk7 (HM.bx 0 rfl)
   have e6 := PE ha 0 hon
   exact VL (.int .i64 a0_1) (hK.out _ _ ⟨PUT ha 1 hb, HM⟩)
  refine SY ?_ ?_
  ·intro b a w ha HM hb hon hoff K hK
   have e7 := PE ha 1 hon
   refine ST (eC (some 8) rfl #[.int .i64 a0_1] rfl Try.func79 (impl_NumText.calls k a0_1 t624 _ A3.out) ?_ (hargs := by (simp only [List.map_toArray, List.map_cons, List.map_nil, evc, eval_of e7]) <;> rfl))
   rintro e w10 ⟨rfl, hR⟩
   refine ⟨_, rfl, ?_⟩
   replace HM := HM.call hR
   clear hR
   exact hK.out _ _ ⟨PUT ha 2 hb, (HM).pick [0]⟩
  refine SY ?_ ?_
  ·intro b a w ha HM hb hon hoff K hK
   have e1 := PG ha 1
   exact VL (.pointer (some ⟨gb623, 2, none⟩)) (hK.out _ _ ⟨PUT ha 3 hb, HM⟩)
  refine SY ?_ ?_
  ·intro b a w ha HM hb hon hoff K hK
   obtain ⟨_,_,_,_,_,_,_,_,_,_,_,_,_,_⟩ := bk7 (HM.bx 0 rfl)
   have e9 := PE ha 3 hon
   exact VL (.int .i64 a0_2) (hK.out _ _ ⟨PUT ha 4 hb, HM⟩)
  refine SY ?_ ?_
  ·intro b a w ha HM hb hon hoff K hK
   have e10 := PE ha 4 hon
   refine ST (eC (some 11) rfl #[.int .i64 a0_2] rfl Try.func79 (impl_NumText.calls k a0_2 t625 _ A4.out) ?_ (hargs := by (simp only [List.map_toArray, List.map_cons, List.map_nil, evc, eval_of e10]) <;> rfl))
   rintro e w12 ⟨rfl, hR⟩
   refine ⟨_, rfl, ?_⟩
   replace HM := HM.call hR
   clear hR
   exact hK.out _ _ ⟨PUT ha 5 hb, (HM).pick [0]⟩
  refine SY ?_ ?_
  ·intro b a w ha HM hb hon hoff K hK
   have e8 := PE ha 2 hon
   exact VL (.string t624) (hK.out _ _ ⟨PUT ha 6 hb, HM⟩)
  refine SY ?_ ?_
  ·intro b a w ha HM hb hon hoff K hK
   have e11 := PE ha 5 hon
   exact VL (.string t625) (hK.out _ _ ⟨PUT ha 7 hb, HM⟩)
  exact steps_nil
 rintro _ w13 ⟨rfl, HM⟩
 simp only [putSel, if_true, Act.put, List.setIfInBounds_toArray, List.set_cons_zero, List.set_cons_succ, gt_iff_lt, ge_iff_le]
 have HC14 := Aside0.mk H
 clear H
 go_upto_region 2 with (fail)
 go_cut [22] (fun v22 wc => ∃ (kq : Nat) (x22_13 : Bool), v22 = .bool x22_13 ∧ Aside0 (impl_CmdText.j0 kq t624 t625 x22_13 a0_0 a0_1 a0_2 a0_3 a0_4 a0_5 l0_6 = some r) ∧ Aside0 (kq ≤ k) ∧ Mem w [] wc [box 35 gb623 [.int .i64 a0_0, .int .i64 a0_1, .int .i64 a0_2, .int .i64 a0_3, .string a0_4, .string a0_5, .slice A0_6 l0_6.length c0_6]])
 case first =>
  have H := HC14.out
  clear HC14
  replace H := BN H; obtain ⟨t626, A16, H⟩ := H
  replace H := IB H
  rcases H with ⟨c18, H⟩ | ⟨c18, H⟩
  ·subst c18
   replace H := IT H; rcases H with ⟨c19, H⟩ | ⟨c19, H⟩
   ·obtain ⟨c19b0, c19b1⟩ := BE c19
    have c19b6 : (t624.toList).isEmpty = true := by first | (rw [c19]; rfl) | (cases h_ : t624.toList with | nil => exact absurd h_ c19 | cons _ _ => rfl)
    clear c19
    have H' := Aside0.mk H
    clear H
    obtain ⟨_,_,_,_,_,_,_,_,_,_,_,_,_,_⟩ := bk7 (HM.bx 0 rfl)
    go_wp2_with (first | ((with_reducible refine gC 82 rfl ?_); refine pC (some 13) rfl #[.agg #[.int .i64 a0_0, .int .i64 a0_1, .int .i64 a0_2, .int .i64 a0_3, .string a0_4, .string a0_5, .slice A0_6 l0_6.length c0_6]] rfl Try.func82 (impl_isAlone.calls a0_0 a0_1 a0_2 a0_3 a0_4 a0_5 _ _ l0_6 true _ (HM.came HR0_6.out) HC0_6.out A16.out) ?_; rintro e w17 ⟨rfl, hR⟩; refine ⟨_, rfl, ?_⟩; replace HM := HM.call hR; clear hR))
    go_meet
    case rel => exact ⟨_, (true), RS, H', ⟨by first | omega | exact Nat.le_refl _⟩, (MD HM).pick [0]⟩
   ·obtain ⟨c19b0, c19b1⟩ := BF c19
    have c19b6 : (t624.toList).isEmpty = false := by first | (rw [c19]; rfl) | (cases h_ : t624.toList with | nil => exact absurd h_ c19 | cons _ _ => rfl)
    have H' := Aside0.mk H
    clear H
    obtain ⟨_,_,_,_,_,_,_,_,_,_,_,_,_,_⟩ := bk7 (HM.bx 0 rfl)
    go_wp2_with (first | ((with_reducible refine gC 82 rfl ?_); refine pC (some 13) rfl #[.agg #[.int .i64 a0_0, .int .i64 a0_1, .int .i64 a0_2, .int .i64 a0_3, .string a0_4, .string a0_5, .slice A0_6 l0_6.length c0_6]] rfl Try.func82 (impl_isAlone.calls a0_0 a0_1 a0_2 a0_3 a0_4 a0_5 _ _ l0_6 true _ (HM.came HR0_6.out) HC0_6.out A16.out) ?_; rintro e w17 ⟨rfl, hR⟩; refine ⟨_, rfl, ?_⟩; replace HM := HM.call hR; clear hR))
    go_meet
    case rel => exact ⟨_, ((t625.toList == ([] : List UInt8))), (by first | rfl | (generalize t625 = y_; cases y_ with | mk d_ => cases d_ with | mk l_ => cases l_ <;> rfl) | (simp; done) | (generalize t625.toList = y_; cases y_ <;> simp)), H', ⟨by first | omega | exact Nat.le_refl _⟩, (MD HM).pick [0]⟩
  ·subst c18
   have H' := Aside0.mk H
   clear H
   obtain ⟨_,_,_,_,_,_,_,_,_,_,_,_,_,_⟩ := bk7 (HM.bx 0 rfl)
   go_wp2_with (first | ((with_reducible refine gC 82 rfl ?_); refine pC (some 13) rfl #[.agg #[.int .i64 a0_0, .int .i64 a0_1, .int .i64 a0_2, .int .i64 a0_3, .string a0_4, .string a0_5, .slice A0_6 l0_6.length c0_6]] rfl Try.func82 (impl_isAlone.calls a0_0 a0_1 a0_2 a0_3 a0_4 a0_5 _ _ l0_6 false _ (HM.came HR0_6.out) HC0_6.out A16.out) ?_; rintro e w17 ⟨rfl, hR⟩; refine ⟨_, rfl, ?_⟩; replace HM := HM.call hR; clear hR))
   go_meet
   case rel => exact ⟨_, (true), RS, H', ⟨by first | omega | exact Nat.le_refl _⟩, (MD HM).pick [0]⟩
 case rest =>
  clear HC14 HM
  obtain ⟨kq, x22_13, rfl, HA, HJ13, HM⟩ := hcut
  cases kq with
  | zero => exact absurd HA.out (by simp [impl_CmdText.j0])
  | succ kj13 =>
   have H := HA.out
   clear HA
   simp only [impl_CmdText.j0] at H
   go_upto_if 22 with (fail)
   replace H := IB H
   rcases H with ⟨c20, H⟩ | ⟨c20, H⟩
   ·subst c20
    obtain rfl := Option.some.inj H
    go_wp2
    go_ret
    exact ⟨ER, (MD HM).pick []⟩
   ·subst c20
    obtain ⟨_,_,_,_,_,_,_,_,_,_,_,_,_,_⟩ := bk7 (HM.bx 0 rfl)
    go_upto_if 25 with (fail)
    replace H := IT H; rcases H with ⟨c22, H⟩ | ⟨c22, H⟩
    ·obtain ⟨c22b0, c22b1⟩ := BE c22
     clear c22
     first|rw [c22b0]|(simp only [i64_w, i32_w]; rw [c22b0])|skip
     replace H := BN H; obtain ⟨t630, A24, H⟩ := H
     obtain rfl := Option.some.inj H
     go_wp2_with (first | ((with_reducible refine gN 29 rfl ?_); refine pL 29 Kd.string 9 ([(⟨#[110, 101, 119]⟩ : ByteArray), t624, t625] : List ByteArray) [.string (⟨#[110, 101, 119]⟩ : ByteArray), .string t624, .string t625] (Reps.one (show Kd.M Kd.string _ _ _ (⟨#[110, 101, 119]⟩ : ByteArray) [.string (⟨#[110, 101, 119]⟩ : ByteArray)] from rfl) (Reps.one (show Kd.M Kd.string _ _ _ t624 [.string t624] from rfl) (Reps.one (show Kd.M Kd.string _ _ _ t625 [.string t625] from rfl) (Reps.none _ _)))) HM rfl ?_; clear HM; intro v628 w23 HM; obtain ⟨Xo26, ko26, rfl⟩ := HM.rdR 1 rfl) | ((with_reducible refine gC 83 rfl ?_); refine pC (some 30) rfl #[.slice Xo26 (([(⟨#[110, 101, 119]⟩ : ByteArray), t624, t625] : List ByteArray)).length ko26] rfl Try.func83 (impl_glued.calls kj13 _ _ (([(⟨#[110, 101, 119]⟩ : ByteArray), t624, t625] : List ByteArray)) t630 _ (HM.CR 1 rfl).2.2 (HM.CR 1 rfl).2.1 A24.out) ?_; rintro e w25 ⟨rfl, hd⟩; refine ⟨_, rfl, ?_⟩; replace HM := HM.drawn hd; clear hd))
     go_ret
     exact ⟨ER, (MD HM).pick []⟩
    ·obtain ⟨c22b0, c22b1⟩ := BF c22
     first|rw [c22b0]|(simp only [i64_w, i32_w]; rw [c22b0])|skip
     go_upto_if 31 with (fail)
     replace H := IT H; rcases H with ⟨c27, H⟩ | ⟨c27, H⟩
     ·obtain ⟨c27b0, c27b1⟩ := BE c27
      clear c27
      first|rw [c27b0]|(simp only [i64_w, i32_w]; rw [c27b0])|skip
      replace H := BN H; obtain ⟨t631, A28, H⟩ := H
      obtain rfl := Option.some.inj H
      go_wp2_with (first | ((with_reducible refine gC 81 rfl ?_); refine pC (some 35) rfl #[.agg #[.int .i64 a0_3, .string a0_4, .string a0_5]] rfl Try.func81 (impl_OpText.calls kj13 a0_3 a0_4 a0_5 t631 _ A28.out) ?_; rintro e w29 ⟨rfl, hR⟩; refine ⟨_, rfl, ?_⟩; replace HM := HM.call hR; clear hR))
      go_ret
      exact ⟨ER, (MD HM).pick []⟩
     ·obtain ⟨c27b0, c27b1⟩ := BF c27
      first|rw [c27b0]|(simp only [i64_w, i32_w]; rw [c27b0])|skip
      go_upto_if 36 with (fail)
      replace H := IT H; rcases H with ⟨c30, H⟩ | ⟨c30, H⟩
      ·obtain ⟨c30b0, c30b1⟩ := BE c30
       clear c30
       first|rw [c30b0]|(simp only [i64_w, i32_w]; rw [c30b0])|skip
       replace H := BN H; obtain ⟨t632, A31, H⟩ := H
       go_upto_if 42 with (first | ((with_reducible refine gC 84 rfl ?_); refine pC (some 40) rfl #[.slice A0_6 l0_6.length c0_6] rfl Try.func84 (impl_AsksText.calls kj13 _ _ l0_6 t632 _ (HM.came HR0_6.out) HC0_6.out A31.out) ?_; rintro e w32 ⟨rfl, hR⟩; refine ⟨_, rfl, ?_⟩; replace HM := HM.call hR; clear hR))
       replace H := IT H; rcases H with ⟨c33, H⟩ | ⟨c33, H⟩
       ·obtain ⟨c33b0, c33b1⟩ := BE c33
        have c33b6 : (t632.toList).isEmpty = true := by first | (rw [c33]; rfl) | (cases h_ : t632.toList with | nil => exact absurd h_ c33 | cons _ _ => rfl)
        clear c33
        first|rw [c33b0]|rw [c33b1]|rw [c33b6]|(simp only [bne, c33b6, Bool.not_true, Bool.not_false])|(simp only [i64_w, i32_w]; rw [c33b0])|skip
        obtain rfl := Option.some.inj H
        go_wp2
        go_ret
        exact ⟨ER, (MD HM).pick []⟩
       ·obtain ⟨c33b0, c33b1⟩ := BF c33
        have c33b6 : (t632.toList).isEmpty = false := by first | (rw [c33]; rfl) | (cases h_ : t632.toList with | nil => exact absurd h_ c33 | cons _ _ => rfl)
        first|rw [c33b0]|rw [c33b1]|rw [c33b6]|(simp only [bne, c33b6, Bool.not_true, Bool.not_false])|(simp only [i64_w, i32_w]; rw [c33b0])|skip
        replace H := GD H; obtain ⟨c34, H⟩ := H
        have c34b0 := eq_true c34
        have c34b1 : decide (4 + t632.size ≤ 9223372036854775807) = true := decide_eq_true c34
        try have c34b2 : (9223372036854775807 < 4 + t632.size) = False := eq_false (Nat.not_lt.2 c34)
        obtain rfl := Option.some.inj H
        go_wp2
        go_ret
        exact ⟨ER, (MD HM).pick []⟩
      ·obtain ⟨c30b0, c30b1⟩ := BF c30
       first|rw [c30b0]|(simp only [i64_w, i32_w]; rw [c30b0])|skip
       go_upto_if 45 with (fail)
       replace H := IT H; rcases H with ⟨c35, H⟩ | ⟨c35, H⟩
       ·obtain ⟨c35b0, c35b1⟩ := BE c35
        clear c35
        first|rw [c35b0]|(simp only [i64_w, i32_w]; rw [c35b0])|skip
        obtain rfl := Option.some.inj H
        go_wp2
        go_ret
        exact ⟨ER, (MD HM).pick []⟩
       ·obtain ⟨c35b0, c35b1⟩ := BF c35
        first|rw [c35b0]|(simp only [i64_w, i32_w]; rw [c35b0])|skip
        go_upto_if 47 with (fail)
        replace H := IT H; rcases H with ⟨c36, H⟩ | ⟨c36, H⟩
        ·obtain ⟨c36b0, c36b1⟩ := BE c36
         clear c36
         first|rw [c36b0]|(simp only [i64_w, i32_w]; rw [c36b0])|skip
         obtain rfl := Option.some.inj H
         go_wp2
         go_ret
         exact ⟨ER, (MD HM).pick []⟩
        ·obtain ⟨c36b0, c36b1⟩ := BF c36
         first|rw [c36b0]|(simp only [i64_w, i32_w]; rw [c36b0])|skip
         go_upto_if 49 with (fail)
         replace H := IT H; rcases H with ⟨c37, H⟩ | ⟨c37, H⟩
         ·obtain ⟨c37b0, c37b1⟩ := BE c37
          clear c37
          first|rw [c37b0]|(simp only [i64_w, i32_w]; rw [c37b0])|skip
          replace H := GD H; obtain ⟨c38, H⟩ := H
          have c38b0 := eq_true c38
          have c38b1 : decide (4 + t624.size ≤ 9223372036854775807) = true := decide_eq_true c38
          try have c38b2 : (9223372036854775807 < 4 + t624.size) = False := eq_false (Nat.not_lt.2 c38)
          obtain rfl := Option.some.inj H
          go_wp2
          go_ret
          exact ⟨ER, (MD HM).pick []⟩
         ·obtain ⟨c37b0, c37b1⟩ := BF c37
          first|rw [c37b0]|(simp only [i64_w, i32_w]; rw [c37b0])|skip
          go_upto_if 53 with (fail)
          replace H := IT H; rcases H with ⟨c39, H⟩ | ⟨c39, H⟩
          ·obtain ⟨c39b0, c39b1⟩ := BE c39
           clear c39
           first|rw [c39b0]|(simp only [i64_w, i32_w]; rw [c39b0])|skip
           obtain rfl := Option.some.inj H
           go_wp2
           go_ret
           exact ⟨ER, (MD HM).pick []⟩
          ·obtain ⟨c39b0, c39b1⟩ := BF c39
           first|rw [c39b0]|(simp only [i64_w, i32_w]; rw [c39b0])|skip
           obtain rfl := Option.some.inj H
           go_wp2
           go_ret
           exact ⟨ER, (MD HM).pick []⟩
def impl_TextCmd.j0 : Nat → ByteArray → Int → Int → Int → Int → ByteArray → ByteArray → List ByteArray → Option (Int × Int × Int × Int × ByteArray × ByteArray × List ByteArray × Bool)
 | 0, _, _, _, _, _, _, _, _ => none
 | k + 1, x0, x638000, x638001, x638002, x638003, x638004, x638005, x638006 => if x0.toList = ([] : List UInt8) then (some (0, 0, 0, 0, (⟨#[]⟩ : ByteArray), (⟨#[]⟩ : ByteArray), ([] : List ByteArray), false)) else ((impl_CmdText.f k x638000 x638001 x638002 x638003 x638004 x638005 x638006).bind fun t656 => (if t656.toList = x0.toList then (some (x638000, x638001, x638002, x638003, x638004, x638005, x638006, true)) else (some (0, 0, 0, 0, (⟨#[]⟩ : ByteArray), (⟨#[]⟩ : ByteArray), ([] : List ByteArray), false))))
def impl_TextCmd.f (k : Nat) (a0 : ByteArray) : Option (Int × Int × Int × Int × ByteArray × ByteArray × List ByteArray × Bool) := (impl_Cut.f k a0).bind fun t634 => (if 0 < (t634.length : Int) then (if (rdOf ByteArray.empty t634 0).toList = ([110, 101, 119] : List UInt8) then (if (t634.length : Int) = 3 then (if 1 < (t634.length : Int) then ((impl_TextNum.f k (rdOf ByteArray.empty t634 1)).bind fun bt640 => (if 2 < (t634.length : Int) then ((impl_TextNum.f k (rdOf ByteArray.empty t634 2)).bind fun bt643 => (impl_TextCmd.j0 k a0 1 bt640.1 bt643.1 0 (⟨#[]⟩ : ByteArray) (⟨#[]⟩ : ByteArray) ([] : List ByteArray))) else (none))) else (none)) else (impl_TextCmd.j0 k a0 1 0 0 0 (⟨#[]⟩ : ByteArray) (⟨#[]⟩ : ByteArray) ([] : List ByteArray))) else (if (rdOf ByteArray.empty t634 0).toList = ([97, 115, 107] : List UInt8) then (if 1 ≤ (t634.length : Int) then (impl_TextCmd.j0 k a0 3 0 0 0 (⟨#[]⟩ : ByteArray) (⟨#[]⟩ : ByteArray) (t634.drop (1 : Int).toNat)) else (none)) else (if (rdOf ByteArray.empty t634 0).toList = ([115, 104, 111, 119] : List UInt8) then (impl_TextCmd.j0 k a0 4 0 0 0 (⟨#[]⟩ : ByteArray) (⟨#[]⟩ : ByteArray) ([] : List ByteArray)) else (if (rdOf ByteArray.empty t634 0).toList = ([114, 97, 116, 101] : List UInt8) then (impl_TextCmd.j0 k a0 5 0 0 0 (⟨#[]⟩ : ByteArray) (⟨#[]⟩ : ByteArray) ([] : List ByteArray)) else (if (rdOf ByteArray.empty t634 0).toList = ([108, 97, 98] : List UInt8) then (if (t634.length : Int) = 2 then (if 1 < (t634.length : Int) then ((impl_TextNum.f k (rdOf ByteArray.empty t634 1)).bind fun bt649 => (impl_TextCmd.j0 k a0 6 bt649.1 0 0 (⟨#[]⟩ : ByteArray) (⟨#[]⟩ : ByteArray) ([] : List ByteArray))) else (none)) else (impl_TextCmd.j0 k a0 6 0 0 0 (⟨#[]⟩ : ByteArray) (⟨#[]⟩ : ByteArray) ([] : List ByteArray))) else (if (rdOf ByteArray.empty t634 0).toList = ([115, 97, 118, 101] : List UInt8) then (impl_TextCmd.j0 k a0 7 0 0 0 (⟨#[]⟩ : ByteArray) (⟨#[]⟩ : ByteArray) ([] : List ByteArray)) else ((impl_TextOp.f k a0).bind fun bt651 => (impl_TextCmd.j0 k a0 2 0 0 bt651.1 bt651.2.1 bt651.2.2.1 ([] : List ByteArray))))))))) else (none))
theorem impl_TextCmd.calls (k : Nat) (a0 : ByteArray) (r1 : Int) (r2 : Int) (r3 : Int) (r4 : Int) (r5 : ByteArray) (r6 : ByteArray) (r7 : List ByteArray) (r8 : Bool) (w : World)  (h : impl_TextCmd.f k a0 = some (r1, r2, r3, r4, r5, r6, r7, r8)) :
  Calls Try.prog 12 #[.string a0] w fun e w' => ∃ v6_ : Value, e = .returned (.tuple #[.agg #[.int .i64 r1, .int .i64 r2, .int .i64 r3, .int .i64 r4, .string r5, .string r6, v6_], .bool r8]) ∧ Mem w [] w' [row Kd.string 9 v6_ r7] := by
 have hu35 := Try.underlying35
 have hu32 := Try.underlying32
 have HM := Mem.nil w
 have H := h
 clear h
 unfold impl_TextCmd.f at H
 go_enter Try.func12, Try.ntmps12
 replace H := BN H; obtain ⟨t634, A3, H⟩ := H
 replace H := GD H; obtain ⟨c7, H⟩ := H
 replace c7 : 0 < (t634.length : Int) := c7
 have c7b0 := decide_eq_true c7
 have c7b1 : decide (0 < t634.length) = true := decide_eq_true (by omega)
 have c7b9 : decide (0 < t634.length) = true := decide_eq_true (by omega)
 clear c7
 have HC9 := Aside0.mk H
 clear H
 go_upto_block 0 with (first | ((with_reducible refine gN 2 rfl ?_); refine pB 2 35 [.int .i64 0, .int .i64 0, .int .i64 0, .int .i64 0, .string (⟨#[]⟩ : ByteArray), .string (⟨#[]⟩ : ByteArray), .slice none 0 0] HM rfl ?_; clear HM; intro gb633 w2 HM) | ((with_reducible refine gC 40 rfl ?_); refine pC (some 9) rfl #[.string a0] rfl Try.func40 (impl_Cut.calls k a0 t634 _ A3.out) ?_; rintro e w4 ⟨v635, rfl, hR⟩; refine ⟨_, rfl, ?_⟩; replace HM := HM.call hR; clear hR) | ((with_reducible refine gN 5 rfl ?_); refine pB 5 35 [.int .i64 0, .int .i64 0, .int .i64 0, .int .i64 0, .string (⟨#[]⟩ : ByteArray), .string (⟨#[]⟩ : ByteArray), .slice none 0 0] HM rfl ?_; clear HM; intro gb637 w5 HM) | ((with_reducible refine gS 5 rfl ?_); refine pS 2 5 0 [.int .i64 0, .int .i64 0, .int .i64 0, .int .i64 0, .string (⟨#[]⟩ : ByteArray), .string (⟨#[]⟩ : ByteArray), .slice none 0 0] HM rfl rfl ?_; clear HM; intro w6 HM; obtain ⟨Xo8, ko8, rfl⟩ := HM.rdR 1 rfl; have p638 : 0 ≤ (0 : Int) := (by omega); have q638 : (0 : Int) < (t634.length : Int) := of_decide_eq_true AS; obtain ⟨ad638, e638, hx638_0⟩ := Kd.at_string (HM.CR 1 rfl).2.2 0 p638 q638; cases e638; have qi638 : (0 < t634.length) = True := eq_true (by omega); (try rw [show ((0 : Int)).toNat = 0 from rfl] at hx638_0); (try rw [Addr.add_zero'] at hx638_0); replace p638 := eq_true p638; replace q638 := eq_true q638))
 replace HM := nzM HM
 try simp only [Act.put, List.setIfInBounds_toArray, List.set_cons_zero, List.set_cons_succ]
 go_cut [] (fun wc => ∃ (kq : Nat) (x638000_8 : Int) (x638001_8 : Int) (x638002_8 : Int) (x638003_8 : Int) (x638004_8 : ByteArray) (x638005_8 : ByteArray) (x638006_8 : List ByteArray) (u638006 : Value), Aside0 (impl_TextCmd.j0 kq a0 x638000_8 x638001_8 x638002_8 x638003_8 x638004_8 x638005_8 x638006_8 = some (r1, r2, r3, r4, r5, r6, r7, r8)) ∧ Aside0 (kq ≤ k) ∧ Mem w [] wc [row Kd.string 9 u638006 x638006_8, box 35 gb633 [.int .i64 0, .int .i64 0, .int .i64 0, .int .i64 0, .string (⟨#[]⟩ : ByteArray), .string (⟨#[]⟩ : ByteArray), .slice none 0 0], box 35 gb637 [.int .i64 x638000_8, .int .i64 x638001_8, .int .i64 x638002_8, .int .i64 x638003_8, .string x638004_8, .string x638005_8, u638006]])
 case first =>
  have H := HC9.out
  clear HC9
  go_upto_if 21 with (fail)
  replace H := IT H; rcases H with ⟨c10, H⟩ | ⟨c10, H⟩
  ·obtain ⟨c10b0, c10b1⟩ := BE c10
   clear c10
   first|rw [c10b0]|(simp only [i64_w, i32_w]; rw [c10b0])|skip
   go_upto_if 26 with (first | ((with_reducible refine gS 23 rfl ?_); refine pS 2 23 0 [.int .i64 1] HM rfl rfl ?_; clear HM; intro w11 HM))
   replace H := IT H; rcases H with ⟨c12, H⟩ | ⟨c12, H⟩
   ·obtain ⟨c12b0, c12b1⟩ := BE c12
    clear c12
    first|rw [c12b0]|(simp only [i64_w, i32_w]; rw [c12b0])|skip
    replace H := GD H; obtain ⟨c13, H⟩ := H
    replace c13 : 1 < (t634.length : Int) := c13
    have c13b0 := decide_eq_true c13
    have c13b1 : decide (1 < t634.length) = true := decide_eq_true (by omega)
    have c13b9 : decide (1 < t634.length) = true := decide_eq_true (by omega)
    clear c13
    replace H := BN H; obtain ⟨⟨t640, t641⟩, A14, H⟩ := H
    replace H := GD H; obtain ⟨c17, H⟩ := H
    replace c17 : 2 < (t634.length : Int) := c17
    have c17b0 : decide (2 < (t634.length : Int)) = true := decide_eq_true c17
    have c17b1 : decide (2 < t634.length) = true := decide_eq_true (by omega)
    have c17b9 : decide (2 < t634.length) = true := decide_eq_true (by omega)
    clear c17
    replace H := BN H; obtain ⟨⟨t643, t644⟩, A18, H⟩ := H
    have H' := Aside0.mk H
    clear H
    have p639 : 0 ≤ (1 : Int) := (by omega)
    have q639 : (1 : Int) < (t634.length : Int) := of_decide_eq_true AS
    obtain ⟨ad639, e639, hx639_0⟩ := Kd.at_string (HM.CR 1 rfl).2.2 1 p639 q639
    obtain rfl := Option.some.inj e639
    have qi639 : (1 < t634.length) = True := eq_true (by omega)
    (try rw [show ((1 : Int)).toNat = 1 from rfl] at hx639_0)
    (try simp only [Nat.reduceMul, Nat.reduceEqDiff, Go.Addr.add, ↓reduceIte] at hx639_0)
    replace p639 := eq_true p639
    replace q639 := eq_true q639
    go_wp2_with (first | ((with_reducible refine gC 41 rfl ?_); refine pC (some 31) rfl #[.string (rdOf ByteArray.empty t634 1)] rfl Try.func41 (impl_TextNum.calls k (rdOf ByteArray.empty t634 1) t640 t641 _ A14.out) ?_; rintro e w15 ⟨rfl, hR⟩; refine ⟨_, rfl, ?_⟩; replace HM := HM.call hR; clear hR) | ((with_reducible refine gS 34 rfl ?_); refine pS 2 34 1 [.int .i64 t640] HM rfl rfl ?_; clear HM; intro w16 HM; have p642 : 0 ≤ (2 : Int) := (by omega); have q642 : (2 : Int) < (t634.length : Int) := of_decide_eq_true AS; obtain ⟨ad642, e642, hx642_0⟩ := Kd.at_string (HM.CR 1 rfl).2.2 2 p642 q642; obtain rfl := Option.some.inj e642; have qi642 : (2 < t634.length) = True := eq_true (by omega); (try rw [show ((2 : Int)).toNat = 2 from rfl] at hx642_0); (try simp only [Nat.reduceMul, Nat.reduceEqDiff, Go.Addr.add, ↓reduceIte] at hx642_0); replace p642 := eq_true p642; replace q642 := eq_true q642) | ((with_reducible refine gC 41 rfl ?_); refine pC (some 39) rfl #[.string (rdOf ByteArray.empty t634 2)] rfl Try.func41 (impl_TextNum.calls k (rdOf ByteArray.empty t634 2) t643 t644 _ A18.out) ?_; rintro e w19 ⟨rfl, hR⟩; refine ⟨_, rfl, ?_⟩; replace HM := HM.call hR; clear hR) | ((with_reducible refine gS 42 rfl ?_); refine pS 2 42 2 [.int .i64 t643] HM rfl rfl ?_; clear HM; intro w20 HM; replace HM := HM.nl Kd.string 9; replace HM := HM.toQ 3 rfl))
    go_meet
    case rel => exact ⟨_, (1), (t640), (t643), (0), ((⟨#[]⟩ : ByteArray)), ((⟨#[]⟩ : ByteArray)), (([] : List ByteArray)), (.slice none 0 0), H', ⟨by first | omega | exact Nat.le_refl _⟩, (MD HM).pick [3, 0, 2]⟩
   ·have c12b0 : ((t634.length : Int) == 3) = false := beq_eq_false_iff_ne.mpr c12
    have c12b1 : ((t634.length : Int) != 3) = true := bne_iff_ne.mpr c12
    first|rw [c12b0]|(simp only [i64_w, i32_w]; rw [c12b0])|skip
    have H' := Aside0.mk H
    clear H
    replace HM := HM.nl Kd.string 9
    replace HM := HM.toQ 3 rfl
    go_wp2
    go_meet
    case rel => exact ⟨_, (1), (0), (0), (0), ((⟨#[]⟩ : ByteArray)), ((⟨#[]⟩ : ByteArray)), (([] : List ByteArray)), (.slice none 0 0), H', ⟨by first | omega | exact Nat.le_refl _⟩, (MD HM).pick [3, 0, 2]⟩
  ·have c10b0 : ((rdOf ByteArray.empty t634 0).toList == ([110, 101, 119] : List UInt8)) = false := beq_eq_false_iff_ne.mpr c10
   have c10b1 : ((rdOf ByteArray.empty t634 0).toList != ([110, 101, 119] : List UInt8)) = true := bne_iff_ne.mpr c10
   first|rw [c10b0]|(simp only [i64_w, i32_w]; rw [c10b0])|skip
   go_upto_if 43 with (fail)
   replace H := IT H; rcases H with ⟨c21, H⟩ | ⟨c21, H⟩
   ·have c21b0 : ((rdOf ByteArray.empty t634 0).toList == ([97, 115, 107] : List UInt8)) = true := beq_iff_eq.mpr c21
    have c21b1 : ((rdOf ByteArray.empty t634 0).toList != ([97, 115, 107] : List UInt8)) = false := bne_eq_false_iff_eq.mpr c21
    clear c21
    first|rw [c21b0]|(simp only [i64_w, i32_w]; rw [c21b0])|skip
    replace H := GD H; obtain ⟨c22, H⟩ := H
    have c22b0 := eq_true c22
    have c22b1 : decide (1 ≤ (t634.length : Int)) = true := decide_eq_true c22
    clear c22
    have H' := Aside0.mk H
    clear H
    go_wp2_with (first | ((with_reducible refine gate_sl (t := 33) rfl ?_); refine pD 1 33 9 Kd.string _ _ 1 t634 (some ad638) ko8 HM rfl Try.underlying33 info9 rfl (fun _ _ h => Kd.Q_of_R h) (by omega) (by have h_ : (1 : Int) ≤ ((t634.length : Int) : Int) := of_decide_eq_true AS; first | exact h_ | (have e_ := (HM.CR 1 rfl).1; omega)) ?_; clear HM; intro v646 HM; obtain ⟨Xo23, ko23, rfl⟩ := HM.rd 1 rfl) | ((with_reducible refine gS 5 rfl ?_); refine pS 2 5 0 [.int .i64 3, .int .i64 0, .int .i64 0, .int .i64 0, .string (⟨#[]⟩ : ByteArray), .string (⟨#[]⟩ : ByteArray), .slice Xo23 (t634.drop (1 : Int).toNat).length ko23] HM rfl rfl ?_; clear HM; intro w24 HM))
    go_meet
    case rel => exact ⟨_, (3), (0), (0), (0), ((⟨#[]⟩ : ByteArray)), ((⟨#[]⟩ : ByteArray)), ((t634.drop (1 : Int).toNat)), (.slice Xo23 (t634.drop (1 : Int).toNat).length ko23), H', ⟨by first | omega | exact Nat.le_refl _⟩, (MD HM).pick [1, 0, 2]⟩
   ·have c21b0 : ((rdOf ByteArray.empty t634 0).toList == ([97, 115, 107] : List UInt8)) = false := beq_eq_false_iff_ne.mpr c21
    have c21b1 : ((rdOf ByteArray.empty t634 0).toList != ([97, 115, 107] : List UInt8)) = true := bne_iff_ne.mpr c21
    first|rw [c21b0]|(simp only [i64_w, i32_w]; rw [c21b0])|skip
    go_upto_if 48 with (fail)
    replace H := IT H; rcases H with ⟨c25, H⟩ | ⟨c25, H⟩
    ·have c25b0 : ((rdOf ByteArray.empty t634 0).toList == ([115, 104, 111, 119] : List UInt8)) = true := beq_iff_eq.mpr c25
     have c25b1 : ((rdOf ByteArray.empty t634 0).toList != ([115, 104, 111, 119] : List UInt8)) = false := bne_eq_false_iff_eq.mpr c25
     clear c25
     first|rw [c25b0]|(simp only [i64_w, i32_w]; rw [c25b0])|skip
     have H' := Aside0.mk H
     clear H
     go_wp2_with (first | ((with_reducible refine gS 50 rfl ?_); refine pS 2 50 0 [.int .i64 4] HM rfl rfl ?_; clear HM; intro w26 HM; replace HM := HM.nl Kd.string 9; replace HM := HM.toQ 3 rfl))
     go_meet
     case rel => exact ⟨_, (4), (0), (0), (0), ((⟨#[]⟩ : ByteArray)), ((⟨#[]⟩ : ByteArray)), (([] : List ByteArray)), (.slice none 0 0), H', ⟨by first | omega | exact Nat.le_refl _⟩, (MD HM).pick [3, 0, 2]⟩
    ·have c25b0 : ((rdOf ByteArray.empty t634 0).toList == ([115, 104, 111, 119] : List UInt8)) = false := beq_eq_false_iff_ne.mpr c25
     have c25b1 : ((rdOf ByteArray.empty t634 0).toList != ([115, 104, 111, 119] : List UInt8)) = true := bne_iff_ne.mpr c25
     first|rw [c25b0]|(simp only [i64_w, i32_w]; rw [c25b0])|skip
     go_upto_if 51 with (fail)
     replace H := IT H; rcases H with ⟨c27, H⟩ | ⟨c27, H⟩
     ·have c27b0 : ((rdOf ByteArray.empty t634 0).toList == ([114, 97, 116, 101] : List UInt8)) = true := beq_iff_eq.mpr c27
      have c27b1 : ((rdOf ByteArray.empty t634 0).toList != ([114, 97, 116, 101] : List UInt8)) = false := bne_eq_false_iff_eq.mpr c27
      clear c27
      first|rw [c27b0]|(simp only [i64_w, i32_w]; rw [c27b0])|skip
      have H' := Aside0.mk H
      clear H
      go_wp2_with (first | ((with_reducible refine gS 53 rfl ?_); refine pS 2 53 0 [.int .i64 5] HM rfl rfl ?_; clear HM; intro w28 HM; replace HM := HM.nl Kd.string 9; replace HM := HM.toQ 3 rfl))
      go_meet
      case rel => exact ⟨_, (5), (0), (0), (0), ((⟨#[]⟩ : ByteArray)), ((⟨#[]⟩ : ByteArray)), (([] : List ByteArray)), (.slice none 0 0), H', ⟨by first | omega | exact Nat.le_refl _⟩, (MD HM).pick [3, 0, 2]⟩
     ·have c27b0 : ((rdOf ByteArray.empty t634 0).toList == ([114, 97, 116, 101] : List UInt8)) = false := beq_eq_false_iff_ne.mpr c27
      have c27b1 : ((rdOf ByteArray.empty t634 0).toList != ([114, 97, 116, 101] : List UInt8)) = true := bne_iff_ne.mpr c27
      first|rw [c27b0]|(simp only [i64_w, i32_w]; rw [c27b0])|skip
      go_upto_if 54 with (fail)
      replace H := IT H; rcases H with ⟨c29, H⟩ | ⟨c29, H⟩
      ·have c29b0 : ((rdOf ByteArray.empty t634 0).toList == ([108, 97, 98] : List UInt8)) = true := beq_iff_eq.mpr c29
       have c29b1 : ((rdOf ByteArray.empty t634 0).toList != ([108, 97, 98] : List UInt8)) = false := bne_eq_false_iff_eq.mpr c29
       clear c29
       first|rw [c29b0]|(simp only [i64_w, i32_w]; rw [c29b0])|skip
       go_upto_if 59 with (first | ((with_reducible refine gS 56 rfl ?_); refine pS 2 56 0 [.int .i64 6] HM rfl rfl ?_; clear HM; intro w30 HM))
       replace H := IT H; rcases H with ⟨c31, H⟩ | ⟨c31, H⟩
       ·have c31b0 : ((t634.length : Int) == 2) = true := beq_iff_eq.mpr c31
        have c31b1 : ((t634.length : Int) != 2) = false := bne_eq_false_iff_eq.mpr c31
        clear c31
        first|rw [c31b0]|(simp only [i64_w, i32_w]; rw [c31b0])|skip
        replace H := GD H; obtain ⟨c32, H⟩ := H
        replace c32 : 1 < (t634.length : Int) := c32
        have c32b0 : decide (1 < (t634.length : Int)) = true := decide_eq_true c32
        have c32b1 : decide (1 < t634.length) = true := decide_eq_true (by omega)
        have c32b9 : decide (1 < t634.length) = true := decide_eq_true (by omega)
        clear c32
        replace H := BN H; obtain ⟨⟨t649, t650⟩, A33, H⟩ := H
        have H' := Aside0.mk H
        clear H
        have p648 : 0 ≤ (1 : Int) := (by omega)
        have q648 : (1 : Int) < (t634.length : Int) := of_decide_eq_true AS
        obtain ⟨ad648, e648, hx648_0⟩ := Kd.at_string (HM.CR 1 rfl).2.2 1 p648 q648
        obtain rfl := Option.some.inj e648
        have qi648 : (1 < t634.length) = True := eq_true (by omega)
        (try rw [show ((1 : Int)).toNat = 1 from rfl] at hx648_0)
        (try simp only [Nat.reduceMul, Nat.reduceEqDiff, Go.Addr.add, ↓reduceIte] at hx648_0)
        replace p648 := eq_true p648
        replace q648 := eq_true q648
        go_wp2_with (first | ((with_reducible refine gC 41 rfl ?_); refine pC (some 64) rfl #[.string (rdOf ByteArray.empty t634 1)] rfl Try.func41 (impl_TextNum.calls k (rdOf ByteArray.empty t634 1) t649 t650 _ A33.out) ?_; rintro e w34 ⟨rfl, hR⟩; refine ⟨_, rfl, ?_⟩; replace HM := HM.call hR; clear hR) | ((with_reducible refine gS 67 rfl ?_); refine pS 2 67 1 [.int .i64 t649] HM rfl rfl ?_; clear HM; intro w35 HM; replace HM := HM.nl Kd.string 9; replace HM := HM.toQ 3 rfl))
        go_meet
        case rel => exact ⟨_, (6), (t649), (0), (0), ((⟨#[]⟩ : ByteArray)), ((⟨#[]⟩ : ByteArray)), (([] : List ByteArray)), (.slice none 0 0), H', ⟨by first | omega | exact Nat.le_refl _⟩, (MD HM).pick [3, 0, 2]⟩
       ·have c31b0 : ((t634.length : Int) == 2) = false := beq_eq_false_iff_ne.mpr c31
        have c31b1 : ((t634.length : Int) != 2) = true := bne_iff_ne.mpr c31
        first|rw [c31b0]|(simp only [i64_w, i32_w]; rw [c31b0])|skip
        have H' := Aside0.mk H
        clear H
        replace HM := HM.nl Kd.string 9
        replace HM := HM.toQ 3 rfl
        go_wp2
        go_meet
        case rel => exact ⟨_, (6), (0), (0), (0), ((⟨#[]⟩ : ByteArray)), ((⟨#[]⟩ : ByteArray)), (([] : List ByteArray)), (.slice none 0 0), H', ⟨by first | omega | exact Nat.le_refl _⟩, (MD HM).pick [3, 0, 2]⟩
      ·have c29b0 : ((rdOf ByteArray.empty t634 0).toList == ([108, 97, 98] : List UInt8)) = false := beq_eq_false_iff_ne.mpr c29
       have c29b1 : ((rdOf ByteArray.empty t634 0).toList != ([108, 97, 98] : List UInt8)) = true := bne_iff_ne.mpr c29
       first|rw [c29b0]|(simp only [i64_w, i32_w]; rw [c29b0])|skip
       go_upto_if 68 with (fail)
       replace H := IT H; rcases H with ⟨c36, H⟩ | ⟨c36, H⟩
       ·have c36b0 : ((rdOf ByteArray.empty t634 0).toList == ([115, 97, 118, 101] : List UInt8)) = true := beq_iff_eq.mpr c36
        have c36b1 : ((rdOf ByteArray.empty t634 0).toList != ([115, 97, 118, 101] : List UInt8)) = false := bne_eq_false_iff_eq.mpr c36
        clear c36
        first|rw [c36b0]|(simp only [i64_w, i32_w]; rw [c36b0])|skip
        have H' := Aside0.mk H
        clear H
        go_wp2_with (first | ((with_reducible refine gS 70 rfl ?_); refine pS 2 70 0 [.int .i64 7] HM rfl rfl ?_; clear HM; intro w37 HM; replace HM := HM.nl Kd.string 9; replace HM := HM.toQ 3 rfl))
        go_meet
        case rel => exact ⟨_, (7), (0), (0), (0), ((⟨#[]⟩ : ByteArray)), ((⟨#[]⟩ : ByteArray)), (([] : List ByteArray)), (.slice none 0 0), H', ⟨by first | omega | exact Nat.le_refl _⟩, (MD HM).pick [3, 0, 2]⟩
       ·have c36b0 : ((rdOf ByteArray.empty t634 0).toList == ([115, 97, 118, 101] : List UInt8)) = false := beq_eq_false_iff_ne.mpr c36
        have c36b1 : ((rdOf ByteArray.empty t634 0).toList != ([115, 97, 118, 101] : List UInt8)) = true := bne_iff_ne.mpr c36
        first|rw [c36b0]|(simp only [i64_w, i32_w]; rw [c36b0])|skip
        replace H := BN H; obtain ⟨⟨t651, t652, t653, t654⟩, A38, H⟩ := H
        have H' := Aside0.mk H
        clear H
        go_wp2_with (first | ((with_reducible refine gC 42 rfl ?_); refine pC (some 16) rfl #[.string a0] rfl Try.func42 (impl_TextOp.calls k a0 t651 t652 t653 t654 _ A38.out) ?_; rintro e w39 ⟨rfl, hR⟩; refine ⟨_, rfl, ?_⟩; replace HM := HM.call hR; clear hR) | ((with_reducible refine gN 6 rfl ?_); refine pB 6 32 [.int .i64 0, .string (⟨#[]⟩ : ByteArray), .string (⟨#[]⟩ : ByteArray)] HM rfl ?_; clear HM; intro gb655 w40 HM) | ((with_reducible refine gS 6 rfl ?_); refine pS 3 6 0 [.int .i64 t651, .string t652, .string t653] HM rfl rfl ?_; clear HM; intro w41 HM; obtain ⟨_,_,_,_,_,_⟩ := bk3 (HM.bx 3 rfl)) | ((with_reducible refine gS 5 rfl ?_); refine pS 2 5 0 [.int .i64 2, .int .i64 0, .int .i64 0, .int .i64 t651, .string t652, .string t653, .slice none 0 0] HM rfl rfl ?_; clear HM; intro w43 HM; replace HM := HM.nl Kd.string 9; replace HM := HM.toQ 4 rfl))
        go_meet
        case rel => exact ⟨_, (2), (0), (0), (t651), (t652), (t653), (([] : List ByteArray)), (.slice none 0 0), H', ⟨by first | omega | exact Nat.le_refl _⟩, (MD HM).pick [4, 0, 2]⟩
 case rest =>
  clear HC9 HM
  obtain ⟨kq, x638000_8, x638001_8, x638002_8, x638003_8, x638004_8, x638005_8, x638006_8, u638006, HA, HJ8, HM⟩ := hcut
  cases kq with
  | zero => exact absurd HA.out (by simp [impl_TextCmd.j0])
  | succ kj8 =>
   have H := HA.out
   clear HA
   simp only [impl_TextCmd.j0] at H
   replace H := IT H; rcases H with ⟨c44, H⟩ | ⟨c44, H⟩
   ·have c44b0 : (a0.toList == ([] : List UInt8)) = true := beq_iff_eq.mpr c44
    have c44b1 : (a0.toList != ([] : List UInt8)) = false := bne_eq_false_iff_eq.mpr c44
    have c44b6 : (a0.toList).isEmpty = true := by first | (rw [c44]; rfl) | (cases h_ : a0.toList with | nil => exact absurd h_ c44 | cons _ _ => rfl)
    clear c44
    simp only [Option.some.injEq, Prod.mk.injEq] at H
    obtain ⟨rfl, rfl, rfl, rfl, rfl, rfl, rfl, rfl⟩ := H
    go_wp2_with (first | ((with_reducible refine gS 2 rfl ?_); refine pS 1 2 0 [.int .i64 0, .int .i64 0, .int .i64 0, .int .i64 0, .string (⟨#[]⟩ : ByteArray), .string (⟨#[]⟩ : ByteArray), .slice none 0 0] HM rfl rfl ?_; clear HM; intro w45 HM; replace HM := HM.nl Kd.string 9; replace HM := HM.toQ 3 rfl))
    refine bodyPost_ret (results_ct rfl _ _ gb633 35 #[.int .i64 0, .int .i64 0, .int .i64 0, .int .i64 0, .string (⟨#[]⟩ : ByteArray), .string (⟨#[]⟩ : ByteArray), .slice none 0 0] (0, 0) _ rfl (HM.bx 1 rfl) Try.underlying35 rfl (by kernel_rfl)) rfl ?_
    exact ⟨_, ER, (MD HM).pick [3]⟩
   ·have c44b0 : (a0.toList == ([] : List UInt8)) = false := beq_eq_false_iff_ne.mpr c44
    have c44b1 : (a0.toList != ([] : List UInt8)) = true := bne_iff_ne.mpr c44
    have c44b6 : (a0.toList).isEmpty = false := by first | (rw [c44]; rfl) | (cases h_ : a0.toList with | nil => exact absurd h_ c44 | cons _ _ => rfl)
    replace H := BN H; obtain ⟨t656, A47, H⟩ := H
    obtain ⟨_,_,_,_,_,_,_,_,_,_,_,_,_,_⟩ := bk7 (HM.bx 2 rfl)
    obtain ⟨Xo49, ko49, rfl⟩ := HM.rd 0 rfl
    go_upto_if 78 with (first | ((with_reducible refine gC 43 rfl ?_); refine pC (some 75) rfl #[.agg #[.int .i64 x638000_8, .int .i64 x638001_8, .int .i64 x638002_8, .int .i64 x638003_8, .string x638004_8, .string x638005_8, .slice Xo49 x638006_8.length ko49]] rfl Try.func43 (impl_CmdText.calls kj8 x638000_8 x638001_8 x638002_8 x638003_8 x638004_8 x638005_8 _ _ x638006_8 t656 _ (HM.C 0 rfl).2.2 (HM.C 0 rfl).2.1 A47.out) ?_; rintro e w48 ⟨rfl, hR⟩; refine ⟨_, rfl, ?_⟩; replace HM := HM.call hR; clear hR))
    replace H := IT H; rcases H with ⟨c50, H⟩ | ⟨c50, H⟩
    ·have c50b0 : (t656.toList == a0.toList) = true := beq_iff_eq.mpr c50
     have c50b1 : (t656.toList != a0.toList) = false := bne_eq_false_iff_eq.mpr c50
     clear c50
     first|rw [c50b0]|(simp only [i64_w, i32_w]; rw [c50b0])|skip
     simp only [Option.some.injEq, Prod.mk.injEq] at H
     obtain ⟨rfl, rfl, rfl, rfl, rfl, rfl, rfl, rfl⟩ := H
     obtain ⟨_,_,_,_,_,_,_,_,_,_,_,_,_,_⟩ := bk7 (HM.bx 2 rfl)
     go_wp2_with (first | ((with_reducible refine gS 2 rfl ?_); refine pS 1 2 0 [.int .i64 x638000_8, .int .i64 x638001_8, .int .i64 x638002_8, .int .i64 x638003_8, .string x638004_8, .string x638005_8, .slice Xo49 x638006_8.length ko49] HM rfl rfl ?_; clear HM; intro w52 HM))
     refine bodyPost_ret (results_ct rfl _ _ gb633 35 #[.int .i64 x638000_8, .int .i64 x638001_8, .int .i64 x638002_8, .int .i64 x638003_8, .string x638004_8, .string x638005_8, .slice Xo49 x638006_8.length ko49] (0, 0) _ rfl (HM.bx 1 rfl) Try.underlying35 rfl (by kernel_rfl)) rfl ?_
     exact ⟨_, ER, (MD HM).pick [0]⟩
    ·have c50b0 : (t656.toList == a0.toList) = false := beq_eq_false_iff_ne.mpr c50
     have c50b1 : (t656.toList != a0.toList) = true := bne_iff_ne.mpr c50
     first|rw [c50b0]|(simp only [i64_w, i32_w]; rw [c50b0])|skip
     simp only [Option.some.injEq, Prod.mk.injEq] at H
     obtain ⟨rfl, rfl, rfl, rfl, rfl, rfl, rfl, rfl⟩ := H
     go_wp2_with (first | ((with_reducible refine gS 2 rfl ?_); refine pS 1 2 0 [.int .i64 0, .int .i64 0, .int .i64 0, .int .i64 0, .string (⟨#[]⟩ : ByteArray), .string (⟨#[]⟩ : ByteArray), .slice none 0 0] HM rfl rfl ?_; clear HM; intro w53 HM; replace HM := HM.nl Kd.string 9; replace HM := HM.toQ 3 rfl))
     refine bodyPost_ret (results_ct rfl _ _ gb633 35 #[.int .i64 0, .int .i64 0, .int .i64 0, .int .i64 0, .string (⟨#[]⟩ : ByteArray), .string (⟨#[]⟩ : ByteArray), .slice none 0 0] (0, 0) _ rfl (HM.bx 1 rfl) Try.underlying35 rfl (by kernel_rfl)) rfl ?_
     exact ⟨_, ER, (MD HM).pick [3]⟩
def laws_eqOp.f (a0_0 : Int) (a0_1 : ByteArray) (a0_2 : ByteArray) (a1_0 : Int) (a1_1 : ByteArray) (a1_2 : ByteArray) : Option (Bool) := if a0_0 = a1_0 then (if a0_1.toList = a1_1.toList then (if a0_2.toList = a1_2.toList then (some true) else (none)) else (none)) else (none)
theorem laws_eqOp.calls (a0_0 : Int) (a0_1 : ByteArray) (a0_2 : ByteArray) (a1_0 : Int) (a1_1 : ByteArray) (a1_2 : ByteArray) (r : Bool) (w : World)  (h : laws_eqOp.f a0_0 a0_1 a0_2 a1_0 a1_1 a1_2 = some r) :
  Calls Try.prog 44 #[.agg #[.int .i64 a0_0, .string a0_1, .string a0_2], .agg #[.int .i64 a1_0, .string a1_1, .string a1_2]] w fun e w' => e = .returned (.bool r) ∧ Mem w [] w' [] := by
 have hu32 := Try.underlying32
 have HM := Mem.nil w
 have H := h
 clear h
 unfold laws_eqOp.f at H
 go_enter Try.func44, Try.ntmps44
 replace H := GD H; obtain ⟨c7, H⟩ := H
 obtain ⟨c7b0, c7b1⟩ := BE c7
 clear c7
 replace H := GD H; obtain ⟨c8, H⟩ := H
 obtain ⟨c8b0, c8b1⟩ := BE c8
 clear c8
 replace H := GD H; obtain ⟨c9, H⟩ := H
 obtain ⟨c9b0, c9b1⟩ := BE c9
 clear c9
 obtain rfl := Option.some.inj H
 go_wp2_with (first | ((with_reducible refine gN 2 rfl ?_); refine pB 2 32 [.int .i64 a0_0, .string a0_1, .string a0_2] HM rfl ?_; clear HM; intro gb667 w3 HM) | ((with_reducible refine gN 3 rfl ?_); refine pB 3 32 [.int .i64 a1_0, .string a1_1, .string a1_2] HM rfl ?_; clear HM; intro gb668 w4 HM; obtain ⟨_,_,_,_,_,_⟩ := bk3 (HM.bx 0 rfl); obtain ⟨_,_,_,_,_,_⟩ := bk3 (HM.bx 1 rfl)))
 go_ret
 exact ⟨ER, (MD HM).pick []⟩
end Go.Proofs.Ytnlnifpehndacaa.G

namespace Go.Proofs.Ytnlnifpehndacaa.G
open Go.RowKit Go.Proofs.YtnlnifpehndacaaW.PrintWords Go.Proofs.YtnlnifpehndacaaW.PrintLast Go.Proofs.YtnlnifpehndacaaW.PrintMore Go.Proofs.Ytnlnifpehndacaa.Sh
attribute [local go_sem] max2_int min2_int max_two min_two max_three min_three max_four min_four
set_option linter.unusedVariables false
set_option linter.unusedSimpArgs false
def laws_eqStringS.l0 : Nat → List ByteArray → List ByteArray → Int → Option (Bool)
 | 0, _, _, _ => none
 | k + 1, x0, x1, x5 => if x5 < (x0.length : Int) then (if 0 ≤ x5 then (if x5 < (x1.length : Int) then (if (rdOf ByteArray.empty x0 x5).toList = (rdOf ByteArray.empty x1 x5).toList then (laws_eqStringS.l0 k x0 x1 (wrap64 (x5 + 1))) else (none)) else (none)) else (none)) else (some true)
def laws_eqStringS.f (k : Nat) (l0 : List ByteArray) (l1 : List ByteArray) : Option (Bool) := if (l0.length : Int) = (l1.length : Int) then (laws_eqStringS.l0 k l0 l1 0) else (none)
theorem laws_eqStringS.calls (k : Nat) (A0 : Option Addr) (c0 : Nat) (l0 : List ByteArray) (A1 : Option Addr) (c1 : Nat) (l1 : List ByteArray) (r : Bool) (w : World) (hr0 : Kd.C Kd.string w A0 l0.length l0) (hc0 : l0.length ≤ c0) (hr1 : Kd.C Kd.string w A1 l1.length l1) (hc1 : l1.length ≤ c1) (h : laws_eqStringS.f k l0 l1 = some r) :
  Calls Try.prog 45 #[.slice A0 l0.length c0, .slice A1 l1.length c1] w fun e w' => e = .returned (.bool r) ∧ Drawn0 w w' := by
 have HR0 := Aside0.mk hr0
 have HC0 := Aside0.mk hc0
 clear hr0 hc0
 have HR1 := Aside0.mk hr1
 have HC1 := Aside0.mk hc1
 clear hr1 hc1
 have H : (if (l0.length : Int) = (l1.length : Int) then (laws_eqStringS.l0 k l0 l1 0) else (none)) = some r := h
 clear h
 by_cases c3 : (l0.length : Int) = (l1.length : Int)
 ·rw [if_pos c3] at H
  have c3b0 : ((l0.length : Int) == (l1.length : Int)) = true := beq_iff_eq.mpr c3
  have c3b1 : ((l0.length : Int) != (l1.length : Int)) = false := bne_eq_false_iff_eq.mpr c3
  have c3b2 : (l0.length == l1.length) = true := by first | simpa using c3 | (simp at c3 ⊢; omega)
  clear c3
  have H' := Aside0.mk H
  clear H
  go_enter Try.func45, Try.ntmps45
  go_wp2
  repeat (go_quiet (fail); try go_wp2)
  go_loopg [5] k (fun kq v5 w' => ∃ (x5_1 : Int), v5 = .int .i64 x5_1 ∧ Aside0 (laws_eqStringS.l0 kq l0 l1 x5_1 = some r) ∧ Aside0 (kq ≤ k) ∧ Drawn0 w w')
  case atStart => exact ⟨(0), RS, H', ⟨Nat.le_refl _⟩, DR⟩
  case round =>
   clear H'
   try clear c1
   try clear p2
   try clear c3
   try clear c3b0
   try clear c3b1
   try clear c3b2
   obtain ⟨x5_1, rfl, HA, HK1, ⟨m1, rfl⟩⟩ := hrel
   cases gk with
   | zero => exact absurd HA.out (by simp [laws_eqStringS.l0])
   | succ k1 =>
    have H := HA.out
    clear HA
    simp only [laws_eqStringS.l0] at H
    by_cases c4 : x5_1 < (l0.length : Int)
    ·rw [if_pos c4] at H
     have c4b0 : decide (x5_1 < (l0.length : Int)) = true := decide_eq_true c4
     clear c4
     by_cases c5 : 0 ≤ x5_1
     ·rw [if_pos c5] at H
      have c5b0 : decide (0 ≤ x5_1) = true := decide_eq_true c5
      clear c5
      by_cases c6 : x5_1 < (l1.length : Int)
      ·rw [if_pos c6] at H
       have c6b0 : decide (x5_1 < (l1.length : Int)) = true := decide_eq_true c6
       clear c6
       by_cases c7 : (rdOf ByteArray.empty l0 x5_1).toList = (rdOf ByteArray.empty l1 x5_1).toList
       ·rw [if_pos c7] at H
        have c7b0 : ((rdOf ByteArray.empty l0 x5_1).toList == (rdOf ByteArray.empty l1 x5_1).toList) = true := beq_iff_eq.mpr c7
        have c7b1 : ((rdOf ByteArray.empty l0 x5_1).toList != (rdOf ByteArray.empty l1 x5_1).toList) = false := bne_eq_false_iff_eq.mpr c7
        clear c7
        have H' := Aside0.mk H
        clear H
        have p671 : 0 ≤ (x5_1 : Int) := of_decide_eq_true AS
        have q671 : x5_1 < (l0.length : Int) := of_decide_eq_true AS
        obtain ⟨ad671, e671, hx671_0⟩ := Kd.at_string HR0.out x5_1 p671 q671
        cases e671
        replace p671 := eq_true p671
        replace q671 := eq_true q671
        have p672 : 0 ≤ (x5_1 : Int) := of_decide_eq_true AS
        have q672 : x5_1 < (l1.length : Int) := of_decide_eq_true AS
        obtain ⟨ad672, e672, hx672_0⟩ := Kd.at_string HR1.out x5_1 p672 q672
        cases e672
        replace p672 := eq_true p672
        replace q672 := eq_true q672
        go_wp2
        repeat (go_quiet (fail); try go_wp2)
        go_roundg k1
        case measure => have := HK1.out; omega
        case rel => exact ⟨(wrap64 (x5_1 + 1)), RS, H', ⟨by have := HK1.out; omega⟩, DR⟩
       ·rw [if_neg c7] at H
        exact absurd H (by simp)
      ·rw [if_neg c6] at H
       exact absurd H (by simp)
     ·rw [if_neg c5] at H
      exact absurd H (by simp)
    ·rw [if_neg c4] at H
     have c4b0 : decide (x5_1 < (l0.length : Int)) = false := decide_eq_false c4
     clear c4
     obtain rfl := Option.some.inj H
     go_wp2
     repeat (go_quiet (fail); try go_wp2)
     go_ret
     exact ⟨by first | rfl | (simp; done) | (simp [*]; done), DR⟩
 ·rw [if_neg c3] at H
  exact absurd H (by simp)
end Go.Proofs.Ytnlnifpehndacaa.G

namespace Go.Proofs.Ytnlnifpehndacaa.G
open Go.RowKit Go.Proofs.YtnlnifpehndacaaW.PrintWords Go.Proofs.YtnlnifpehndacaaW.PrintLast Go.Proofs.YtnlnifpehndacaaW.PrintMore Go.Proofs.Ytnlnifpehndacaa.Sh
attribute [local go_sem] max2_int min2_int max_two min_two max_three min_three max_four min_four
set_option linter.unusedVariables false
set_option linter.unusedSimpArgs false
open Go.Proofs.Ytnlnifpehndacaa.Mm
def laws_eqCmd.f (k : Nat) (a0_0 : Int) (a0_1 : Int) (a0_2 : Int) (a0_3 : Int) (a0_4 : ByteArray) (a0_5 : ByteArray) (l0_6 : List ByteArray) (a1_0 : Int) (a1_1 : Int) (a1_2 : Int) (a1_3 : Int) (a1_4 : ByteArray) (a1_5 : ByteArray) (l1_6 : List ByteArray) : Option (Bool) := if a0_0 = a1_0 then (if a0_1 = a1_1 then (if a0_2 = a1_2 then ((laws_eqOp.f a0_3 a0_4 a0_5 a1_3 a1_4 a1_5).bind fun t675 => (if t675 = true then ((laws_eqStringS.f k l0_6 l1_6).bind fun t676 => (if t676 = true then (some true) else (none))) else (none))) else (none)) else (none)) else (none)
theorem laws_eqCmd.calls (k : Nat) (a0_0 : Int) (a0_1 : Int) (a0_2 : Int) (a0_3 : Int) (a0_4 : ByteArray) (a0_5 : ByteArray) (A0_6 : Option Addr) (c0_6 : Nat) (l0_6 : List ByteArray) (a1_0 : Int) (a1_1 : Int) (a1_2 : Int) (a1_3 : Int) (a1_4 : ByteArray) (a1_5 : ByteArray) (A1_6 : Option Addr) (c1_6 : Nat) (l1_6 : List ByteArray) (r : Bool) (w : World) (hr0_6 : Kd.C Kd.string w A0_6 l0_6.length l0_6) (hc0_6 : l0_6.length ≤ c0_6) (hr1_6 : Kd.C Kd.string w A1_6 l1_6.length l1_6) (hc1_6 : l1_6.length ≤ c1_6) (h : laws_eqCmd.f k a0_0 a0_1 a0_2 a0_3 a0_4 a0_5 l0_6 a1_0 a1_1 a1_2 a1_3 a1_4 a1_5 l1_6 = some r) :
  Calls Try.prog 13 #[.agg #[.int .i64 a0_0, .int .i64 a0_1, .int .i64 a0_2, .int .i64 a0_3, .string a0_4, .string a0_5, .slice A0_6 l0_6.length c0_6], .agg #[.int .i64 a1_0, .int .i64 a1_1, .int .i64 a1_2, .int .i64 a1_3, .string a1_4, .string a1_5, .slice A1_6 l1_6.length c1_6]] w fun e w' => e = .returned (.bool r) ∧ Mem w [] w' [] := by
 have hu35 := Try.underlying35
 have hu32 := Try.underlying32
 have HR0_6 := Aside0.mk hr0_6
 have HC0_6 := Aside0.mk hc0_6
 clear hr0_6 hc0_6
 have HR1_6 := Aside0.mk hr1_6
 have HC1_6 := Aside0.mk hc1_6
 clear hr1_6 hc1_6
 have HM := Mem.nil w
 have H := h
 clear h
 unfold laws_eqCmd.f at H
 go_enter Try.func13, Try.ntmps13
 replace H := GD H; obtain ⟨c7, H⟩ := H
 obtain ⟨c7b0, c7b1⟩ := BE c7
 clear c7
 replace H := GD H; obtain ⟨c8, H⟩ := H
 obtain ⟨c8b0, c8b1⟩ := BE c8
 clear c8
 replace H := GD H; obtain ⟨c9, H⟩ := H
 obtain ⟨c9b0, c9b1⟩ := BE c9
 clear c9
 replace H := BN H; obtain ⟨t675, A10, H⟩ := H
 replace H := GD H
 obtain ⟨c12, H⟩ := H
 subst c12
 replace H := BN H; obtain ⟨t676, A15, H⟩ := H
 replace H := GD H
 obtain ⟨c17, H⟩ := H
 subst c17
 obtain rfl := Option.some.inj H
 go_wp2_with (first | ((with_reducible refine gN 2 rfl ?_); refine pB 2 35 [.int .i64 a0_0, .int .i64 a0_1, .int .i64 a0_2, .int .i64 a0_3, .string a0_4, .string a0_5, .slice A0_6 l0_6.length c0_6] HM rfl ?_; clear HM; intro gb673 w3 HM) | ((with_reducible refine gN 3 rfl ?_); refine pB 3 35 [.int .i64 a1_0, .int .i64 a1_1, .int .i64 a1_2, .int .i64 a1_3, .string a1_4, .string a1_5, .slice A1_6 l1_6.length c1_6] HM rfl ?_; clear HM; intro gb674 w4 HM; obtain ⟨_,_,_,_,_,_,_,_,_,_,_,_,_,_⟩ := bk7 (HM.bx 0 rfl); obtain ⟨_,_,_,_,_,_,_,_,_,_,_,_,_,_⟩ := bk7 (HM.bx 1 rfl)) | ((with_reducible refine gC 44 rfl ?_); refine pC (some 24) rfl #[.agg #[.int .i64 a0_3, .string a0_4, .string a0_5], .agg #[.int .i64 a1_3, .string a1_4, .string a1_5]] rfl Try.func44 (laws_eqOp.calls a0_3 a0_4 a0_5 a1_3 a1_4 a1_5 true _ A10.out) ?_; rintro e w11 ⟨rfl, hR⟩; refine ⟨_, rfl, ?_⟩; replace HM := HM.call hR; clear hR; obtain ⟨_,_,_,_,_,_,_,_,_,_,_,_,_,_⟩ := bk7 (HM.bx 0 rfl); obtain ⟨_,_,_,_,_,_,_,_,_,_,_,_,_,_⟩ := bk7 (HM.bx 1 rfl)) | ((with_reducible refine gC 45 rfl ?_); refine pC (some 30) rfl #[.slice A0_6 l0_6.length c0_6, .slice A1_6 l1_6.length c1_6] rfl Try.func45 (laws_eqStringS.calls k _ _ l0_6 _ _ l1_6 true _ (HM.came HR0_6.out) HC0_6.out (HM.came HR1_6.out) HC1_6.out A15.out) ?_; rintro e w16 ⟨rfl, hd⟩; refine ⟨_, rfl, ?_⟩; replace HM := HM.drawn hd; clear hd))
 go_ret
 exact ⟨ER, (MD HM).pick []⟩
def laws_markText.l0 : Nat → Int → ByteArray → Option (ByteArray)
 | 0, _, _ => none
 | k + 1, x0, x3 => if x0 > 0 then ((some (([(wrap64 (48 + (Int.tmod x0 10))) % 256] : List Int) : List Int)).bind fun y448 => (if (strOfNums y448).size + x3.size ≤ 9223372036854775807 then (laws_markText.l0 k (wrap64 (Int.tdiv x0 10)) ((strOfNums y448) ++ x3)) else (none))) else (if 1 + x3.size ≤ 9223372036854775807 then (some ((⟨#[109]⟩ : ByteArray) ++ x3)) else (none))
def laws_markText.f (k : Nat) (a0 : Int) : Option (ByteArray) := if a0 ≤ 0 then (some (⟨#[109, 48]⟩ : ByteArray)) else (laws_markText.l0 k a0 (⟨#[]⟩ : ByteArray))
theorem laws_markText.calls (k : Nat) (a0 : Int) (r : ByteArray) (w : World)  (h : laws_markText.f k a0 = some r) :
  Calls Try.prog 73 #[.int .i64 a0] w fun e w' => e = .returned (.string r) ∧ Mem w [] w' [] := by
 have HM := Mem.nil w
 have H := h
 clear h
 unfold laws_markText.f at H
 go_enter Try.func73, Try.ntmps73
 go_upto_if 5 with (fail)
 replace H := IT H; rcases H with ⟨c2, H⟩ | ⟨c2, H⟩
 ·have c2b0 := decide_eq_true c2
  clear c2
  first|rw [c2b0]|(simp only [i64_w, i32_w]; rw [c2b0])|skip
  obtain rfl := Option.some.inj H
  go_wp2
  go_ret
  exact ⟨ER, (MD HM).pick []⟩
 ·have c2b0 := decide_eq_false c2
  clear c2
  first|rw [c2b0]|(simp only [i64_w, i32_w]; rw [c2b0])|skip
  have H' := Aside0.mk H
  clear H
  go_wp2
  go_loopg [0, 3] k (fun kq v0 v3 w' => ∃ (x0_1 : Int) (x3_1 : ByteArray), v0 = .int .i64 x0_1 ∧ v3 = .string x3_1 ∧ Aside0 (laws_markText.l0 kq x0_1 x3_1 = some r) ∧ Aside0 (kq ≤ k) ∧ Mem w [] w' [])
  case atStart => exact ⟨(a0), ((⟨#[]⟩ : ByteArray)), RS, RS, H', ⟨Nat.le_refl _⟩, (MD HM).pick []⟩
  case round =>
   clear H' HM
   obtain ⟨x0_1, x3_1, rfl, rfl, HA, HK1, HM⟩ := hrel
   cases gk with
   | zero => exact absurd HA.out (by simp [laws_markText.l0])
   | succ k1 =>
    have H := HA.out
    clear HA
    simp only [laws_markText.l0] at H
    go_upto_if 7 with (fail)
    replace H := IT H; rcases H with ⟨c3, H⟩ | ⟨c3, H⟩
    ·have c3b0 : decide (0 < x0_1) = true := decide_eq_true c3
     clear c3
     first|rw [c3b0]|(simp only [i64_w, i32_w]; rw [c3b0])|skip
     replace H := BLt H; obtain ⟨y448, Ny448, H⟩ := H
     replace Ny448 := Aside0.mk Ny448
     replace H := GD H; obtain ⟨c6, H⟩ := H
     have c6b0 := eq_true c6
     have c6b1 : decide ((strOfNums y448).size + x3_1.size ≤ 9223372036854775807) = true := decide_eq_true c6
     try have c6b2 : (9223372036854775807 < (strOfNums y448).size + x3_1.size) = False := eq_false (Nat.not_lt.2 c6)
     have H' := Aside0.mk H
     clear H
     go_wp2_with (first | ((with_reducible refine gN 12 rfl ?_); refine pL 12 (Kd.int .u8) 5 ([(wrap64 (48 + (Int.tmod x0_1 10))) % 256] : List Int) [.int .u8 ((wrap64 (48 + (Int.tmod x0_1 10))) % 256)] (Reps.one (show Kd.M (Kd.int .u8) _ _ _ ((wrap64 (48 + (Int.tmod x0_1 10))) % 256) [.int .u8 ((wrap64 (48 + (Int.tmod x0_1 10))) % 256)] from rfl) (Reps.none _ _)) HM rfl ?_; clear HM; intro v449 w4 HM; replace HM := HM.nm 0 rfl Ny448.out; have hcv5 := HM.str 0 rfl Try.underlying105 Try.underlying5 Try.underlying9))
     go_roundg k1
     case measure => have := HK1.out; omega
     case rel => exact ⟨(wrap64 (Int.tdiv x0_1 10)), ((strOfNums y448) ++ x3_1), RS, RS, H', ⟨by have := HK1.out; omega⟩, (MD HM).pick []⟩
    ·have c3b0 : decide (0 < x0_1) = false := decide_eq_false c3
     clear c3
     first|rw [c3b0]|(simp only [i64_w, i32_w]; rw [c3b0])|skip
     replace H := GD H; obtain ⟨c7, H⟩ := H
     have c7b0 := eq_true c7
     have c7b1 : decide (1 + x3_1.size ≤ 9223372036854775807) = true := decide_eq_true c7
     try have c7b2 : (9223372036854775807 < 1 + x3_1.size) = False := eq_false (Nat.not_lt.2 c7)
     obtain rfl := Option.some.inj H
     go_wp2
     go_ret
     exact ⟨ER, (MD HM).pick []⟩
def laws_markStringS.l0 : Nat → List ByteArray → Int → Int → Option (Int × List ByteArray)
 | 0, _, _, _ => none
 | k + 1, x0, x1, x5 => if x5 < (x0.length : Int) then ((laws_markText.f k x1).bind fun t677 => (if 0 ≤ x5 then (laws_markStringS.l0 k (x0.set (x5 : Int).toNat t677) (wrap64 (x1 + 1)) (wrap64 (x5 + 1))) else (none))) else (some (x1, x0))
def laws_markStringS.f (k : Nat) (l0 : List ByteArray) (a1 : Int) : Option (Int × List ByteArray) := laws_markStringS.l0 k l0 a1 0
theorem laws_markStringS.calls (k : Nat) (u9000_ : Value) (l0 : List ByteArray) (a1 : Int) (r1 : Int) (r2 : List ByteArray) (w0 w : World) (F : List SP)  (hM : Mem w0 F w [row Kd.string 9 u9000_ l0]) (h : laws_markStringS.f k l0 a1 = some (r1, r2)) :
  Calls Try.prog 46 #[u9000_, .int .i64 a1] w fun e w' => e = .returned (.int .i64 r1) ∧ Mem w0 F w' [row Kd.string 9 u9000_ r2] := by
 have HM := hM
 clear hM
 have H := h
 clear h
 unfold laws_markStringS.f at H
 go_enter Try.func46, Try.ntmps46
 have H' := Aside0.mk H
 clear H
 go_wp2
 go_loopg [1, 5] k (fun kq v1 v5 w' => ∃ (x0_1 : List ByteArray) (x1_1 : Int) (x5_1 : Int), v1 = .int .i64 x1_1 ∧ v5 = .int .i64 x5_1 ∧ Aside0 (laws_markStringS.l0 kq x0_1 x1_1 x5_1 = some (r1, r2)) ∧ Aside0 (kq ≤ k) ∧ Mem w0 F w' [row Kd.string 9 u9000_ x0_1])
 case atStart => exact ⟨(l0), (a1), (0), RS, RS, H', ⟨Nat.le_refl _⟩, (MD HM).pick [0]⟩
 case round =>
  clear H' HM
  obtain ⟨x0_1, x1_1, x5_1, rfl, rfl, HA, HK1, HM⟩ := hrel
  cases gk with
  | zero => exact absurd HA.out (by simp [laws_markStringS.l0])
  | succ k1 =>
   have H := HA.out
   clear HA
   simp only [laws_markStringS.l0] at H
   obtain ⟨Xo3, ko3, rfl⟩ := HM.rd 0 rfl
   go_upto_if 9 with (fail)
   replace H := IT H; rcases H with ⟨c4, H⟩ | ⟨c4, H⟩
   ·have c4b0 := decide_eq_true c4
    clear c4
    first|rw [c4b0]|(simp only [i64_w, i32_w]; rw [c4b0])|skip
    replace H := BN H; obtain ⟨t677, A5, H⟩ := H
    replace H := GD H; obtain ⟨c7, H⟩ := H
    have c7b0 := decide_eq_true c7
    clear c7
    have H' := Aside0.mk H
    clear H
    go_wp2_with (first | ((with_reducible refine gC 73 rfl ?_); refine pC (some 15) rfl #[.int .i64 x1_1] rfl Try.func73 (laws_markText.calls k1 x1_1 t677 _ A5.out) ?_; rintro e w6 ⟨rfl, hR⟩; refine ⟨_, rfl, ?_⟩; replace HM := HM.call hR; clear hR; have p8 : 0 ≤ (x5_1 : Int) := of_decide_eq_true AS; have q8 : (x5_1 : Int) < ((x0_1.length : Int) : Int) := of_decide_eq_true AS; obtain ⟨go8, oo8, ef8⟩ := HM.formQ 0 rfl (by have h_ := (HM.C 0 rfl).1; omega); subst ef8; obtain ⟨hcc8, hfr8⟩ := HM.elQ 0 rfl (⟨#[]⟩ : ByteArray) (x5_1 : Int) p8 (by have h_ := (HM.C 0 rfl).1; omega) [.string (rdOf ByteArray.empty x0_1 x5_1)] (fun _ _ h => h); have hx8_0 : w6.cell? ⟨go8, oo8 + (x5_1 : Int).toNat, none⟩ = some (.string (rdOf ByteArray.empty x0_1 x5_1)) := (by have h_ := hcc8 0 _ rfl; first | exact h_ | (simp only [show (Kd.string).sz = 1 from rfl, Nat.mul_one, Nat.add_zero] at h_; exact h_) | simpa using h_); have hf8_0 : w6.frozen? ⟨go8, oo8 + (x5_1 : Int).toNat, none⟩ = false := (by have h_ := hfr8 0; first | exact h_ | (simp only [show (Kd.string).sz = 1 from rfl, Nat.mul_one, Nat.add_zero] at h_; exact h_) | simpa using h_); clear hcc8 hfr8; replace p8 := eq_true p8; replace q8 := eq_true q8) | ((with_reducible refine gS 16 rfl ?_); refine pPQ 0 16 (x5_1 : Int) 0 [.string t677] Kd.string 9 x0_1 t677 (⟨#[]⟩ : ByteArray) [.string (rdOf ByteArray.empty x0_1 x5_1)] HM rfl rfl (of_decide_eq_true AS) (by have h_ : (x5_1 : Int) < ((x0_1.length : Int) : Int) := of_decide_eq_true AS; have e_ := (HM.C 0 rfl).1; omega) (fun _ _ h => h) rfl (hoff := congrArg (_ + ·) (Nat.mul_one _).symm) ?_; clear HM; intro w9 HM))
    go_roundg k1
    case measure => have := HK1.out; omega
    case rel => exact ⟨((x0_1.set (x5_1 : Int).toNat t677)), (wrap64 (x1_1 + 1)), (wrap64 (x5_1 + 1)), RS, RS, H', ⟨by have := HK1.out; omega⟩, (MD HM).pick [0]⟩
   ·have c4b0 := decide_eq_false c4
    clear c4
    first|rw [c4b0]|(simp only [i64_w, i32_w]; rw [c4b0])|skip
    simp only [Option.some.injEq, Prod.mk.injEq] at H
    obtain ⟨rfl, rfl⟩ := H
    go_wp2
    go_ret
    exact ⟨ER, (MD HM).pick [0]⟩
def laws_markCmd.f (k : Nat) (a0_0 : Int) (a0_1 : Int) (a0_2 : Int) (a0_3 : Int) (a0_4 : ByteArray) (a0_5 : ByteArray) (l0_6 : List ByteArray) (a1 : Int) : Option (Int × List ByteArray) := (laws_markStringS.f k l0_6 a1).bind fun bt680 => (some (bt680.1, bt680.2))
theorem laws_markCmd.calls (k : Nat) (a0_0 : Int) (a0_1 : Int) (a0_2 : Int) (a0_3 : Int) (a0_4 : ByteArray) (a0_5 : ByteArray) (u9000_ : Value) (l0_6 : List ByteArray) (a1 : Int) (r1 : Int) (r2 : List ByteArray) (w0 w : World) (F : List SP)  (hM : Mem w0 F w [row Kd.string 9 u9000_ l0_6]) (h : laws_markCmd.f k a0_0 a0_1 a0_2 a0_3 a0_4 a0_5 l0_6 a1 = some (r1, r2)) :
  Calls Try.prog 14 #[.agg #[.int .i64 a0_0, .int .i64 a0_1, .int .i64 a0_2, .int .i64 a0_3, .string a0_4, .string a0_5, u9000_], .int .i64 a1] w fun e w' => e = .returned (.int .i64 r1) ∧ Mem w0 F w' [row Kd.string 9 u9000_ r2] := by
 have hu35 := Try.underlying35
 have HM := hM
 clear hM
 have H := h
 clear h
 unfold laws_markCmd.f at H
 go_enter Try.func14, Try.ntmps14
 replace H := BN H; obtain ⟨⟨t680, t681⟩, A6, H⟩ := H
 simp only [Option.some.injEq, Prod.mk.injEq] at H
 obtain ⟨rfl, rfl⟩ := H
 obtain ⟨Xo3, ko3, rfl⟩ := HM.rd 0 rfl
 go_wp2_with (first | ((with_reducible refine gN 2 rfl ?_); refine pB 2 35 [.int .i64 a0_0, .int .i64 a0_1, .int .i64 a0_2, .int .i64 a0_3, .string a0_4, .string a0_5, .slice Xo3 l0_6.length ko3] HM rfl ?_; clear HM; intro gb679 w4 HM; obtain ⟨_,_,_,_,_,_,_,_,_,_,_,_,_,_⟩ := bk7 (HM.bx 1 rfl)) | ((with_reducible refine gC 46 rfl ?_); refine pC (some 8) rfl #[.slice Xo3 l0_6.length ko3, .int .i64 a1] rfl Try.func46 (laws_markStringS.calls k (.slice Xo3 l0_6.length ko3) l0_6 a1 t680 t681 _ _ _ (HM.focus [1] [0]) A6.out) ?_; rintro e w7 ⟨rfl, hR⟩; refine ⟨_, rfl, ?_⟩; replace HM := nzM hR.unfocus; clear hR))
 go_ret
 exact ⟨ER, (MD HM).pick [1]⟩
def laws_heldStringS.l0 : Nat → List ByteArray → Int → Int → Option (Int)
 | 0, _, _, _ => none
 | k + 1, x0, x1, x5 => if x5 < (x0.length : Int) then (if 0 ≤ x5 then ((laws_markText.f k x1).bind fun t683 => (if (rdOf ByteArray.empty x0 x5).toList = t683.toList then (laws_heldStringS.l0 k x0 (wrap64 (x1 + 1)) (wrap64 (x5 + 1))) else (none))) else (none)) else (some x1)
def laws_heldStringS.f (k : Nat) (l0 : List ByteArray) (a1 : Int) : Option (Int) := laws_heldStringS.l0 k l0 a1 0
def laws_heldStringS.T4 : Bool × List (List Nat × List Nat) := (true, [([], []), ([], []), ([0, 1], [0, 1]), ([2], [2]), ([], []), ([4], [4]), ([3, 5], [3, 5])])
def laws_heldStringS.B4 : List Nat := [0, 0, 3, 7, 0, 16, 63]
theorem laws_heldStringS.tab4 : rtab .any (opsOf Try.f47 4) = laws_heldStringS.T4 := by kernel_rfl
theorem laws_heldStringS.bits4 : waitsOk laws_heldStringS.T4.2 laws_heldStringS.B4 = true := by kernel_rfl
theorem laws_heldStringS.calls (k : Nat) (A0 : Option Addr) (c0 : Nat) (l0 : List ByteArray) (a1 : Int) (r : Int) (w : World) (hr0 : Kd.C Kd.string w A0 l0.length l0) (hc0 : l0.length ≤ c0) (h : laws_heldStringS.f k l0 a1 = some r) :
  Calls Try.prog 47 #[.slice A0 l0.length c0, .int .i64 a1] w fun e w' => e = .returned (.int .i64 r) ∧ Mem w [] w' [] := by
 have HR0 := Aside0.mk hr0
 have HC0 := Aside0.mk hc0
 clear hr0 hc0
 have HM := Mem.nil w
 have H := h
 clear h
 unfold laws_heldStringS.f at H
 go_enter Try.func47, Try.ntmps47
 have H' := Aside0.mk H
 clear H
 go_wp2
 go_loopg [1, 5] k (fun kq v1 v5 w' => ∃ (x1_1 : Int) (x5_1 : Int), v1 = .int .i64 x1_1 ∧ v5 = .int .i64 x5_1 ∧ Aside0 (laws_heldStringS.l0 kq l0 x1_1 x5_1 = some r) ∧ Aside0 (kq ≤ k) ∧ Mem w [] w' [])
 case atStart => exact ⟨(a1), (0), RS, RS, H', ⟨Nat.le_refl _⟩, (MD HM).pick []⟩
 case round =>
  clear H' HM
  obtain ⟨x1_1, x5_1, rfl, rfl, HA, HK1, HM⟩ := hrel
  cases gk with
  | zero => exact absurd HA.out (by simp [laws_heldStringS.l0])
  | succ k1 =>
   have H := HA.out
   clear HA
   simp only [laws_heldStringS.l0] at H
   go_upto_if 9 with (fail)
   replace H := IT H; rcases H with ⟨c3, H⟩ | ⟨c3, H⟩
   ·have c3b0 := decide_eq_true c3
    clear c3
    first|rw [c3b0]|(simp only [i64_w, i32_w]; rw [c3b0])|skip
    try go_wp2
    replace H := GD H; obtain ⟨c4, H⟩ := H
    have c4b0 := decide_eq_true c4
    clear c4
    replace H := BN H; obtain ⟨t683, A5, H⟩ := H
    have p682 : 0 ≤ (x5_1 : Int) := of_decide_eq_true AS
    have q682 : (x5_1 : Int) < (l0.length : Int) := of_decide_eq_true AS
    obtain ⟨ad682, e682, hx682_0⟩ := Kd.at_string (HM.came HR0.out) x5_1 p682 q682
    cases e682
    replace p682 := eq_true p682
    replace q682 := eq_true q682
    refine RGN 7 [0, 1, 2, 3, 4, 5, 6] (fun a0 b a w' => a = putSel a0 b [(0, 12, .slice (some ad682) l0.length c0), (1, 13, .int .i64 x5_1), (2, 14, .pointer (some (ad682.add (x5_1).toNat))), (3, 15, .string (rdOf ByteArray.empty l0 x5_1)), (4, 16, .int .i64 x1_1), (5, 17, .string t683), (6, 18, .bool ((rdOf ByteArray.empty l0 x5_1).toList != t683.toList))] ∧ Mem w [] w' []) laws_heldStringS.tab4 laws_heldStringS.bits4 ?_ ?_ ?_
    ·exact ⟨PS0' rfl _, (HM.drew).pick []⟩
    ·clear HM
     refine SY ?_ ?_
     ·intro b a w ha HM hb hon hoff K hK
      have e0 := PG ha 0
      exact VL (.slice (some ad682) l0.length c0) (hK.out _ _ ⟨PUT ha 0 hb, HM⟩)
     refine SY ?_ ?_
     ·intro b a w ha HM hb hon hoff K hK
      have e5 := PG ha 5
      exact VL (.int .i64 x5_1) (hK.out _ _ ⟨PUT ha 1 hb, HM⟩)
     refine SY ?_ ?_
     ·intro b a w ha HM hb hon hoff K hK
      have p682 : 0 ≤ (x5_1 : Int) := of_decide_eq_true AS
      have q682 : (x5_1 : Int) < (l0.length : Int) := of_decide_eq_true AS
      obtain ⟨ad682, e682, hx682_0⟩ := Kd.at_string (HM.came HR0.out) x5_1 p682 q682
      obtain rfl := Option.some.inj e682
      replace p682 := eq_true p682
      replace q682 := eq_true q682
      have e12 := PE ha 0 hon
      have e13 := PE ha 1 hon
      exact VL (.pointer (some (ad682.add (x5_1).toNat))) (hK.out _ _ ⟨PUT ha 2 hb, HM⟩)
     refine SY ?_ ?_
     ·intro b a w ha HM hb hon hoff K hK
      have p682 : 0 ≤ (x5_1 : Int) := of_decide_eq_true AS
      have q682 : (x5_1 : Int) < (l0.length : Int) := of_decide_eq_true AS
      obtain ⟨ad682, e682, hx682_0⟩ := Kd.at_string (HM.came HR0.out) x5_1 p682 q682
      obtain rfl := Option.some.inj e682
      replace p682 := eq_true p682
      replace q682 := eq_true q682
      have e14 := PE ha 2 hon
      exact VL (.string (rdOf ByteArray.empty l0 x5_1)) (hK.out _ _ ⟨PUT ha 3 hb, HM⟩)
     refine SY ?_ ?_
     ·intro b a w ha HM hb hon hoff K hK
      have e1 := PG ha 1
      exact VL (.int .i64 x1_1) (hK.out _ _ ⟨PUT ha 4 hb, HM⟩)
     refine SY ?_ ?_
     ·intro b a w ha HM hb hon hoff K hK
      have e16 := PE ha 4 hon
      refine ST (eC (some 17) rfl #[.int .i64 x1_1] rfl Try.func73 (laws_markText.calls k1 x1_1 t683 _ A5.out) ?_ (hargs := by (simp only [List.map_toArray, List.map_cons, List.map_nil, evc, eval_of e16]) <;> rfl))
      rintro e w7 ⟨rfl, hR⟩
      refine ⟨_, rfl, ?_⟩
      replace HM := HM.call hR
      clear hR
      exact hK.out _ _ ⟨PUT ha 5 hb, (HM).pick []⟩
     refine SY ?_ ?_
     ·intro b a w ha HM hb hon hoff K hK
      have e15 := PE ha 3 hon
      have e17 := PE ha 5 hon
      exact VL (.bool ((rdOf ByteArray.empty l0 x5_1).toList != t683.toList)) (hK.out _ _ ⟨PUT ha 6 hb, HM⟩)
     exact steps_nil
    rintro _ w8 ⟨rfl, HM⟩
    simp only [putSel, if_true, Act.put, List.setIfInBounds_toArray, List.set_cons_zero, List.set_cons_succ, gt_iff_lt, ge_iff_le]
    replace H := GD H; obtain ⟨c9, H⟩ := H
    obtain ⟨c9b0, c9b1⟩ := BE c9
    clear c9
    (first | rw [c9b0] | rw [c9b1] | skip)
    have H' := Aside0.mk H
    clear H
    go_wp2
    go_roundg k1
    case measure => have := HK1.out; omega
    case rel => exact ⟨(wrap64 (x1_1 + 1)), (wrap64 (x5_1 + 1)), RS, RS, H', ⟨by have := HK1.out; omega⟩, (MD HM).pick []⟩
   ·have c3b0 := decide_eq_false c3
    clear c3
    first|rw [c3b0]|(simp only [i64_w, i32_w]; rw [c3b0])|skip
    obtain rfl := Option.some.inj H
    go_wp2
    go_ret
    exact ⟨ER, (MD HM).pick []⟩
def laws_heldCmd.f (k : Nat) (a0_0 : Int) (a0_1 : Int) (a0_2 : Int) (a0_3 : Int) (a0_4 : ByteArray) (a0_5 : ByteArray) (l0_6 : List ByteArray) (a1 : Int) : Option (Int) := (laws_heldStringS.f k l0_6 a1).bind fun t685 => (if t685 < 0 then (none) else (some t685))
theorem laws_heldCmd.calls (k : Nat) (a0_0 : Int) (a0_1 : Int) (a0_2 : Int) (a0_3 : Int) (a0_4 : ByteArray) (a0_5 : ByteArray) (A0_6 : Option Addr) (c0_6 : Nat) (l0_6 : List ByteArray) (a1 : Int) (r : Int) (w : World) (hr0_6 : Kd.C Kd.string w A0_6 l0_6.length l0_6) (hc0_6 : l0_6.length ≤ c0_6) (h : laws_heldCmd.f k a0_0 a0_1 a0_2 a0_3 a0_4 a0_5 l0_6 a1 = some r) :
  Calls Try.prog 15 #[.agg #[.int .i64 a0_0, .int .i64 a0_1, .int .i64 a0_2, .int .i64 a0_3, .string a0_4, .string a0_5, .slice A0_6 l0_6.length c0_6], .int .i64 a1] w fun e w' => e = .returned (.int .i64 r) ∧ Mem w [] w' [] := by
 have hu35 := Try.underlying35
 have HR0_6 := Aside0.mk hr0_6
 have HC0_6 := Aside0.mk hc0_6
 clear hr0_6 hc0_6
 have HM := Mem.nil w
 have H := h
 clear h
 unfold laws_heldCmd.f at H
 go_enter Try.func15, Try.ntmps15
 replace H := BN H; obtain ⟨t685, A5, H⟩ := H
 replace H := GN H; obtain ⟨c7, H⟩ := H
 have c7b0 := decide_eq_false c7
 clear c7
 obtain rfl := Option.some.inj H
 go_wp2_with (first | ((with_reducible refine gN 2 rfl ?_); refine pB 2 35 [.int .i64 a0_0, .int .i64 a0_1, .int .i64 a0_2, .int .i64 a0_3, .string a0_4, .string a0_5, .slice A0_6 l0_6.length c0_6] HM rfl ?_; clear HM; intro gb684 w3 HM; obtain ⟨_,_,_,_,_,_,_,_,_,_,_,_,_,_⟩ := bk7 (HM.bx 0 rfl)) | ((with_reducible refine gC 47 rfl ?_); refine pC (some 8) rfl #[.slice A0_6 l0_6.length c0_6, .int .i64 a1] rfl Try.func47 (laws_heldStringS.calls k _ _ l0_6 a1 t685 _ (HM.came HR0_6.out) HC0_6.out A5.out) ?_; rintro e w6 ⟨rfl, hR⟩; refine ⟨_, rfl, ?_⟩; replace HM := HM.call hR; clear hR))
 go_ret
 exact ⟨ER, (MD HM).pick []⟩
mutual
def laws_FnExactTextCmd.j0 : Nat → ByteArray → Bool → Bool → Int → Int → Int → Int → ByteArray → ByteArray → List ByteArray → Int → Int → Int → Int → ByteArray → ByteArray → List ByteArray → Option (Bool)
 | 0, _, _, _, _, _, _, _, _, _, _, _, _, _, _, _, _, _ => none
 | k + 1, x0, x4, x32, x697000, x697001, x697002, x697003, x697004, x697005, x697006, x708000, x708001, x708002, x708003, x708004, x708005, x708006 => if x32 = true then (none) else ((laws_markCmd.f k x708000 x708001 x708002 x708003 x708004 x708005 x708006 1).bind fun bt709 => ((laws_heldCmd.f k x708000 x708001 x708002 x708003 x708004 x708005 bt709.2 1).bind fun t711 => (if t711 < 0 then (none) else (if t711 = bt709.1 then ((impl_TextCmd.f k x0).bind fun bt712 => ((laws_eqCmd.f k bt712.1 bt712.2.1 bt712.2.2.1 bt712.2.2.2.1 bt712.2.2.2.2.1 bt712.2.2.2.2.2.1 bt712.2.2.2.2.2.2.1 x697000 x697001 x697002 x697003 x697004 x697005 x697006).bind fun t723 => (if t723 = true then (laws_FnExactTextCmd.j1 k bt709.1 (bt712.2.2.2.2.2.2.2 != x4) x708000 x708001 x708002 x708003 x708004 x708005 bt709.2) else (laws_FnExactTextCmd.j1 k bt709.1 true x708000 x708001 x708002 x708003 x708004 x708005 bt709.2)))) else (none)))))
def laws_FnExactTextCmd.j1 : Nat → Int → Bool → Int → Int → Int → Int → ByteArray → ByteArray → List ByteArray → Option (Bool)
 | 0, _, _, _, _, _, _, _, _, _ => none
 | k + 1, x7, x57, x708000, x708001, x708002, x708003, x708004, x708005, x708006 => if x57 = true then (none) else ((laws_heldCmd.f k x708000 x708001 x708002 x708003 x708004 x708005 x708006 1).bind fun t724 => (if t724 < 0 then (none) else (if t724 = x7 then (some true) else (none))))
end
def laws_FnExactTextCmd.f (k : Nat) (a0 : ByteArray) : Option (Bool) := if (a0.size : Int) > 1048576 then (some true) else ((spec_TextCmd.f k a0).bind fun bt686 => ((impl_TextCmd.f k a0).bind fun bt697 => ((laws_eqCmd.f k bt697.1 bt697.2.1 bt697.2.2.1 bt697.2.2.2.1 bt697.2.2.2.2.1 bt697.2.2.2.2.2.1 bt697.2.2.2.2.2.2.1 bt686.1 bt686.2.1 bt686.2.2.1 bt686.2.2.2.1 bt686.2.2.2.2.1 bt686.2.2.2.2.2.1 bt686.2.2.2.2.2.2.1).bind fun t708 => (if t708 = true then (laws_FnExactTextCmd.j0 k a0 bt686.2.2.2.2.2.2.2 (bt697.2.2.2.2.2.2.2 != bt686.2.2.2.2.2.2.2) bt686.1 bt686.2.1 bt686.2.2.1 bt686.2.2.2.1 bt686.2.2.2.2.1 bt686.2.2.2.2.2.1 bt686.2.2.2.2.2.2.1 bt697.1 bt697.2.1 bt697.2.2.1 bt697.2.2.2.1 bt697.2.2.2.2.1 bt697.2.2.2.2.2.1 bt697.2.2.2.2.2.2.1) else (laws_FnExactTextCmd.j0 k a0 bt686.2.2.2.2.2.2.2 true bt686.1 bt686.2.1 bt686.2.2.1 bt686.2.2.2.1 bt686.2.2.2.2.1 bt686.2.2.2.2.2.1 bt686.2.2.2.2.2.2.1 bt697.1 bt697.2.1 bt697.2.2.1 bt697.2.2.2.1 bt697.2.2.2.2.1 bt697.2.2.2.2.2.1 bt697.2.2.2.2.2.2.1)))))
theorem laws_FnExactTextCmd.calls (k : Nat) (a0 : ByteArray) (r : Bool) (w : World)  (h : laws_FnExactTextCmd.f k a0 = some r) :
  Calls Try.prog 4 #[.string a0] w fun e w' => e = .returned (.bool r) ∧ Below w.heap.size w w' := by
 have hu35 := Try.underlying35
 have HM := Mem.nil w
 have H := h
 clear h
 unfold laws_FnExactTextCmd.f at H
 go_enter Try.func4, Try.ntmps4
 go_upto_if 13 with (fail)
 replace H := IT H; rcases H with ⟨c2, H⟩ | ⟨c2, H⟩
 ·replace c2 : (a0.size : Int) > 1048576 := c2
  have c2b0 : decide (1048576 < (a0.size : Int)) = true := decide_eq_true c2
  have c2b1 : decide (1048576 < a0.size) = true := decide_eq_true (by omega)
  clear c2
  first|rw [c2b0]|(simp only [i64_w, i32_w]; rw [c2b0])|skip
  obtain rfl := Option.some.inj H
  go_wp2
  go_ret
  exact ⟨ER, HM.bel⟩
 ·replace c2 : ¬ ((a0.size : Int) > 1048576) := c2
  have c2b0 : decide (1048576 < (a0.size : Int)) = false := decide_eq_false c2
  have c2b1 : decide (1048576 < a0.size) = false := decide_eq_false (by omega)
  clear c2
  first|rw [c2b0]|(simp only [i64_w, i32_w]; rw [c2b0])|skip
  replace H := BN H; obtain ⟨⟨t686, t687, t688, t689, t690, t691, t692, t695⟩, A3, H⟩ := H
  replace H := BN H; obtain ⟨⟨t697, t698, t699, t700, t701, t702, t703, t706⟩, A8, H⟩ := H
  have HC13 := Aside0.mk H
  clear H
  go_upto_region 5 with (first | ((with_reducible refine gC 11 rfl ?_); refine pC (some 16) rfl #[.string a0] rfl Try.func11 (spec_TextCmd.calls k a0 t686 t687 t688 t689 t690 t691 t692 t695 _ A3.out) ?_; rintro e w4 ⟨v693, rfl, hR⟩; refine ⟨_, rfl, ?_⟩; replace HM := HM.call hR; clear hR) | ((with_reducible refine gN 3 rfl ?_); refine pB 3 35 [.int .i64 0, .int .i64 0, .int .i64 0, .int .i64 0, .string (⟨#[]⟩ : ByteArray), .string (⟨#[]⟩ : ByteArray), .slice none 0 0] HM rfl ?_; clear HM; intro gb696 w5 HM; obtain ⟨Xo6, ko6, rfl⟩ := HM.rdR 0 rfl) | ((with_reducible refine gS 3 rfl ?_); refine pS 1 3 0 [.int .i64 t686, .int .i64 t687, .int .i64 t688, .int .i64 t689, .string t690, .string t691, .slice Xo6 t692.length ko6] HM rfl rfl ?_; clear HM; intro w7 HM) | ((with_reducible refine gC 12 rfl ?_); refine pC (some 21) rfl #[.string a0] rfl Try.func12 (impl_TextCmd.calls k a0 t697 t698 t699 t700 t701 t702 t703 t706 _ A8.out) ?_; rintro e w9 ⟨v704, rfl, hR⟩; refine ⟨_, rfl, ?_⟩; replace HM := HM.call hR; clear hR) | ((with_reducible refine gN 5 rfl ?_); refine pB 5 35 [.int .i64 0, .int .i64 0, .int .i64 0, .int .i64 0, .string (⟨#[]⟩ : ByteArray), .string (⟨#[]⟩ : ByteArray), .slice none 0 0] HM rfl ?_; clear HM; intro gb707 w10 HM; obtain ⟨Xo11, ko11, rfl⟩ := HM.rd 2 rfl) | ((with_reducible refine gS 5 rfl ?_); refine pS 3 5 0 [.int .i64 t697, .int .i64 t698, .int .i64 t699, .int .i64 t700, .string t701, .string t702, .slice Xo11 t703.length ko11] HM rfl rfl ?_; clear HM; intro w12 HM))
  replace HM := nzM HM
  try simp only [Act.put, List.setIfInBounds_toArray, List.set_cons_zero, List.set_cons_succ]
  go_cut [32] (fun v32 wc => ∃ (kq : Nat) (x32_12 : Bool), v32 = .bool x32_12 ∧ Aside0 (laws_FnExactTextCmd.j0 kq a0 t695 x32_12 t686 t687 t688 t689 t690 t691 t692 t697 t698 t699 t700 t701 t702 t703 = some r) ∧ Aside0 (kq ≤ k) ∧ Mem w [] wc [rowR Kd.string 9 (.slice Xo6 t692.length ko6) t692, row Kd.string 9 (.slice Xo11 t703.length ko11) t703, box 35 gb696 [.int .i64 t686, .int .i64 t687, .int .i64 t688, .int .i64 t689, .string t690, .string t691, (.slice Xo6 t692.length ko6)], box 35 gb707 [.int .i64 t697, .int .i64 t698, .int .i64 t699, .int .i64 t700, .string t701, .string t702, (.slice Xo11 t703.length ko11)]])
  case first =>
   have H := HC13.out
   clear HC13
   replace H := BN H; obtain ⟨t708, A16, H⟩ := H
   replace H := IB H
   rcases H with ⟨c18, H⟩ | ⟨c18, H⟩
   ·subst c18
    have H' := Aside0.mk H
    clear H
    obtain ⟨_,_,_,_,_,_,_,_,_,_,_,_,_,_⟩ := bk7 (HM.bx 3 rfl)
    obtain ⟨_,_,_,_,_,_,_,_,_,_,_,_,_,_⟩ := bk7 (HM.bx 1 rfl)
    go_wp2_with (first | ((with_reducible refine gC 13 rfl ?_); refine pC (some 26) rfl #[.agg #[.int .i64 t697, .int .i64 t698, .int .i64 t699, .int .i64 t700, .string t701, .string t702, .slice Xo11 t703.length ko11], .agg #[.int .i64 t686, .int .i64 t687, .int .i64 t688, .int .i64 t689, .string t690, .string t691, .slice Xo6 t692.length ko6]] rfl Try.func13 (laws_eqCmd.calls k t697 t698 t699 t700 t701 t702 _ _ t703 t686 t687 t688 t689 t690 t691 _ _ t692 true _ (HM.C 2 rfl).2.2 (HM.C 2 rfl).2.1 (HM.CR 0 rfl).2.2 (HM.CR 0 rfl).2.1 A16.out) ?_; rintro e w17 ⟨rfl, hR⟩; refine ⟨_, rfl, ?_⟩; replace HM := HM.call hR; clear hR))
    go_meet
    case rel => exact ⟨_, ((t706 != t695)), RS, H', ⟨by first | omega | exact Nat.le_refl _⟩, (MD HM).pick [0, 2, 1, 3]⟩
   ·subst c18
    have H' := Aside0.mk H
    clear H
    obtain ⟨_,_,_,_,_,_,_,_,_,_,_,_,_,_⟩ := bk7 (HM.bx 3 rfl)
    obtain ⟨_,_,_,_,_,_,_,_,_,_,_,_,_,_⟩ := bk7 (HM.bx 1 rfl)
    go_wp2_with (first | ((with_reducible refine gC 13 rfl ?_); refine pC (some 26) rfl #[.agg #[.int .i64 t697, .int .i64 t698, .int .i64 t699, .int .i64 t700, .string t701, .string t702, .slice Xo11 t703.length ko11], .agg #[.int .i64 t686, .int .i64 t687, .int .i64 t688, .int .i64 t689, .string t690, .string t691, .slice Xo6 t692.length ko6]] rfl Try.func13 (laws_eqCmd.calls k t697 t698 t699 t700 t701 t702 _ _ t703 t686 t687 t688 t689 t690 t691 _ _ t692 false _ (HM.C 2 rfl).2.2 (HM.C 2 rfl).2.1 (HM.CR 0 rfl).2.2 (HM.CR 0 rfl).2.1 A16.out) ?_; rintro e w17 ⟨rfl, hR⟩; refine ⟨_, rfl, ?_⟩; replace HM := HM.call hR; clear hR))
    go_meet
    case rel => exact ⟨_, (true), RS, H', ⟨by first | omega | exact Nat.le_refl _⟩, (MD HM).pick [0, 2, 1, 3]⟩
  case rest =>
   clear HC13 HM
   obtain ⟨kq, x32_12, rfl, HA, HJ12, HM⟩ := hcut
   cases kq with
   | zero => exact absurd HA.out (by simp [laws_FnExactTextCmd.j0])
   | succ kj12 =>
    have H := HA.out
    clear HA
    simp only [laws_FnExactTextCmd.j0] at H
    replace H := GN H
    obtain ⟨c19, H⟩ := H
    replace c19 := Bool.eq_false_iff.mpr c19
    subst c19
    replace H := BN H; obtain ⟨⟨t709, t710⟩, A21, H⟩ := H
    replace H := BN H; obtain ⟨t711, A24, H⟩ := H
    replace H := GN H; obtain ⟨c26, H⟩ := H
    have c26b0 : decide (t711 < 0) = false := decide_eq_false c26
    clear c26
    replace H := GD H; obtain ⟨c27, H⟩ := H
    have c27b0 : (t711 == t709) = true := beq_iff_eq.mpr c27
    have c27b1 : (t711 != t709) = false := bne_eq_false_iff_eq.mpr c27
    clear c27
    replace H := BN H; obtain ⟨⟨t712, t713, t714, t715, t716, t717, t718, t721⟩, A28, H⟩ := H
    have HC33 := Aside0.mk H
    clear H
    obtain ⟨_,_,_,_,_,_,_,_,_,_,_,_,_,_⟩ := bk7 (HM.bx 3 rfl)
    go_upto_region 16 with (first | ((with_reducible refine gC 14 rfl ?_); refine pC (some 35) rfl #[.agg #[.int .i64 t697, .int .i64 t698, .int .i64 t699, .int .i64 t700, .string t701, .string t702, .slice Xo11 t703.length ko11], .int .i64 1] rfl Try.func14 (laws_markCmd.calls kj12 t697 t698 t699 t700 t701 t702 (.slice Xo11 t703.length ko11) t703 1 t709 t710 _ _ _ (HM.focus [0, 2, 3] [1]) A21.out) ?_; rintro e w22 ⟨rfl, hR⟩; refine ⟨_, rfl, ?_⟩; replace HM := nzM hR.unfocus; clear hR; obtain ⟨_,_,_,_,_,_,_,_,_,_,_,_,_,_⟩ := bk7 (HM.bx 2 rfl)) | ((with_reducible refine gC 15 rfl ?_); refine pC (some 38) rfl #[.agg #[.int .i64 t697, .int .i64 t698, .int .i64 t699, .int .i64 t700, .string t701, .string t702, .slice Xo11 t710.length ko11], .int .i64 1] rfl Try.func15 (laws_heldCmd.calls kj12 t697 t698 t699 t700 t701 t702 _ _ t710 1 t711 _ (HM.C 3 rfl).2.2 (by rw [← (HM.C 3 rfl).1]; exact (HM.C 3 rfl).2.1) A24.out) ?_ (hargs := by (try simp only [List.map_toArray, List.map_cons, List.map_nil]); show (#[.agg #[.int .i64 t697, .int .i64 t698, .int .i64 t699, .int .i64 t700, .string t701, .string t702, .slice Xo11 t703.length ko11], .int .i64 1] : Array Value) = _; rw [(HM.C 3 rfl).1]); rintro e w25 ⟨rfl, hR⟩; refine ⟨_, rfl, ?_⟩; replace HM := HM.call hR; clear hR) | ((with_reducible refine gC 12 rfl ?_); refine pC (some 46) rfl #[.string a0] rfl Try.func12 (impl_TextCmd.calls kj12 a0 t712 t713 t714 t715 t716 t717 t718 t721 _ A28.out) ?_; rintro e w29 ⟨v719, rfl, hR⟩; refine ⟨_, rfl, ?_⟩; replace HM := HM.call hR; clear hR) | ((with_reducible refine gN 9 rfl ?_); refine pB 9 35 [.int .i64 0, .int .i64 0, .int .i64 0, .int .i64 0, .string (⟨#[]⟩ : ByteArray), .string (⟨#[]⟩ : ByteArray), .slice none 0 0] HM rfl ?_; clear HM; intro gb722 w30 HM; obtain ⟨Xo31, ko31, rfl⟩ := HM.rd 4 rfl) | ((with_reducible refine gS 9 rfl ?_); refine pS 5 9 0 [.int .i64 t712, .int .i64 t713, .int .i64 t714, .int .i64 t715, .string t716, .string t717, .slice Xo31 t718.length ko31] HM rfl rfl ?_; clear HM; intro w32 HM))
    replace HM := nzM HM
    try simp only [Act.put, List.setIfInBounds_toArray, List.set_cons_zero, List.set_cons_succ]
    go_cut [57] (fun v57 wc => ∃ (kq : Nat) (x57_32 : Bool), v57 = .bool x57_32 ∧ Aside0 (laws_FnExactTextCmd.j1 kq t709 x57_32 t697 t698 t699 t700 t701 t702 t710 = some r) ∧ Aside0 (kq ≤ kj12) ∧ Mem w [] wc [row Kd.string 9 (.slice Xo11 t703.length ko11) t710, box 35 gb707 [.int .i64 t697, .int .i64 t698, .int .i64 t699, .int .i64 t700, .string t701, .string t702, (.slice Xo11 t703.length ko11)]])
    case first =>
     have H := HC33.out
     clear HC33
     replace H := BN H; obtain ⟨t723, A36, H⟩ := H
     replace H := IB H
     rcases H with ⟨c38, H⟩ | ⟨c38, H⟩
     ·subst c38
      have H' := Aside0.mk H
      clear H
      obtain ⟨_,_,_,_,_,_,_,_,_,_,_,_,_,_⟩ := bk7 (HM.bx 5 rfl)
      obtain ⟨_,_,_,_,_,_,_,_,_,_,_,_,_,_⟩ := bk7 (HM.bx 1 rfl)
      go_wp2_with (first | ((with_reducible refine gC 13 rfl ?_); refine pC (some 51) rfl #[.agg #[.int .i64 t712, .int .i64 t713, .int .i64 t714, .int .i64 t715, .string t716, .string t717, .slice Xo31 t718.length ko31], .agg #[.int .i64 t686, .int .i64 t687, .int .i64 t688, .int .i64 t689, .string t690, .string t691, .slice Xo6 t692.length ko6]] rfl Try.func13 (laws_eqCmd.calls kj12 t712 t713 t714 t715 t716 t717 _ _ t718 t686 t687 t688 t689 t690 t691 _ _ t692 true _ (HM.C 4 rfl).2.2 (HM.C 4 rfl).2.1 (HM.CR 0 rfl).2.2 (HM.CR 0 rfl).2.1 A36.out) ?_; rintro e w37 ⟨rfl, hR⟩; refine ⟨_, rfl, ?_⟩; replace HM := HM.call hR; clear hR))
      go_meet
      case rel => exact ⟨_, ((t721 != t695)), RS, H', ⟨by have := HJ12.out; first | omega | exact Nat.le_refl _⟩, (MD HM).pick [3, 2]⟩
     ·subst c38
      have H' := Aside0.mk H
      clear H
      obtain ⟨_,_,_,_,_,_,_,_,_,_,_,_,_,_⟩ := bk7 (HM.bx 5 rfl)
      obtain ⟨_,_,_,_,_,_,_,_,_,_,_,_,_,_⟩ := bk7 (HM.bx 1 rfl)
      go_wp2_with (first | ((with_reducible refine gC 13 rfl ?_); refine pC (some 51) rfl #[.agg #[.int .i64 t712, .int .i64 t713, .int .i64 t714, .int .i64 t715, .string t716, .string t717, .slice Xo31 t718.length ko31], .agg #[.int .i64 t686, .int .i64 t687, .int .i64 t688, .int .i64 t689, .string t690, .string t691, .slice Xo6 t692.length ko6]] rfl Try.func13 (laws_eqCmd.calls kj12 t712 t713 t714 t715 t716 t717 _ _ t718 t686 t687 t688 t689 t690 t691 _ _ t692 false _ (HM.C 4 rfl).2.2 (HM.C 4 rfl).2.1 (HM.CR 0 rfl).2.2 (HM.CR 0 rfl).2.1 A36.out) ?_; rintro e w37 ⟨rfl, hR⟩; refine ⟨_, rfl, ?_⟩; replace HM := HM.call hR; clear hR))
      go_meet
      case rel => exact ⟨_, (true), RS, H', ⟨by have := HJ12.out; first | omega | exact Nat.le_refl _⟩, (MD HM).pick [3, 2]⟩
    case rest =>
     clear HC33 HM
     obtain ⟨kq, x57_32, rfl, HA, HJ32, HM⟩ := hcut
     cases kq with
     | zero => exact absurd HA.out (by simp [laws_FnExactTextCmd.j1])
     | succ kj32 =>
      have H := HA.out
      clear HA
      simp only [laws_FnExactTextCmd.j1] at H
      replace H := GN H
      obtain ⟨c39, H⟩ := H
      replace c39 := Bool.eq_false_iff.mpr c39
      subst c39
      replace H := BN H; obtain ⟨t724, A41, H⟩ := H
      replace H := GN H; obtain ⟨c43, H⟩ := H
      have c43b0 : decide (t724 < 0) = false := decide_eq_false c43
      clear c43
      replace H := GD H; obtain ⟨c44, H⟩ := H
      have c44b0 : (t724 == t709) = true := beq_iff_eq.mpr c44
      have c44b1 : (t724 != t709) = false := bne_eq_false_iff_eq.mpr c44
      clear c44
      obtain rfl := Option.some.inj H
      obtain ⟨_,_,_,_,_,_,_,_,_,_,_,_,_,_⟩ := bk7 (HM.bx 1 rfl)
      go_wp2_with (first | ((with_reducible refine gC 15 rfl ?_); refine pC (some 60) rfl #[.agg #[.int .i64 t697, .int .i64 t698, .int .i64 t699, .int .i64 t700, .string t701, .string t702, .slice Xo11 t710.length ko11], .int .i64 1] rfl Try.func15 (laws_heldCmd.calls kj32 t697 t698 t699 t700 t701 t702 _ _ t710 1 t724 _ (HM.C 0 rfl).2.2 (by rw [← (HM.C 0 rfl).1]; exact (HM.C 0 rfl).2.1) A41.out) ?_ (hargs := by (try simp only [List.map_toArray, List.map_cons, List.map_nil]); show (#[.agg #[.int .i64 t697, .int .i64 t698, .int .i64 t699, .int .i64 t700, .string t701, .string t702, .slice Xo11 t703.length ko11], .int .i64 1] : Array Value) = _; rw [(HM.C 0 rfl).1]); rintro e w42 ⟨rfl, hR⟩; refine ⟨_, rfl, ?_⟩; replace HM := HM.call hR; clear hR))
      go_ret
      exact ⟨ER, HM.bel⟩
end Go.Proofs.Ytnlnifpehndacaa.G
