/- Part 4 of the claim FnExactSurvey, merged by pack.py (this session's program) out of: the print's words, cut to what is needed; texts that gen.py printed (it runs the kit's print in place); texts of this session. -/
import Derived.Deep.RegionLaw
import Derived.RegionTactic
import Derived.Shelf.RegionOpenPlain
import Derived.Test.YtlokjgngjgbpmaaKFnExactSurvey0
import Derived.Test.YtlokjgngjgbpmaaKFnExactSurvey1
namespace Go.Proofs.Ytlokjgngjgbpmaa.Man
end Go.Proofs.Ytlokjgngjgbpmaa.Man
namespace Go.Proofs.Ytlokjgngjgbpmaa.Mm
end Go.Proofs.Ytlokjgngjgbpmaa.Mm
namespace Go.Proofs.Ytlokjgngjgbpmaa.Sh
end Go.Proofs.Ytlokjgngjgbpmaa.Sh
set_option maxHeartbeats 8000000
set_option maxRecDepth 100000
namespace Go.Proofs.Ytlokjgngjgbpmaa.G
open Go.RowKit Go.Proofs.YtlokjgngjgbpmaaW.PrintWords Go.Proofs.YtlokjgngjgbpmaaW.PrintLast Go.Proofs.YtlokjgngjgbpmaaW.PrintMore Go.Proofs.Ytlokjgngjgbpmaa.Sh
attribute [local go_sem] max2_int min2_int max_two min_two max_three min_three max_four min_four
set_option linter.unusedVariables false
set_option linter.unusedSimpArgs false
def impl_within.f (a0 : Int) (a1 : Int) (a2 : Int) : Option (Bool) := if a0 ≥ a1 then (some (decide (a0 ≤ a2))) else (some false)
theorem impl_within.calls (a0 : Int) (a1 : Int) (a2 : Int) (r : Bool) (w : World) (h : impl_within.f a0 a1 a2 = some r) :
  Calls Try.prog 28 #[.int .i64 a0, .int .i64 a1, .int .i64 a2] w fun e w' => e = .returned (.bool r) ∧ Drawn0 w w' := by
 have H : (if a0 ≥ a1 then (some (decide (a0 ≤ a2))) else (some false)) = some r := h
 clear h
 by_cases c4 : a0 ≥ a1
 ·rw [if_pos c4] at H
  have c4b0 : decide (a1 ≤ a0) = true := decide_eq_true c4
  clear c4
  obtain rfl := Option.some.inj H
  go_enter Try.func28, Try.ntmps28
  go_wp2
  go_ret
  exact ⟨by first | rfl | (simp; done) | (simp [*]; done), DR⟩
 ·rw [if_neg c4] at H
  have c4b0 : decide (a1 ≤ a0) = false := decide_eq_false c4
  clear c4
  obtain rfl := Option.some.inj H
  go_enter Try.func28, Try.ntmps28
  go_wp2
  go_ret
  exact ⟨by first | rfl | (simp; done) | (simp [*]; done), DR⟩
def impl_isPlain.l0 : Nat → ByteArray → Int → Option (Bool)
 | 0, _, _ => none
 | k + 1, x0, x3 => if x3 < (x0.size : Int) then (if 0 ≤ x3 then (if (bt x0 x3) = 32 then (some false) else (if (bt x0 x3) = 10 then (some false) else (impl_isPlain.l0 k x0 (wrap64 (x3 + 1))))) else (none)) else (some true)
def impl_isPlain.f (k : Nat) (a0 : ByteArray) : Option (Bool) := impl_isPlain.l0 k a0 0
theorem impl_isPlain.calls (k : Nat) (a0 : ByteArray) (r : Bool) (w : World) (h : impl_isPlain.f k a0 = some r) :
  Calls Try.prog 58 #[.string a0] w fun e w' => e = .returned (.bool r) ∧ Drawn0 w w' := by
 have H : (impl_isPlain.l0 k a0 0) = some r := h
 clear h
 have H' := Aside0.mk H
 clear H
 go_enter Try.func58, Try.ntmps58
 go_wp2
 go_loopg [3] k (fun kq v3 w' => ∃ (x3_1 : Int), v3 = .int .i64 x3_1 ∧ Aside0 (impl_isPlain.l0 kq a0 x3_1 = some r) ∧ Aside0 (kq ≤ k) ∧ Drawn0 w w')
 case atStart => exact ⟨(0), RS, H', ⟨Nat.le_refl _⟩, DR⟩
 case round =>
  clear H'
  obtain ⟨x3_1, rfl, HA, HK1, ⟨m1, rfl⟩⟩ := hrel
  cases gk with
  | zero => exact absurd HA.out (by simp [impl_isPlain.l0])
  | succ k1 =>
   have H := HA.out
   clear HA
   simp only [impl_isPlain.l0] at H
   by_cases c2 : x3_1 < (a0.size : Int)
   ·rw [if_pos c2] at H
    have c2b0 : decide (x3_1 < (a0.size : Int)) = true := decide_eq_true c2
    clear c2
    by_cases c3 : 0 ≤ x3_1
    ·rw [if_pos c3] at H
     have c3b0 : decide (0 ≤ x3_1) = true := decide_eq_true c3
     clear c3
     by_cases c5 : (bt a0 x3_1) = 32
     ·rw [if_pos c5] at H
      have c5b0 : ((bt a0 x3_1) == 32) = true := beq_iff_eq.mpr c5
      have c5b1 : ((bt a0 x3_1) != 32) = false := bne_eq_false_iff_eq.mpr c5
      clear c5
      obtain rfl := Option.some.inj H
      have p4 : 0 ≤ (x3_1 : Int) := of_decide_eq_true AS
      have q4 : x3_1 < (a0.size : Int) := of_decide_eq_true AS
      have hx4 := bt_at a0 x3_1
      replace p4 := eq_true p4
      replace q4 := eq_true q4
      go_wp2
      go_ret
      exact ⟨by first | rfl | (simp; done) | (simp [*]; done), DR⟩
     ·rw [if_neg c5] at H
      have c5b0 : ((bt a0 x3_1) == 32) = false := beq_eq_false_iff_ne.mpr c5
      have c5b1 : ((bt a0 x3_1) != 32) = true := bne_iff_ne.mpr c5
      by_cases c7 : (bt a0 x3_1) = 10
      ·rw [if_pos c7] at H
       have c7b0 : ((bt a0 x3_1) == 10) = true := beq_iff_eq.mpr c7
       have c7b1 : ((bt a0 x3_1) != 10) = false := bne_eq_false_iff_eq.mpr c7
       clear c7
       obtain rfl := Option.some.inj H
       have p4 : 0 ≤ (x3_1 : Int) := of_decide_eq_true AS
       have q4 : x3_1 < (a0.size : Int) := of_decide_eq_true AS
       have hx4 := bt_at a0 x3_1
       replace p4 := eq_true p4
       replace q4 := eq_true q4
       have p6 : 0 ≤ (x3_1 : Int) := of_decide_eq_true AS
       have q6 : x3_1 < (a0.size : Int) := of_decide_eq_true AS
       have hx6 := bt_at a0 x3_1
       replace p6 := eq_true p6
       replace q6 := eq_true q6
       go_wp2
       go_ret
       exact ⟨by first | rfl | (simp; done) | (simp [*]; done), DR⟩
      ·rw [if_neg c7] at H
       have c7b0 : ((bt a0 x3_1) == 10) = false := beq_eq_false_iff_ne.mpr c7
       have c7b1 : ((bt a0 x3_1) != 10) = true := bne_iff_ne.mpr c7
       have H' := Aside0.mk H
       clear H
       have p4 : 0 ≤ (x3_1 : Int) := of_decide_eq_true AS
       have q4 : x3_1 < (a0.size : Int) := of_decide_eq_true AS
       have hx4 := bt_at a0 x3_1
       replace p4 := eq_true p4
       replace q4 := eq_true q4
       have p6 : 0 ≤ (x3_1 : Int) := of_decide_eq_true AS
       have q6 : x3_1 < (a0.size : Int) := of_decide_eq_true AS
       have hx6 := bt_at a0 x3_1
       replace p6 := eq_true p6
       replace q6 := eq_true q6
       go_wp2
       go_roundg k1
       case measure => have := HK1.out; omega
       case rel => exact ⟨(wrap64 (x3_1 + 1)), RS, H', ⟨by have := HK1.out; omega⟩, DR⟩
    ·rw [if_neg c3] at H
     exact absurd H (by simp)
   ·rw [if_neg c2] at H
    have c2b0 : decide (x3_1 < (a0.size : Int)) = false := decide_eq_false c2
    clear c2
    obtain rfl := Option.some.inj H
    go_wp2
    go_ret
    exact ⟨by first | rfl | (simp; done) | (simp [*]; done), DR⟩
end Go.Proofs.Ytlokjgngjgbpmaa.G

namespace Go.Proofs.Ytlokjgngjgbpmaa.G
open Go.RowKit Go.Proofs.YtlokjgngjgbpmaaW.PrintWords Go.Proofs.YtlokjgngjgbpmaaW.PrintLast Go.Proofs.YtlokjgngjgbpmaaW.PrintMore Go.Proofs.Ytlokjgngjgbpmaa.Sh
attribute [local go_sem] max2_int min2_int max_two min_two max_three min_three max_four min_four
set_option linter.unusedVariables false
set_option linter.unusedSimpArgs false
open Go.Proofs.Ytlokjgngjgbpmaa.Mm
def impl_ItemOk.f (k : Nat) (a0_0 : ByteArray) (a0_1 : ByteArray) (a0_2 : Int) : Option (Bool) := (impl_within.f (a0_0.size : Int) 1 20).bind fun t169 => (if t169 = true then (if (a0_1.size : Int) ≤ 40 then ((impl_isPlain.f k a0_0).bind fun t170 => (if t170 = true then ((impl_isPlain.f k a0_1).bind fun t171 => (if t171 = true then ((impl_within.f a0_2 0 3).bind fun t172 => (some t172)) else (some false))) else (some false))) else (some false)) else (some false))
theorem impl_ItemOk.calls (k : Nat) (a0_0 : ByteArray) (a0_1 : ByteArray) (a0_2 : Int) (r : Bool) (w : World)  (h : impl_ItemOk.f k a0_0 a0_1 a0_2 = some r) :
  Calls Try.prog 42 #[.agg #[.string a0_0, .string a0_1, .int .i64 a0_2]] w fun e w' => e = .returned (.bool r) ∧ Mem w [] w' [] := by
 have hu67 := Try.underlying67
 have HM := Mem.nil w
 have H := h
 clear h
 unfold impl_ItemOk.f at H
 go_enter Try.func42, Try.ntmps42
 replace H := BN H; obtain ⟨t169, A4, H⟩ := H
 replace H := IB H
 rcases H with ⟨c6, H⟩ | ⟨c6, H⟩
 ·subst c6
  replace H := IT H; rcases H with ⟨c8, H⟩ | ⟨c8, H⟩
  ·replace c8 : (a0_1.size : Int) ≤ 40 := c8
   have c8b0 := decide_eq_true c8
   have c8b1 : decide (a0_1.size ≤ 40) = true := decide_eq_true (by omega)
   clear c8
   replace H := BN H; obtain ⟨t170, A9, H⟩ := H
   replace H := IB H
   rcases H with ⟨c11, H⟩ | ⟨c11, H⟩
   ·subst c11
    replace H := BN H; obtain ⟨t171, A13, H⟩ := H
    replace H := IB H
    rcases H with ⟨c15, H⟩ | ⟨c15, H⟩
    ·subst c15
     replace H := BN H; obtain ⟨t172, A17, H⟩ := H
     obtain rfl := Option.some.inj H
     go_wp2_with (first | ((with_reducible refine gN 1 rfl ?_); refine pB 1 67 [.string a0_0, .string a0_1, .int .i64 a0_2] HM rfl ?_; clear HM; intro gb168 w2 HM; obtain ⟨_,_,_,_,_,_⟩ := bk3 (HM.bx 0 rfl)) | ((with_reducible refine gC 28 rfl ?_); refine pC (some 6) rfl #[.int .i64 (a0_0.size : Int), .int .i64 1, .int .i64 20] rfl Try.func28 (impl_within.calls (a0_0.size : Int) 1 20 true _ A4.out) ?_; rintro e w5 ⟨rfl, hd⟩; refine ⟨_, rfl, ?_⟩; replace HM := HM.drawn hd; clear hd; obtain ⟨_,_,_,_,_,_⟩ := bk3 (HM.bx 0 rfl)) | ((with_reducible refine gC 58 rfl ?_); refine pC (some 16) rfl #[.string a0_0] rfl Try.func58 (impl_isPlain.calls k a0_0 true _ A9.out) ?_; rintro e w10 ⟨rfl, hd⟩; refine ⟨_, rfl, ?_⟩; replace HM := HM.drawn hd; clear hd; obtain ⟨_,_,_,_,_,_⟩ := bk3 (HM.bx 0 rfl)) | ((with_reducible refine gC 58 rfl ?_); refine pC (some 21) rfl #[.string a0_1] rfl Try.func58 (impl_isPlain.calls k a0_1 true _ A13.out) ?_; rintro e w14 ⟨rfl, hd⟩; refine ⟨_, rfl, ?_⟩; replace HM := HM.drawn hd; clear hd; obtain ⟨_,_,_,_,_,_⟩ := bk3 (HM.bx 0 rfl)) | ((with_reducible refine gC 28 rfl ?_); refine pC (some 26) rfl #[.int .i64 a0_2, .int .i64 0, .int .i64 3] rfl Try.func28 (impl_within.calls a0_2 0 3 t172 _ A17.out) ?_; rintro e w18 ⟨rfl, hd⟩; refine ⟨_, rfl, ?_⟩; replace HM := HM.drawn hd; clear hd))
     go_ret
     exact ⟨ER, (MD HM).pick []⟩
    ·subst c15
     obtain rfl := Option.some.inj H
     go_wp2_with (first | ((with_reducible refine gN 1 rfl ?_); refine pB 1 67 [.string a0_0, .string a0_1, .int .i64 a0_2] HM rfl ?_; clear HM; intro gb168 w2 HM; obtain ⟨_,_,_,_,_,_⟩ := bk3 (HM.bx 0 rfl)) | ((with_reducible refine gC 28 rfl ?_); refine pC (some 6) rfl #[.int .i64 (a0_0.size : Int), .int .i64 1, .int .i64 20] rfl Try.func28 (impl_within.calls (a0_0.size : Int) 1 20 true _ A4.out) ?_; rintro e w5 ⟨rfl, hd⟩; refine ⟨_, rfl, ?_⟩; replace HM := HM.drawn hd; clear hd; obtain ⟨_,_,_,_,_,_⟩ := bk3 (HM.bx 0 rfl)) | ((with_reducible refine gC 58 rfl ?_); refine pC (some 16) rfl #[.string a0_0] rfl Try.func58 (impl_isPlain.calls k a0_0 true _ A9.out) ?_; rintro e w10 ⟨rfl, hd⟩; refine ⟨_, rfl, ?_⟩; replace HM := HM.drawn hd; clear hd; obtain ⟨_,_,_,_,_,_⟩ := bk3 (HM.bx 0 rfl)) | ((with_reducible refine gC 58 rfl ?_); refine pC (some 21) rfl #[.string a0_1] rfl Try.func58 (impl_isPlain.calls k a0_1 false _ A13.out) ?_; rintro e w14 ⟨rfl, hd⟩; refine ⟨_, rfl, ?_⟩; replace HM := HM.drawn hd; clear hd))
     go_ret
     exact ⟨ER, (MD HM).pick []⟩
   ·subst c11
    obtain rfl := Option.some.inj H
    go_wp2_with (first | ((with_reducible refine gN 1 rfl ?_); refine pB 1 67 [.string a0_0, .string a0_1, .int .i64 a0_2] HM rfl ?_; clear HM; intro gb168 w2 HM; obtain ⟨_,_,_,_,_,_⟩ := bk3 (HM.bx 0 rfl)) | ((with_reducible refine gC 28 rfl ?_); refine pC (some 6) rfl #[.int .i64 (a0_0.size : Int), .int .i64 1, .int .i64 20] rfl Try.func28 (impl_within.calls (a0_0.size : Int) 1 20 true _ A4.out) ?_; rintro e w5 ⟨rfl, hd⟩; refine ⟨_, rfl, ?_⟩; replace HM := HM.drawn hd; clear hd; obtain ⟨_,_,_,_,_,_⟩ := bk3 (HM.bx 0 rfl)) | ((with_reducible refine gC 58 rfl ?_); refine pC (some 16) rfl #[.string a0_0] rfl Try.func58 (impl_isPlain.calls k a0_0 false _ A9.out) ?_; rintro e w10 ⟨rfl, hd⟩; refine ⟨_, rfl, ?_⟩; replace HM := HM.drawn hd; clear hd))
    go_ret
    exact ⟨ER, (MD HM).pick []⟩
  ·replace c8 : ¬ ((a0_1.size : Int) ≤ 40) := c8
   have c8b0 := decide_eq_false c8
   have c8b1 : decide (a0_1.size ≤ 40) = false := decide_eq_false (by omega)
   clear c8
   obtain rfl := Option.some.inj H
   go_wp2_with (first | ((with_reducible refine gN 1 rfl ?_); refine pB 1 67 [.string a0_0, .string a0_1, .int .i64 a0_2] HM rfl ?_; clear HM; intro gb168 w2 HM; obtain ⟨_,_,_,_,_,_⟩ := bk3 (HM.bx 0 rfl)) | ((with_reducible refine gC 28 rfl ?_); refine pC (some 6) rfl #[.int .i64 (a0_0.size : Int), .int .i64 1, .int .i64 20] rfl Try.func28 (impl_within.calls (a0_0.size : Int) 1 20 true _ A4.out) ?_; rintro e w5 ⟨rfl, hd⟩; refine ⟨_, rfl, ?_⟩; replace HM := HM.drawn hd; clear hd; obtain ⟨_,_,_,_,_,_⟩ := bk3 (HM.bx 0 rfl)))
   go_ret
   exact ⟨ER, (MD HM).pick []⟩
 ·subst c6
  obtain rfl := Option.some.inj H
  go_wp2_with (first | ((with_reducible refine gN 1 rfl ?_); refine pB 1 67 [.string a0_0, .string a0_1, .int .i64 a0_2] HM rfl ?_; clear HM; intro gb168 w2 HM; obtain ⟨_,_,_,_,_,_⟩ := bk3 (HM.bx 0 rfl)) | ((with_reducible refine gC 28 rfl ?_); refine pC (some 6) rfl #[.int .i64 (a0_0.size : Int), .int .i64 1, .int .i64 20] rfl Try.func28 (impl_within.calls (a0_0.size : Int) 1 20 false _ A4.out) ?_; rintro e w5 ⟨rfl, hd⟩; refine ⟨_, rfl, ?_⟩; replace HM := HM.drawn hd; clear hd))
  go_ret
  exact ⟨ER, (MD HM).pick []⟩
def impl_AsksOk.l0 : Nat → List ByteArray → List ByteArray → Int → Int → Option (Bool)
 | 0, _, _, _, _ => none
 | k + 1, x0, x5, x6, x7 => if x7 < x6 then (if 0 ≤ x7 then (if x7 < (x5.length : Int) then ((impl_ItemOk.f k (rdOf ByteArray.empty x5 x7) (⟨#[]⟩ : ByteArray) 0).bind fun t174 => (if t174 = true then (impl_AsksOk.l0 k x0 x5 x6 (wrap64 (x7 + 1))) else (some false))) else (none)) else (none)) else (some (decide ((x0.length : Int) ≤ 300)))
def impl_AsksOk.f (k : Nat) (l0 : List ByteArray) : Option (Bool) := impl_AsksOk.l0 k l0 l0 (l0.length : Int) 0
theorem impl_AsksOk.calls (k : Nat) (A0 : Option Addr) (c0 : Nat) (l0 : List ByteArray) (r : Bool) (w : World) (hr0 : Kd.C Kd.string w A0 l0.length l0) (hc0 : l0.length ≤ c0) (h : impl_AsksOk.f k l0 = some r) :
  Calls Try.prog 27 #[.slice A0 l0.length c0] w fun e w' => e = .returned (.bool r) ∧ Mem w [] w' [] := by
 have hu67 := Try.underlying67
 have HR0 := Aside0.mk hr0
 have HC0 := Aside0.mk hc0
 clear hr0 hc0
 have HM := Mem.nil w
 have H := h
 clear h
 unfold impl_AsksOk.f at H
 go_enter Try.func27, Try.ntmps27
 have H' := Aside0.mk H
 clear H
 go_wp2
 go_loopg [7] k (fun kq v7 w' => ∃ (x7_1 : Int), v7 = .int .i64 x7_1 ∧ Aside0 (impl_AsksOk.l0 kq l0 l0 (l0.length : Int) x7_1 = some r) ∧ Aside0 (kq ≤ k) ∧ Mem w [] w' [])
 case atStart => exact ⟨(0), RS, H', ⟨Nat.le_refl _⟩, (MD HM).pick []⟩
 case round =>
  clear H' HM
  obtain ⟨x7_1, rfl, HA, HK1, HM⟩ := hrel
  cases gk with
  | zero => exact absurd HA.out (by simp [impl_AsksOk.l0])
  | succ k1 =>
   have H := HA.out
   clear HA
   simp only [impl_AsksOk.l0] at H
   go_upto_if 8 with (fail)
   replace H := IT H; rcases H with ⟨c2, H⟩ | ⟨c2, H⟩
   ·have c2b0 := decide_eq_true c2
    clear c2
    first|rw [c2b0]|(simp only [i64_w, i32_w]; rw [c2b0])|skip
    replace H := GD H; obtain ⟨c3, H⟩ := H
    have c3b0 := decide_eq_true c3
    clear c3
    replace H := GD H; obtain ⟨c4, H⟩ := H
    have c4b0 := decide_eq_true c4
    clear c4
    replace H := BN H; obtain ⟨t174, A5, H⟩ := H
    have p173 : 0 ≤ (x7_1 : Int) := of_decide_eq_true AS
    have q173 : (x7_1 : Int) < (l0.length : Int) := of_decide_eq_true AS
    obtain ⟨ad173, e173, hx173_0⟩ := Kd.at_string (HM.came HR0.out) x7_1 p173 q173
    cases e173
    replace p173 := eq_true p173
    replace q173 := eq_true q173
    go_upto_if 14 with (first | ((with_reducible refine gC 42 rfl ?_); refine pC (some 13) rfl #[.agg #[.string (rdOf ByteArray.empty l0 x7_1), .string (⟨#[]⟩ : ByteArray), .int .i64 0]] rfl Try.func42 (impl_ItemOk.calls k1 (rdOf ByteArray.empty l0 x7_1) (⟨#[]⟩ : ByteArray) 0 t174 _ A5.out) ?_; rintro e w6 ⟨rfl, hR⟩; refine ⟨_, rfl, ?_⟩; replace HM := HM.call hR; clear hR))
    replace H := IB H
    rcases H with ⟨c7, H⟩ | ⟨c7, H⟩
    ·subst c7
     have H' := Aside0.mk H
     clear H
     go_wp2
     go_roundg k1
     case measure => have := HK1.out; omega
     case rel => exact ⟨(wrap64 (x7_1 + 1)), RS, H', ⟨by have := HK1.out; omega⟩, (MD HM).pick []⟩
    ·subst c7
     obtain rfl := Option.some.inj H
     go_wp2
     go_ret
     exact ⟨ER, (MD HM).pick []⟩
   ·have c2b0 := decide_eq_false c2
    clear c2
    first|rw [c2b0]|(simp only [i64_w, i32_w]; rw [c2b0])|skip
    obtain rfl := Option.some.inj H
    go_wp2
    go_ret
    exact ⟨ER, (MD HM).pick []⟩
end Go.Proofs.Ytlokjgngjgbpmaa.G

namespace Go.Proofs.Ytlokjgngjgbpmaa.G
open Go.RowKit Go.Proofs.YtlokjgngjgbpmaaW.PrintWords Go.Proofs.YtlokjgngjgbpmaaW.PrintLast Go.Proofs.YtlokjgngjgbpmaaW.PrintMore Go.Proofs.Ytlokjgngjgbpmaa.Sh
attribute [local go_sem] max2_int min2_int max_two min_two max_three min_three max_four min_four
set_option linter.unusedVariables false
set_option linter.unusedSimpArgs false
def impl_hitsIn.l0 : Nat → Int → List Bool → Int → Int → Option (Int)
 | 0, _, _, _, _ => none
 | k + 1, x3, x6, x7, x8 => if x8 < x7 then (if 0 ≤ x8 then (if x8 < (x6.length : Int) then (if rdOf false x6 x8 = true then (impl_hitsIn.l0 k (wrap64 (x3 + 1)) x6 x7 (wrap64 (x8 + 1))) else (impl_hitsIn.l0 k x3 x6 x7 (wrap64 (x8 + 1)))) else (none)) else (none)) else (some x3)
def impl_hitsIn.f (k : Nat) (l0 : List Bool) : Option (Int) := impl_hitsIn.l0 k 0 l0 (l0.length : Int) 0
theorem impl_hitsIn.calls (k : Nat) (A0 : Option Addr) (c0 : Nat) (l0 : List Bool) (r : Int) (w : World) (hr0 : Kd.C Kd.bool w A0 l0.length l0) (hc0 : l0.length ≤ c0) (h : impl_hitsIn.f k l0 = some r) :
  Calls Try.prog 32 #[.slice A0 l0.length c0] w fun e w' => e = .returned (.int .i64 r) ∧ Drawn0 w w' := by
 have HR0 := Aside0.mk hr0
 have HC0 := Aside0.mk hc0
 clear hr0 hc0
 have H : (impl_hitsIn.l0 k 0 l0 (l0.length : Int) 0) = some r := h
 clear h
 have H' := Aside0.mk H
 clear H
 go_enter Try.func32, Try.ntmps32
 go_wp2
 go_loopg [3, 8] k (fun kq v3 v8 w' => ∃ (x3_1 : Int) (x8_1 : Int), v3 = .int .i64 x3_1 ∧ v8 = .int .i64 x8_1 ∧ Aside0 (impl_hitsIn.l0 kq x3_1 l0 (l0.length : Int) x8_1 = some r) ∧ Aside0 (kq ≤ k) ∧ Drawn0 w w')
 case atStart => exact ⟨(0), (0), RS, RS, H', ⟨Nat.le_refl _⟩, DR⟩
 case round =>
  clear H'
  obtain ⟨x3_1, x8_1, rfl, rfl, HA, HK1, ⟨m1, rfl⟩⟩ := hrel
  cases gk with
  | zero => exact absurd HA.out (by simp [impl_hitsIn.l0])
  | succ k1 =>
   have H := HA.out
   clear HA
   simp only [impl_hitsIn.l0] at H
   by_cases c2 : x8_1 < (l0.length : Int)
   ·rw [if_pos c2] at H
    have c2b0 : decide (x8_1 < (l0.length : Int)) = true := decide_eq_true c2
    clear c2
    by_cases c3 : 0 ≤ x8_1
    ·rw [if_pos c3] at H
     have c3b0 : decide (0 ≤ x8_1) = true := decide_eq_true c3
     clear c3
     by_cases c4 : x8_1 < (l0.length : Int)
     ·rw [if_pos c4] at H
      have c4b0 : decide (x8_1 < (l0.length : Int)) = true := decide_eq_true c4
      clear c4
      obtain ⟨bq5, hbq5⟩ : ∃ b_ : Bool, b_ = (rdOf false l0 x8_1) := ⟨_, rfl⟩
      replace H : (if bq5 = true then (impl_hitsIn.l0 k1 (wrap64 (x3_1 + 1)) l0 (l0.length : Int) (wrap64 (x8_1 + 1))) else (impl_hitsIn.l0 k1 x3_1 l0 (l0.length : Int) (wrap64 (x8_1 + 1)))) = some r := by rw [← hbq5] at H; exact H
      have Nbq5 := Aside0.mk hbq5
      clear hbq5
      by_cases c6 : bq5 = true
      ·subst c6
       replace H := IP H
       have H' := Aside0.mk H
       clear H
       have p637 : 0 ≤ (x8_1 : Int) := of_decide_eq_true AS
       have q637 : x8_1 < (l0.length : Int) := of_decide_eq_true AS
       obtain ⟨ad637, e637, hx637_0⟩ := Kd.at_bool HR0.out x8_1 p637 q637
       (try rw [← Nbq5.out] at hx637_0)
       cases e637
       replace p637 := eq_true p637
       replace q637 := eq_true q637
       go_wp2
       go_roundg k1
       case measure => have := HK1.out; omega
       case rel => exact ⟨(wrap64 (x3_1 + 1)), (wrap64 (x8_1 + 1)), RS, RS, H', ⟨by have := HK1.out; omega⟩, DR⟩
      ·replace c6 := Bool.eq_false_iff.mpr c6
       subst c6
       replace H := IN H
       have H' := Aside0.mk H
       clear H
       have p637 : 0 ≤ (x8_1 : Int) := of_decide_eq_true AS
       have q637 : x8_1 < (l0.length : Int) := of_decide_eq_true AS
       obtain ⟨ad637, e637, hx637_0⟩ := Kd.at_bool HR0.out x8_1 p637 q637
       (try rw [← Nbq5.out] at hx637_0)
       cases e637
       replace p637 := eq_true p637
       replace q637 := eq_true q637
       go_wp2
       go_roundg k1
       case measure => have := HK1.out; omega
       case rel => exact ⟨(x3_1), (wrap64 (x8_1 + 1)), RS, RS, H', ⟨by have := HK1.out; omega⟩, DR⟩
     ·rw [if_neg c4] at H
      exact absurd H (by simp)
    ·rw [if_neg c3] at H
     exact absurd H (by simp)
   ·rw [if_neg c2] at H
    have c2b0 : decide (x8_1 < (l0.length : Int)) = false := decide_eq_false c2
    clear c2
    obtain rfl := Option.some.inj H
    go_wp2
    go_ret
    exact ⟨by first | rfl | (simp; done) | (simp [*]; done), DR⟩
def slices_Index_string_string.l0 : Nat → List ByteArray → ByteArray → Int → Int → Option (Int)
 | 0, _, _, _, _ => none
 | k + 1, x0, x1, x7, x8 => if x8 < x7 then (if 0 ≤ x8 then (if x8 < (x0.length : Int) then (if x1.toList = (rdOf ByteArray.empty x0 x8).toList then (some x8) else (slices_Index_string_string.l0 k x0 x1 x7 (wrap64 (x8 + 1)))) else (none)) else (none)) else (some (-1))
def slices_Index_string_string.f (k : Nat) (l0 : List ByteArray) (a1 : ByteArray) : Option (Int) := slices_Index_string_string.l0 k l0 a1 (l0.length : Int) 0
theorem slices_Index_string_string.mono_l : ∀ k, (∀ y0 y1 y2 y3, LeO (slices_Index_string_string.l0 k y0 y1 y2 y3) (slices_Index_string_string.l0 (k + 1) y0 y1 y2 y3))
 | 0 => fun _ _ _ _ r h => by simp [slices_Index_string_string.l0] at h
 | k + 1 => by
  have ih0 := slices_Index_string_string.mono_l k
  ·intro y0 y1 y2 y3
   unfold slices_Index_string_string.l0
   repeat' first | (with_reducible first | exact ih0 _ _ _ _ | exact LeO.refl _ | exact LeO.none _ | refine LeO.ite ?_ ?_ | refine LeO.bind ?_ (fun _ => ?_)) | exact LeO.none _ | refine LeO.ite ?_ ?_ | refine LeO.bind ?_ (fun _ => ?_)
theorem slices_Index_string_string.mono : ∀ a0 a1 k, LeO (slices_Index_string_string.f k a0 a1) (slices_Index_string_string.f (k + 1) a0 a1) := by
 intro a0 a1 k
 have ih0 := slices_Index_string_string.mono_l k
 unfold slices_Index_string_string.f
 repeat' first | (with_reducible first | exact ih0 _ _ _ _ | exact LeO.refl _ | exact LeO.none _ | refine LeO.ite ?_ ?_ | refine LeO.bind ?_ (fun _ => ?_)) | exact LeO.none _ | refine LeO.ite ?_ ?_ | refine LeO.bind ?_ (fun _ => ?_)
theorem slices_Index_string_string.calls (k : Nat) (A0 : Option Addr) (c0 : Nat) (l0 : List ByteArray) (a1 : ByteArray) (r : Int) (w : World) (hr0 : Kd.C Kd.string w A0 l0.length l0) (hc0 : l0.length ≤ c0) (h : slices_Index_string_string.f k l0 a1 = some r) :
  Calls Try.prog 65 #[.slice A0 l0.length c0, .string a1] w fun e w' => e = .returned (.int .i64 r) ∧ Drawn0 w w' := by
 have HR0 := Aside0.mk hr0
 have HC0 := Aside0.mk hc0
 clear hr0 hc0
 have H : (slices_Index_string_string.l0 k l0 a1 (l0.length : Int) 0) = some r := h
 clear h
 have H' := Aside0.mk H
 clear H
 go_enter Try.func65, Try.ntmps65
 go_wp2
 go_loopg [8] k (fun kq v8 w' => ∃ (x8_1 : Int), v8 = .int .i64 x8_1 ∧ Aside0 (slices_Index_string_string.l0 kq l0 a1 (l0.length : Int) x8_1 = some r) ∧ Aside0 (kq ≤ k) ∧ Drawn0 w w')
 case atStart => exact ⟨(0), RS, H', ⟨Nat.le_refl _⟩, DR⟩
 case round =>
  clear H'
  try clear p2
  obtain ⟨x8_1, rfl, HA, HK1, ⟨m1, rfl⟩⟩ := hrel
  cases gk with
  | zero => exact absurd HA.out (by simp [slices_Index_string_string.l0])
  | succ k1 =>
   have H := HA.out
   clear HA
   simp only [slices_Index_string_string.l0] at H
   by_cases c3 : x8_1 < (l0.length : Int)
   ·rw [if_pos c3] at H
    have c3b0 : decide (x8_1 < (l0.length : Int)) = true := decide_eq_true c3
    clear c3
    by_cases c4 : 0 ≤ x8_1
    ·rw [if_pos c4] at H
     have c4b0 : decide (0 ≤ x8_1) = true := decide_eq_true c4
     clear c4
     by_cases c5 : x8_1 < (l0.length : Int)
     ·rw [if_pos c5] at H
      have c5b0 : decide (x8_1 < (l0.length : Int)) = true := decide_eq_true c5
      clear c5
      by_cases c6 : a1.toList = (rdOf ByteArray.empty l0 x8_1).toList
      ·rw [if_pos c6] at H
       have c6b0 : (a1.toList == (rdOf ByteArray.empty l0 x8_1).toList) = true := beq_iff_eq.mpr c6
       have c6b1 : (a1.toList != (rdOf ByteArray.empty l0 x8_1).toList) = false := bne_eq_false_iff_eq.mpr c6
       clear c6
       obtain rfl := Option.some.inj H
       have p665 : 0 ≤ (x8_1 : Int) := of_decide_eq_true AS
       have q665 : x8_1 < (l0.length : Int) := of_decide_eq_true AS
       obtain ⟨ad665, e665, hx665_0⟩ := Kd.at_string HR0.out x8_1 p665 q665
       cases e665
       replace p665 := eq_true p665
       replace q665 := eq_true q665
       go_wp2
       go_ret
       exact ⟨by first | rfl | (simp; done) | (simp [*]; done), DR⟩
      ·rw [if_neg c6] at H
       have c6b0 : (a1.toList == (rdOf ByteArray.empty l0 x8_1).toList) = false := beq_eq_false_iff_ne.mpr c6
       have c6b1 : (a1.toList != (rdOf ByteArray.empty l0 x8_1).toList) = true := bne_iff_ne.mpr c6
       have H' := Aside0.mk H
       clear H
       have p665 : 0 ≤ (x8_1 : Int) := of_decide_eq_true AS
       have q665 : x8_1 < (l0.length : Int) := of_decide_eq_true AS
       obtain ⟨ad665, e665, hx665_0⟩ := Kd.at_string HR0.out x8_1 p665 q665
       cases e665
       replace p665 := eq_true p665
       replace q665 := eq_true q665
       go_wp2
       go_roundg k1
       case measure => have := HK1.out; omega
       case rel => exact ⟨(wrap64 (x8_1 + 1)), RS, H', ⟨by have := HK1.out; omega⟩, DR⟩
     ·rw [if_neg c5] at H
      exact absurd H (by simp)
    ·rw [if_neg c4] at H
     exact absurd H (by simp)
   ·rw [if_neg c3] at H
    have c3b0 : decide (x8_1 < (l0.length : Int)) = false := decide_eq_false c3
    clear c3
    obtain rfl := Option.some.inj H
    go_wp2
    go_ret
    exact ⟨by first | rfl | (simp; done) | (simp [*]; done), DR⟩
def slices_Contains_string_string.f (k : Nat) (l0 : List ByteArray) (a1 : ByteArray) : Option (Bool) := (slices_Index_string_string.f k l0 a1).bind fun t667 => (some (decide (t667 ≥ 0)))
theorem slices_Contains_string_string.mono : ∀ a0 a1 k, LeO (slices_Contains_string_string.f k a0 a1) (slices_Contains_string_string.f (k + 1) a0 a1) := by
 intro a0 a1 k
 unfold slices_Contains_string_string.f
 repeat' first | (with_reducible first | exact slices_Index_string_string.mono _ _ _ | exact LeO.refl _ | exact LeO.none _ | refine LeO.ite ?_ ?_ | refine LeO.bind ?_ (fun _ => ?_)) | exact LeO.none _ | refine LeO.ite ?_ ?_ | refine LeO.bind ?_ (fun _ => ?_)
theorem slices_Contains_string_string.calls (k : Nat) (A0 : Option Addr) (c0 : Nat) (l0 : List ByteArray) (a1 : ByteArray) (r : Bool) (w : World) (hr0 : Kd.C Kd.string w A0 l0.length l0) (hc0 : l0.length ≤ c0) (h : slices_Contains_string_string.f k l0 a1 = some r) :
  Calls Try.prog 47 #[.slice A0 l0.length c0, .string a1] w fun e w' => e = .returned (.bool r) ∧ Drawn0 w w' := by
 have HR0 := Aside0.mk hr0
 have HC0 := Aside0.mk hc0
 clear hr0 hc0
 have H : ((slices_Index_string_string.f k l0 a1).bind fun t667 => (some (decide (t667 ≥ 0)))) = some r := h
 clear h
 replace H := BS H
 obtain ⟨t667, A30, H⟩ := H
 have A3 := Aside0.mk A30
 clear A30
 obtain rfl := Option.some.inj H
 go_enter Try.func47, Try.ntmps47
 go_wp2_with (first | ((with_reducible refine gate_callee (f := 65) rfl ?_); refine goesL_ (some 7) rfl rfl Try.func65 (by kernel_rfl) rfl #[.slice A0 l0.length c0, .string a1] rfl AQ ?_; (with_reducible refine (slices_Index_string_string.calls k _ _ l0 a1 t667 _ ?side1 ?side2 A3.out).mono ?_); (case side1 => repeat (first | exact HR0.out | (with_reducible refine Kd.C_alloc ?_ _) | (with_reducible refine Kd.C_drewN ?_ _) | (with_reducible refine Kd.C_drew ?_))); (case side2 => exact HC0.out); rintro e w' ⟨rfl, ⟨nd, rfl⟩⟩; refine ⟨_, rfl, ?_⟩))
 go_ret
 exact ⟨by first | rfl | (simp; done) | (simp [*]; done), DR⟩
end Go.Proofs.Ytlokjgngjgbpmaa.G

namespace Go.Proofs.Ytlokjgngjgbpmaa.G
open Go.RowKit Go.Proofs.YtlokjgngjgbpmaaW.PrintWords Go.Proofs.YtlokjgngjgbpmaaW.PrintLast Go.Proofs.YtlokjgngjgbpmaaW.PrintMore Go.Proofs.Ytlokjgngjgbpmaa.Sh
attribute [local go_sem] max2_int min2_int max_two min_two max_three min_three max_four min_four
set_option linter.unusedVariables false
set_option linter.unusedSimpArgs false
open Go.Proofs.Ytlokjgngjgbpmaa.Mm
def impl_NextAsk.l0 : Nat → List ByteArray → ByteArray → Int → Option (Int)
 | 0, _, _, _ => none
 | k + 1, x0, x1, x7 => if x7 < (x0.length : Int) then (if 0 ≤ x7 then (if (rdOf ByteArray.empty x0 x7).toList = x1.toList then (some x7) else (impl_NextAsk.l0 k x0 x1 (wrap64 (x7 + 1)))) else (none)) else (some (x0.length : Int))
def impl_NextAsk.f (k : Nat) (l0 : List ByteArray) (a1 : ByteArray) (a2 : Int) : Option (Int) := impl_NextAsk.l0 k l0 a1 (mx 0 a2)
theorem impl_NextAsk.calls (k : Nat) (A0 : Option Addr) (c0 : Nat) (l0 : List ByteArray) (a1 : ByteArray) (a2 : Int) (r : Int) (w : World) (hr0 : Kd.C Kd.string w A0 l0.length l0) (hc0 : l0.length ≤ c0) (h : impl_NextAsk.f k l0 a1 a2 = some r) :
  Calls Try.prog 66 #[.slice A0 l0.length c0, .string a1, .int .i64 a2] w fun e w' => e = .returned (.int .i64 r) ∧ Mem w [] w' [] := by
 have HR0 := Aside0.mk hr0
 have HC0 := Aside0.mk hc0
 clear hr0 hc0
 have HM := Mem.nil w
 have H := h
 clear h
 unfold impl_NextAsk.f at H
 go_enter Try.func66, Try.ntmps66
 obtain ⟨ji4, hji4⟩ : ∃ j_ : Int, (mx 0 a2) = j_ := ⟨_, rfl⟩
 (first | rw [hji4] at H | simp only [hji4] at H | skip)
 have hji4_ : (if 0 < a2 then a2 else 0) = ji4 := hji4
 (try (have hji4l : 0 ≤ ji4 := by (rw [← hji4]; unfold mx; (repeat' split) <;> omega)))
 have H' := Aside0.mk H
 clear H
 go_wp2
 go_loopg [7] k (fun kq v7 w' => ∃ (x7_1 : Int), v7 = .int .i64 x7_1 ∧ Aside0 (impl_NextAsk.l0 kq l0 a1 x7_1 = some r) ∧ Aside0 (kq ≤ k) ∧ Mem w [] w' [])
 case atStart => exact ⟨(ji4), RS, H', ⟨Nat.le_refl _⟩, (MD HM).pick []⟩
 case round =>
  clear H' HM
  obtain ⟨x7_1, rfl, HA, HK1, HM⟩ := hrel
  cases gk with
  | zero => exact absurd HA.out (by simp [impl_NextAsk.l0])
  | succ k1 =>
   have H := HA.out
   clear HA
   simp only [impl_NextAsk.l0] at H
   go_upto_if 13 with (fail)
   replace H := IT H; rcases H with ⟨c5, H⟩ | ⟨c5, H⟩
   ·have c5b0 := decide_eq_true c5
    clear c5
    first|rw [c5b0]|(simp only [i64_w, i32_w]; rw [c5b0])|skip
    replace H := GD H; obtain ⟨c6, H⟩ := H
    have c6b0 := decide_eq_true c6
    clear c6
    have p668 : 0 ≤ (x7_1 : Int) := of_decide_eq_true AS
    have q668 : (x7_1 : Int) < (l0.length : Int) := of_decide_eq_true AS
    obtain ⟨ad668, e668, hx668_0⟩ := Kd.at_string (HM.came HR0.out) x7_1 p668 q668
    cases e668
    replace p668 := eq_true p668
    replace q668 := eq_true q668
    go_upto_if 21 with (fail)
    replace H := IT H; rcases H with ⟨c7, H⟩ | ⟨c7, H⟩
    ·obtain ⟨c7b0, c7b1⟩ := BE c7
     clear c7
     first|rw [c7b0]|(simp only [i64_w, i32_w]; rw [c7b0])|skip
     obtain rfl := Option.some.inj H
     go_wp2
     go_ret
     exact ⟨ER, (MD HM).pick []⟩
    ·obtain ⟨c7b0, c7b1⟩ := BF c7
     first|rw [c7b0]|(simp only [i64_w, i32_w]; rw [c7b0])|skip
     have H' := Aside0.mk H
     clear H
     go_wp2
     go_roundg k1
     case measure => have := HK1.out; omega
     case rel => exact ⟨(wrap64 (x7_1 + 1)), RS, H', ⟨by have := HK1.out; omega⟩, (MD HM).pick []⟩
   ·have c5b0 := decide_eq_false c5
    clear c5
    first|rw [c5b0]|(simp only [i64_w, i32_w]; rw [c5b0])|skip
    obtain rfl := Option.some.inj H
    go_wp2
    go_ret
    exact ⟨ER, (MD HM).pick []⟩
def impl_BestGo.l0 : Nat → List ByteArray → Int → Int → Int → List ByteArray → Int → Int → Option (Int)
 | 0, _, _, _, _, _, _, _ => none
 | k + 1, x0, x2, x7, x8, x12, x13, x14 => if x14 < x13 then (if 0 ≤ x14 then (if x14 < (x12.length : Int) then ((impl_NextAsk.f k x0 (rdOf ByteArray.empty x12 x14) x2).bind fun t670 => (if t670 > x8 then (impl_BestGo.l0 k x0 x2 x14 t670 x12 x13 (wrap64 (x14 + 1))) else (impl_BestGo.l0 k x0 x2 x7 x8 x12 x13 (wrap64 (x14 + 1))))) else (none)) else (none)) else (some x7)
def impl_BestGo.f (k : Nat) (l0 : List ByteArray) (l1 : List ByteArray) (a2 : Int) : Option (Int) := impl_BestGo.l0 k l0 a2 (-1) (-1) l1 (l1.length : Int) 0
theorem impl_BestGo.calls (k : Nat) (A0 : Option Addr) (c0 : Nat) (l0 : List ByteArray) (A1 : Option Addr) (c1 : Nat) (l1 : List ByteArray) (a2 : Int) (r : Int) (w : World) (hr0 : Kd.C Kd.string w A0 l0.length l0) (hc0 : l0.length ≤ c0) (hr1 : Kd.C Kd.string w A1 l1.length l1) (hc1 : l1.length ≤ c1) (h : impl_BestGo.f k l0 l1 a2 = some r) :
  Calls Try.prog 48 #[.slice A0 l0.length c0, .slice A1 l1.length c1, .int .i64 a2] w fun e w' => e = .returned (.int .i64 r) ∧ Mem w [] w' [] := by
 have HR0 := Aside0.mk hr0
 have HC0 := Aside0.mk hc0
 clear hr0 hc0
 have HR1 := Aside0.mk hr1
 have HC1 := Aside0.mk hc1
 clear hr1 hc1
 have HM := Mem.nil w
 have H := h
 clear h
 unfold impl_BestGo.f at H
 go_enter Try.func48, Try.ntmps48
 have H' := Aside0.mk H
 clear H
 go_wp2
 go_loopg [7, 8, 14] k (fun kq v7 v8 v14 w' => ∃ (x7_1 : Int) (x8_1 : Int) (x14_1 : Int), v7 = .int .i64 x7_1 ∧ v8 = .int .i64 x8_1 ∧ v14 = .int .i64 x14_1 ∧ Aside0 (impl_BestGo.l0 kq l0 a2 x7_1 x8_1 l1 (l1.length : Int) x14_1 = some r) ∧ Aside0 (kq ≤ k) ∧ Mem w [] w' [])
 case atStart => exact ⟨((-1)), ((-1)), (0), RS, RS, RS, H', ⟨Nat.le_refl _⟩, (MD HM).pick []⟩
 case round =>
  clear H' HM
  obtain ⟨x7_1, x8_1, x14_1, rfl, rfl, rfl, HA, HK1, HM⟩ := hrel
  cases gk with
  | zero => exact absurd HA.out (by simp [impl_BestGo.l0])
  | succ k1 =>
   have H := HA.out
   clear HA
   simp only [impl_BestGo.l0] at H
   go_upto_if 15 with (fail)
   replace H := IT H; rcases H with ⟨c4, H⟩ | ⟨c4, H⟩
   ·have c4b0 := decide_eq_true c4
    clear c4
    first|rw [c4b0]|(simp only [i64_w, i32_w]; rw [c4b0])|skip
    replace H := GD H; obtain ⟨c5, H⟩ := H
    have c5b0 := decide_eq_true c5
    clear c5
    replace H := GD H; obtain ⟨c6, H⟩ := H
    have c6b0 := decide_eq_true c6
    clear c6
    replace H := BN H; obtain ⟨t670, A7, H⟩ := H
    have p669 : 0 ≤ (x14_1 : Int) := of_decide_eq_true AS
    have q669 : (x14_1 : Int) < (l1.length : Int) := of_decide_eq_true AS
    obtain ⟨ad669, e669, hx669_0⟩ := Kd.at_string (HM.came HR1.out) x14_1 p669 q669
    cases e669
    replace p669 := eq_true p669
    replace q669 := eq_true q669
    go_upto_if 25 with (first | ((with_reducible refine gC 66 rfl ?_); refine pC (some 22) rfl #[.slice A0 l0.length c0, .string (rdOf ByteArray.empty l1 x14_1), .int .i64 a2] rfl Try.func66 (impl_NextAsk.calls k1 _ _ l0 (rdOf ByteArray.empty l1 x14_1) a2 t670 _ (HM.came HR0.out) HC0.out A7.out) ?_; rintro e w8 ⟨rfl, hR⟩; refine ⟨_, rfl, ?_⟩; replace HM := HM.call hR; clear hR))
    replace H := IT H; rcases H with ⟨c9, H⟩ | ⟨c9, H⟩
    ·have c9b0 : decide (x8_1 < t670) = true := decide_eq_true c9
     clear c9
     first|rw [c9b0]|(simp only [i64_w, i32_w]; rw [c9b0])|skip
     have H' := Aside0.mk H
     clear H
     go_wp2
     go_roundg k1
     case measure => have := HK1.out; omega
     case rel => exact ⟨(x14_1), (t670), (wrap64 (x14_1 + 1)), RS, RS, RS, H', ⟨by have := HK1.out; omega⟩, (MD HM).pick []⟩
    ·have c9b0 : decide (x8_1 < t670) = false := decide_eq_false c9
     clear c9
     first|rw [c9b0]|(simp only [i64_w, i32_w]; rw [c9b0])|skip
     have H' := Aside0.mk H
     clear H
     go_wp2
     go_roundg k1
     case measure => have := HK1.out; omega
     case rel => exact ⟨(x7_1), (x8_1), (wrap64 (x14_1 + 1)), RS, RS, RS, H', ⟨by have := HK1.out; omega⟩, (MD HM).pick []⟩
   ·have c4b0 := decide_eq_false c4
    clear c4
    first|rw [c4b0]|(simp only [i64_w, i32_w]; rw [c4b0])|skip
    obtain rfl := Option.some.inj H
    go_wp2
    go_ret
    exact ⟨ER, (MD HM).pick []⟩
end Go.Proofs.Ytlokjgngjgbpmaa.G

namespace Go.Proofs.Ytlokjgngjgbpmaa.G
open Go.RowKit Go.Proofs.YtlokjgngjgbpmaaW.PrintWords Go.Proofs.YtlokjgngjgbpmaaW.PrintLast Go.Proofs.YtlokjgngjgbpmaaW.PrintMore Go.Proofs.Ytlokjgngjgbpmaa.Sh
attribute [local go_sem] max2_int min2_int max_two min_two max_three min_three max_four min_four
set_option linter.unusedVariables false
set_option linter.unusedSimpArgs false
open Go.Proofs.Ytlokjgngjgbpmaa.Man
def slices_Delete_string_string.f (l0 : List ByteArray) (a1 : Int) (a2 : Int) : Option (List ByteArray) := if 0 ≤ a1 ∧ a1 < (l0.length : Int) ∧ a2 = a1 + 1 then some (l0.eraseIdx a1.toNat) else none
set_option maxHeartbeats 4000000 in
set_option maxRecDepth 100000 in
theorem slices_Delete_string_string.calls (P0_ : Nat → Prop) (u9000_ : Value) (l0 : List ByteArray) (a1 : Int) (a2 : Int) (r : List ByteArray) (w0 w : World) (hB : Below w0.heap.size w0 w) (ho0 : Kd.R Kd.string 9 w w0.heap.size P0_ u9000_ l0) (h : slices_Delete_string_string.f l0 a1 a2 = some r) :
  Calls Try.prog 49 #[u9000_, .int .i64 a1, .int .i64 a2] w fun e w' => ∃ v0_ : Value, e = .returned v0_ ∧ Kd.R Kd.string 9 w' w0.heap.size (fun k_ => (P0_ k_ ∨ w.heap.size ≤ k_)) v0_ r ∧ Below w0.heap.size w0 w' ∧ Kept w w' (fun k_ => P0_ k_) := by
 unfold slices_Delete_string_string.f at h
 by_cases c : 0 ≤ a1 ∧ a1 < (l0.length : Int) ∧ a2 = a1 + 1
 ·rw [if_pos c] at h
  obtain rfl := Option.some.inj h
  obtain ⟨c0, c1, rfl⟩ := c
  clear h
  obtain ⟨n, rfl⟩ := Int.eq_ofNat_of_zero_le c0
  have hn : n < l0.length := by omega
  obtain ⟨g, cap, rfl, gb, gl, cl, HG⟩ := Kd.R_form ho0 (by omega)
  obtain ⟨_, hlc, hC⟩ := Kd.R_reads' ho0
  have hL : l0.length ≤ 9223372036854775807 := hC.2.1
  clear hC
  have e1 : IntKind.i64.wrap ((n : Int) + 1) = (n : Int) + 1 := by exact (i64_w _).trans (by unfold wrap64; omega)
  have HO := Aside0.mk ho0
  have HBW := Aside0.mk hB
  have HGB := Aside0.mk gb
  have HGL := Aside0.mk gl
  have HN := Aside0.mk hn
  have b1 : (n : Int) + 1 ≤ (l0.length : Int) := by omega
  have b2 : (l0.length : Int) ≤ (cap : Int) := by omega
  have b3 : (n : Int) ≤ (l0.length : Int) := by omega
  have b4 : (n : Int) ≤ (cap : Int) := by omega
  have b5 : (n : Int) + 1 ≤ (cap : Int) := by omega
  have b6 : (n : Int) ≤ (n : Int) + 1 := by omega
  have b7 : (0 : Int) ≤ (n : Int) + 1 := by omega
  have e2 : ((n : Int) == (n : Int) + 1) = false := by rw [beq_eq_false_iff_ne]; omega
  by_cases hcn : cap = n + 1
  ·subst hcn
   have HS := Aside0.mk (show w0.heap.size ≤ w.drew.heap.size from hB.size)
   clear hn ho0 hB gb gl HG hL hlc c1 e1
   go_enter Try.func49, Try.ntmps49
   go_wp2
   go_region_law (refine Kd.R_delete_step Kd.string (w0 := w0) w0.heap.size rfl (.tmp 22) (.tmp 25) 23 9 rfl Try.underlying23 (by kernel_rfl) (by rfl) (by rfl) ((if_pos rfl).symm) (by rfl) (Kd.R_drew HO.out) HN.out (below_drew1 HBW.out) HS.out ?_; intro w1 hr hb hg)
   have HR := Aside0.mk hr
   have HB2 := Aside0.mk hb
   have HG2 := Aside0.mk hg
   clear hr hb hg
   obtain ⟨w2, hrun, hr2, hg2⟩ := R_clear_run (P := Try.prog) Kd.string w0.heap.size 23 0 9 (.string ⟨#[]⟩) Try.underlying23 Try.zeroValue9 rfl (by decide) HR.out (m := l0.length - (l0.length - 1)) (by have := HN.out; omega) (by have := HN.out; omega) ((n + 1) - (l0.length - 1))
   have HR2 := Aside0.mk hr2
   have HG3 := Aside0.mk hg2
   clear hr2 hg2
   (try rw [show (l0.length - 1) * Kd.sz Kd.string = l0.length - 1 from Nat.mul_one _] at hrun)
   change Sem.run _ (Builtin.clear_ #[23] 0 #[.slice (some ⟨g, (l0.length - 1), none⟩) (l0.length - (l0.length - 1)) ((n + 1) - (l0.length - 1))]) w1 = _ at hrun
   go_wp2
   go_ret
   have hgw : w.grownBy w2 (some g) := World.grownBy.trans (World.grownBy.trans (show w.grownBy w.drew (some g) from ⟨rfl, rfl, rfl, Nat.le_refl _, fun _ _ _ => rfl⟩) HG2.out) HG3.out
   refine ⟨_, rfl, Kd.R_mono HR2.out (fun _ h => Or.inl h), HB2.out.grown HG3.out ?_ (fun k hk => by injection hk with hk; subst hk; exact HGB.out), Kept.of_grown hgw (Kept.refl _ _) (fun k hk => by injection hk with hk; subst hk; exact .inl (HO.out.1 _ rfl))⟩
   exact HB2.out.size
  ·have hcn' : (cap == n + 1) = false := by rw [beq_eq_false_iff_ne]; exact hcn
   have HA := Aside0.mk (show some ⟨g, (n + 1), none⟩ = (if cap = n + 1 then some (⟨g, 0, none⟩ : Addr) else (some (⟨g, 0, none⟩ : Addr)).map (·.add ((n + 1) * Kd.string.sz))) from by rw [if_neg hcn, Option.map_some, add_plain]; first | rfl | rw [show (n + 1) * Kd.sz _ = n + 1 from Nat.mul_one _])
   have HS := Aside0.mk (show w0.heap.size ≤ w.drew.heap.size from hB.size)
   clear hn ho0 hB gb gl HG hL hlc c1 e1
   go_enter Try.func49, Try.ntmps49
   go_wp2
   go_region_law (refine Kd.R_delete_step Kd.string (w0 := w0) w0.heap.size rfl (.tmp 22) (.tmp 25) 23 9 rfl Try.underlying23 (by kernel_rfl) (by rfl) (by rfl) HA.out (by rfl) (Kd.R_drew HO.out) HN.out (below_drew1 HBW.out) HS.out ?_; intro w1 hr hb hg)
   have HR := Aside0.mk hr
   have HB2 := Aside0.mk hb
   have HG2 := Aside0.mk hg
   clear hr hb hg
   obtain ⟨w2, hrun, hr2, hg2⟩ := R_clear_run (P := Try.prog) Kd.string w0.heap.size 23 0 9 (.string ⟨#[]⟩) Try.underlying23 Try.zeroValue9 rfl (by decide) HR.out (m := l0.length - (l0.length - 1)) (by have := HN.out; omega) (by have := HN.out; omega) (cap - (l0.length - 1))
   have HR2 := Aside0.mk hr2
   have HG3 := Aside0.mk hg2
   clear hr2 hg2
   (try rw [show (l0.length - 1) * Kd.sz Kd.string = l0.length - 1 from Nat.mul_one _] at hrun)
   change Sem.run _ (Builtin.clear_ #[23] 0 #[.slice (some ⟨g, (l0.length - 1), none⟩) (l0.length - (l0.length - 1)) (cap - (l0.length - 1))]) w1 = _ at hrun
   go_wp2
   go_ret
   have hgw : w.grownBy w2 (some g) := World.grownBy.trans (World.grownBy.trans (show w.grownBy w.drew (some g) from ⟨rfl, rfl, rfl, Nat.le_refl _, fun _ _ _ => rfl⟩) HG2.out) HG3.out
   refine ⟨_, rfl, Kd.R_mono HR2.out (fun _ h => Or.inl h), HB2.out.grown HG3.out ?_ (fun k hk => by injection hk with hk; subst hk; exact HGB.out), Kept.of_grown hgw (Kept.refl _ _) (fun k hk => by injection hk with hk; subst hk; exact .inl (HO.out.1 _ rfl))⟩
   exact HB2.out.size
 ·rw [if_neg c] at h; cases h
end Go.Proofs.Ytlokjgngjgbpmaa.G

namespace Go.Proofs.Ytlokjgngjgbpmaa.G
open Go.RowKit Go.Proofs.YtlokjgngjgbpmaaW.PrintWords Go.Proofs.YtlokjgngjgbpmaaW.PrintLast Go.Proofs.YtlokjgngjgbpmaaW.PrintMore Go.Proofs.Ytlokjgngjgbpmaa.Sh
attribute [local go_sem] max2_int min2_int max_two min_two max_three min_three max_four min_four
set_option linter.unusedVariables false
set_option linter.unusedSimpArgs false
open Go.Proofs.Ytlokjgngjgbpmaa.Mm
mutual
def impl_BestHits.j0 : Nat → List ByteArray → Int → Bool → Option (List Bool)
 | 0, _, _, _ => none
 | k + 1, x0, x1, x18 => if x18 = true then (some ([] : List Bool)) else (impl_BestHits.l0 k x0 x1 (([] : List Bool)) (([] : List ByteArray)) x0 (x0.length : Int) 0)
def impl_BestHits.l0 : Nat → List ByteArray → Int → List Bool → List ByteArray → List ByteArray → Int → Int → Option (List Bool)
 | 0, _, _, _, _, _, _, _ => none
 | k + 1, x0, x1, x5, x6, x21, x22, x23 => if x23 < x22 then (if 0 ≤ x23 then (if x23 < (x21.length : Int) then ((slices_Contains_string_string.f k x6 (rdOf ByteArray.empty x21 x23)).bind fun t680 => (if x5.length < 140737488355328 then ((some (x5 ++ [t680] : List Bool)).bind fun y681 => (if t680 = true then (impl_BestHits.l0 k x0 x1 y681 x6 x21 x22 (wrap64 (x23 + 1))) else (if (x6.length : Int) = x1 then ((impl_BestGo.f k x0 x6 (wrap64 (x23 + 1))).bind fun t684 => ((slices_Delete_string_string.f x6 t684 (wrap64 (t684 + 1))).bind fun t685 => (if t685.length < 8796093022208 then (impl_BestHits.l0 k x0 x1 y681 (t685 ++ [rdOf ByteArray.empty x21 x23]) x21 x22 (wrap64 (x23 + 1))) else (none)))) else (if x6.length < 8796093022208 then (impl_BestHits.l0 k x0 x1 y681 (x6 ++ [rdOf ByteArray.empty x21 x23]) x21 x22 (wrap64 (x23 + 1))) else (none))))) else (none))) else (none)) else (none)) else (some x5)
end
def impl_BestHits.f (k : Nat) (l0 : List ByteArray) (a1 : Int) : Option (List Bool) := (impl_AsksOk.f k l0).bind fun t671 => (if t671 = true then ((impl_within.f a1 1 60).bind fun t672 => (impl_BestHits.j0 k l0 a1 (!t672))) else (impl_BestHits.j0 k l0 a1 true))
theorem impl_BestHits.calls (k : Nat) (A0 : Option Addr) (c0 : Nat) (l0 : List ByteArray) (a1 : Int) (r : List Bool) (w : World) (hr0 : Kd.C Kd.string w A0 l0.length l0) (hc0 : l0.length ≤ c0) (h : impl_BestHits.f k l0 a1 = some r) :
  Calls Try.prog 33 #[.slice A0 l0.length c0, .int .i64 a1] w fun e w' => ∃ v0_ : Value, e = .returned (v0_) ∧ Mem w [] w' [rowR Kd.bool 4 v0_ r] := by
 have HR0 := Aside0.mk hr0
 have HC0 := Aside0.mk hc0
 clear hr0 hc0
 have HM := Mem.nil w
 have H := h
 clear h
 unfold impl_BestHits.f at H
 go_enter Try.func33, Try.ntmps33
 have HC3 := Aside0.mk H
 clear H
 go_upto_region 1 with (fail)
 go_cut [18] (fun v18 wc => ∃ (kq : Nat) (x18_2 : Bool), v18 = .bool x18_2 ∧ Aside0 (impl_BestHits.j0 kq l0 a1 x18_2 = some r) ∧ Aside0 (kq ≤ k) ∧ Mem w [] wc [])
 case first =>
  have H := HC3.out
  clear HC3
  replace H := BN H; obtain ⟨t671, A4, H⟩ := H
  replace H := IB H
  rcases H with ⟨c6, H⟩ | ⟨c6, H⟩
  ·subst c6
   replace H := BN H; obtain ⟨t672, A7, H⟩ := H
   have H' := Aside0.mk H
   clear H
   go_wp2_with (first | ((with_reducible refine gC 27 rfl ?_); refine pC (some 12) rfl #[.slice A0 l0.length c0] rfl Try.func27 (impl_AsksOk.calls k _ _ l0 true _ (HM.came HR0.out) HC0.out A4.out) ?_; rintro e w5 ⟨rfl, hR⟩; refine ⟨_, rfl, ?_⟩; replace HM := HM.call hR; clear hR) | ((with_reducible refine gC 28 rfl ?_); refine pC (some 16) rfl #[.int .i64 a1, .int .i64 1, .int .i64 60] rfl Try.func28 (impl_within.calls a1 1 60 t672 _ A7.out) ?_; rintro e w8 ⟨rfl, hd⟩; refine ⟨_, rfl, ?_⟩; replace HM := HM.drawn hd; clear hd))
   go_meet
   case rel => exact ⟨_, (!t672), RS, H', ⟨by first | omega | exact Nat.le_refl _⟩, (MD HM).pick []⟩
  ·subst c6
   have H' := Aside0.mk H
   clear H
   go_wp2_with (first | ((with_reducible refine gC 27 rfl ?_); refine pC (some 12) rfl #[.slice A0 l0.length c0] rfl Try.func27 (impl_AsksOk.calls k _ _ l0 false _ (HM.came HR0.out) HC0.out A4.out) ?_; rintro e w5 ⟨rfl, hR⟩; refine ⟨_, rfl, ?_⟩; replace HM := HM.call hR; clear hR))
   go_meet
   case rel => exact ⟨_, (true), RS, H', ⟨by first | omega | exact Nat.le_refl _⟩, (MD HM).pick []⟩
 case rest =>
  clear HC3 HM
  obtain ⟨kq, x18_2, rfl, HA, HJ2, HM⟩ := hcut
  cases kq with
  | zero => exact absurd HA.out (by simp [impl_BestHits.j0])
  | succ kj2 =>
   have H := HA.out
   clear HA
   simp only [impl_BestHits.j0] at H
   go_upto_if 18 with (fail)
   replace H := IB H
   rcases H with ⟨c9, H⟩ | ⟨c9, H⟩
   ·subst c9
    obtain rfl := Option.some.inj H
    replace HM := HM.nl Kd.bool 4
    go_wp2
    go_ret
    exact ⟨_, ER, (MD HM).pick [0]⟩
   ·subst c9
    have H' := Aside0.mk H
    clear H
    go_wp2_with (first | ((with_reducible refine gN 19 rfl ?_); refine pL 19 Kd.bool 4 ([] : List Bool) [] (Reps.none _ _) HM rfl ?_; clear HM; intro v674 w10 HM) | ((with_reducible refine gN 20 rfl ?_); refine pL 20 Kd.string 9 ([] : List ByteArray) [] (Reps.none _ _) HM rfl ?_; clear HM; intro v677 w11 HM))
    go_loopg [5, 6, 23] kj2 (fun kq v5 v6 v23 w' => ∃ (x5_2 : List Bool) (x6_2 : List ByteArray) (x23_2 : Int), v23 = .int .i64 x23_2 ∧ Aside0 (impl_BestHits.l0 kq l0 a1 x5_2 x6_2 l0 (l0.length : Int) x23_2 = some r) ∧ Aside0 (kq ≤ kj2) ∧ Mem w [] w' [rowR Kd.bool 4 v5 x5_2, rowR Kd.string 9 v6 x6_2])
    case atStart => exact ⟨((([] : List Bool))), ((([] : List ByteArray))), (0), RS, H', ⟨Nat.le_refl _⟩, (MD HM).pick [0, 1]⟩
    case round =>
     clear H' HM
     obtain ⟨x5_2, x6_2, x23_2, rfl, HA, HK2, HM⟩ := hrel
     cases gk with
     | zero => exact absurd HA.out (by simp [impl_BestHits.l0])
     | succ k2 =>
      have H := HA.out
      clear HA
      simp only [impl_BestHits.l0] at H
      go_upto_if 24 with (fail)
      replace H := IT H; rcases H with ⟨c12, H⟩ | ⟨c12, H⟩
      ·have c12b0 := decide_eq_true c12
       clear c12
       first|rw [c12b0]|(simp only [i64_w, i32_w]; rw [c12b0])|skip
       replace H := GD H; obtain ⟨c13, H⟩ := H
       have c13b0 := decide_eq_true c13
       clear c13
       replace H := GD H; obtain ⟨c14, H⟩ := H
       have c14b0 := decide_eq_true c14
       clear c14
       replace H := BN H; obtain ⟨t680, A15, H⟩ := H
       replace H := GD H; obtain ⟨c18, H⟩ := H
       have LMc18 := Aside0.mk c18
       clear c18
       replace H := BLt H; obtain ⟨y681, Ny681, H⟩ := H
       replace Ny681 := Aside0.mk Ny681
       have p679 : 0 ≤ (x23_2 : Int) := of_decide_eq_true AS
       have q679 : (x23_2 : Int) < (l0.length : Int) := of_decide_eq_true AS
       obtain ⟨ad679, e679, hx679_0⟩ := Kd.at_string (HM.came HR0.out) x23_2 p679 q679
       cases e679
       replace p679 := eq_true p679
       replace q679 := eq_true q679
       obtain ⟨Xo17, ko17, rfl⟩ := HM.rdR 1 rfl
       go_upto_if 35 with (first | ((with_reducible refine gC 47 rfl ?_); refine pC (some 30) rfl #[.slice Xo17 x6_2.length ko17, .string (rdOf ByteArray.empty l0 x23_2)] rfl Try.func47 (slices_Contains_string_string.calls k2 _ _ x6_2 (rdOf ByteArray.empty l0 x23_2) t680 _ (HM.CR 1 rfl).2.2 (HM.CR 1 rfl).2.1 A15.out) ?_; rintro e w16 ⟨rfl, hd⟩; refine ⟨_, rfl, ?_⟩; replace HM := HM.drawn hd; clear hd) | ((with_reducible refine gN 33 rfl ?_); refine pL 33 Kd.bool 4 [t680] [.bool t680] (Reps.one (show Kd.M Kd.bool _ _ _ t680 [.bool t680] from rfl) (Reps.none _ _)) HM rfl ?_; clear HM; intro v20 w19 HM; obtain ⟨Xv20, kv20, rfl⟩ := HM.rdR 2 rfl) | ((with_reducible refine gate_builtin (b := .append) (xs := #[.tmp 31, .tmp 33]) rfl ?_); refine pA 0 (.tmp 31) (.tmp 33) 57 4 Kd.bool u5 x5_2 [t680] Xv20 ([t680].length) kv20 HM rfl Try.underlying57 info4 rfl (HM.CR 2 rfl).2.2 (by have h_ := LMc18.out; simp only [List.length_singleton]; omega) ?_; clear HM; intro v682 w21 HM; replace HM := HM.nm 0 rfl Ny681.out))
       replace H := IB H
       rcases H with ⟨c22, H⟩ | ⟨c22, H⟩
       ·subst c22
        have H' := Aside0.mk H
        clear H
        go_wp2
        go_roundg k2
        case measure => have := HJ2.out; have := HK2.out; omega
        case rel => exact ⟨(y681), (x6_2), (wrap64 (x23_2 + 1)), RS, H', ⟨by have := HJ2.out; have := HK2.out; omega⟩, (MD HM).pick [0, 1]⟩
       ·subst c22
        go_upto_if 39 with (fail)
        replace H := IT H; rcases H with ⟨c23, H⟩ | ⟨c23, H⟩
        ·obtain ⟨c23b0, c23b1⟩ := BE c23
         clear c23
         first|rw [c23b0]|(simp only [i64_w, i32_w]; rw [c23b0])|skip
         replace H := BN H; obtain ⟨t684, A24, H⟩ := H
         replace H := BN H; obtain ⟨t685, A26, H⟩ := H
         replace H := GD H; obtain ⟨c28, H⟩ := H
         have LMc28 := Aside0.mk c28
         clear c28
         have H' := Aside0.mk H
         clear H
         go_wp2_with (first | ((with_reducible refine gC 48 rfl ?_); refine pC (some 44) rfl #[.slice (some ad679) l0.length c0, .slice Xo17 x6_2.length ko17, .int .i64 (wrap64 (x23_2 + 1))] rfl Try.func48 (impl_BestGo.calls k2 _ _ l0 _ _ x6_2 (wrap64 (x23_2 + 1)) t684 _ (HM.came HR0.out) HC0.out (HM.CR 1 rfl).2.2 (HM.CR 1 rfl).2.1 A24.out) ?_; rintro e w25 ⟨rfl, hR⟩; refine ⟨_, rfl, ?_⟩; replace HM := HM.call hR; clear hR; obtain ⟨P_, hq_, fin_⟩ := HM.man1R 1 rfl) | ((with_reducible refine gC 49 rfl ?_); refine pC (some 49) rfl #[.slice Xo17 x6_2.length ko17, .int .i64 t684, .int .i64 (wrap64 (t684 + 1))] rfl Try.func49 (slices_Delete_string_string.calls P_ (.slice Xo17 x6_2.length ko17) x6_2 t684 (wrap64 (t684 + 1)) t685 (bare _) _ (bare_below _) hq_ A26.out) ?_; rintro e w27 ⟨v686, rfl, hQ_, hB_, hK_⟩; refine ⟨_, rfl, ?_⟩; replace HM := fin_ _ _ _ hQ_ hB_ hK_; clear hQ_ hB_ hK_ hq_ fin_ P_) | ((with_reducible refine gN 52 rfl ?_); refine pL 52 Kd.string 9 [rdOf ByteArray.empty l0 x23_2] [.string (rdOf ByteArray.empty l0 x23_2)] (Reps.one (show Kd.M Kd.string _ _ _ (rdOf ByteArray.empty l0 x23_2) [.string (rdOf ByteArray.empty l0 x23_2)] from rfl) (Reps.none _ _)) HM rfl ?_; clear HM; intro v30 w29 HM; obtain ⟨Xv30, kv30, rfl⟩ := HM.rdR 3 rfl) | ((with_reducible refine gate_builtin (b := .append) (xs := #[.tmp 50, .tmp 52]) rfl ?_); refine pA 1 (.tmp 50) (.tmp 52) 23 9 Kd.string v686 t685 [rdOf ByteArray.empty l0 x23_2] Xv30 ([rdOf ByteArray.empty l0 x23_2].length) kv30 HM rfl Try.underlying23 info9 rfl (HM.CR 3 rfl).2.2 (by have h_ := LMc28.out; simp only [List.length_singleton]; omega) ?_; clear HM; intro v689 w31 HM))
         go_roundg k2
         case measure => have := HJ2.out; have := HK2.out; omega
         case rel => exact ⟨(y681), ((t685 ++ [rdOf ByteArray.empty l0 x23_2])), (wrap64 (x23_2 + 1)), RS, H', ⟨by have := HJ2.out; have := HK2.out; omega⟩, (MD HM).pick [0, 1]⟩
        ·obtain ⟨c23b0, c23b1⟩ := BF c23
         first|rw [c23b0]|(simp only [i64_w, i32_w]; rw [c23b0])|skip
         replace H := GD H; obtain ⟨c32, H⟩ := H
         have LMc32 := Aside0.mk c32
         clear c32
         have H' := Aside0.mk H
         clear H
         go_wp2_with (first | ((with_reducible refine gN 52 rfl ?_); refine pL 52 Kd.string 9 [rdOf ByteArray.empty l0 x23_2] [.string (rdOf ByteArray.empty l0 x23_2)] (Reps.one (show Kd.M Kd.string _ _ _ (rdOf ByteArray.empty l0 x23_2) [.string (rdOf ByteArray.empty l0 x23_2)] from rfl) (Reps.none _ _)) HM rfl ?_; clear HM; intro v34 w33 HM; obtain ⟨Xv34, kv34, rfl⟩ := HM.rdR 3 rfl) | ((with_reducible refine gate_builtin (b := .append) (xs := #[.tmp 50, .tmp 52]) rfl ?_); refine pA 1 (.tmp 50) (.tmp 52) 23 9 Kd.string (.slice Xo17 x6_2.length ko17) x6_2 [rdOf ByteArray.empty l0 x23_2] Xv34 ([rdOf ByteArray.empty l0 x23_2].length) kv34 HM rfl Try.underlying23 info9 rfl (HM.CR 3 rfl).2.2 (by have h_ := LMc32.out; simp only [List.length_singleton]; omega) ?_; clear HM; intro v692 w35 HM))
         go_roundg k2
         case measure => have := HJ2.out; have := HK2.out; omega
         case rel => exact ⟨(y681), ((x6_2 ++ [rdOf ByteArray.empty l0 x23_2])), (wrap64 (x23_2 + 1)), RS, H', ⟨by have := HJ2.out; have := HK2.out; omega⟩, (MD HM).pick [0, 1]⟩
      ·have c12b0 := decide_eq_false c12
       clear c12
       first|rw [c12b0]|(simp only [i64_w, i32_w]; rw [c12b0])|skip
       obtain rfl := Option.some.inj H
       go_wp2
       go_ret
       exact ⟨_, ER, (MD HM).pick [0]⟩
def impl_BestMisses.f (k : Nat) (l0 : List ByteArray) (a1 : Int) : Option (Int) := (impl_BestHits.f k l0 a1).bind fun t695 => ((impl_hitsIn.f k t695).bind fun t698 => (some (wrap64 ((t695.length : Int) - t698))))
theorem impl_BestMisses.calls (k : Nat) (A0 : Option Addr) (c0 : Nat) (l0 : List ByteArray) (a1 : Int) (r : Int) (w : World) (hr0 : Kd.C Kd.string w A0 l0.length l0) (hc0 : l0.length ≤ c0) (h : impl_BestMisses.f k l0 a1 = some r) :
  Calls Try.prog 12 #[.slice A0 l0.length c0, .int .i64 a1] w fun e w' => e = .returned (.int .i64 r) ∧ Mem w [] w' [] := by
 have HR0 := Aside0.mk hr0
 have HC0 := Aside0.mk hc0
 clear hr0 hc0
 have HM := Mem.nil w
 have H := h
 clear h
 unfold impl_BestMisses.f at H
 go_enter Try.func12, Try.ntmps12
 replace H := BN H; obtain ⟨t695, A3, H⟩ := H
 replace H := BN H; obtain ⟨t698, A6, H⟩ := H
 obtain rfl := Option.some.inj H
 go_wp2_with (first | ((with_reducible refine gC 33 rfl ?_); refine pC (some 8) rfl #[.slice A0 l0.length c0, .int .i64 a1] rfl Try.func33 (impl_BestHits.calls k _ _ l0 a1 t695 _ (HM.came HR0.out) HC0.out A3.out) ?_; rintro e w4 ⟨v696, rfl, hR⟩; refine ⟨_, rfl, ?_⟩; replace HM := HM.call hR; clear hR; obtain ⟨Xo5, ko5, rfl⟩ := HM.rdR 0 rfl) | ((with_reducible refine gC 32 rfl ?_); refine pC (some 12) rfl #[.slice Xo5 t695.length ko5] rfl Try.func32 (impl_hitsIn.calls k _ _ t695 t698 _ (HM.CR 0 rfl).2.2 (HM.CR 0 rfl).2.1 A6.out) ?_; rintro e w7 ⟨rfl, hd⟩; refine ⟨_, rfl, ?_⟩; replace HM := HM.drawn hd; clear hd))
 go_ret
 exact ⟨ER, (MD HM).pick []⟩
end Go.Proofs.Ytlokjgngjgbpmaa.G

namespace Go.Proofs.Ytlokjgngjgbpmaa.G
open Go.RowKit Go.Proofs.YtlokjgngjgbpmaaW.PrintWords Go.Proofs.YtlokjgngjgbpmaaW.PrintLast Go.Proofs.YtlokjgngjgbpmaaW.PrintMore Go.Proofs.Ytlokjgngjgbpmaa.Sh
attribute [local go_sem] max2_int min2_int max_two min_two max_three min_three max_four min_four
set_option linter.unusedVariables false
set_option linter.unusedSimpArgs false
def impl_isNum.f (a0 : Int) : Option (Bool) := (impl_within.f a0 0 4294967295).bind fun t176 => (some t176)
theorem impl_isNum.calls (a0 : Int) (r : Bool) (w : World) (h : impl_isNum.f a0 = some r) :
  Calls Try.prog 29 #[.int .i64 a0] w fun e w' => e = .returned (.bool r) ∧ Drawn0 w w' := by
 have H : ((impl_within.f a0 0 4294967295).bind fun t176 => (some t176)) = some r := h
 clear h
 replace H := BS H
 obtain ⟨t176, A20, H⟩ := H
 have A2 := Aside0.mk A20
 clear A20
 obtain rfl := Option.some.inj H
 go_enter Try.func29, Try.ntmps29
 go_wp2_with (first | ((with_reducible refine gate_callee (f := 28) rfl ?_); refine goesL_ (some 4) rfl rfl Try.func28 (by kernel_rfl) rfl #[.int .i64 a0, .int .i64 0, .int .i64 4294967295] rfl AQ ?_; (with_reducible refine (impl_within.calls a0 0 4294967295 t176 _ A2.out).mono ?_); rintro e w' ⟨rfl, ⟨nd, rfl⟩⟩; refine ⟨_, rfl, ?_⟩))
 go_ret
 exact ⟨by first | rfl | (simp; done) | (simp [*]; done), DR⟩
end Go.Proofs.Ytlokjgngjgbpmaa.G

namespace Go.Proofs.Ytlokjgngjgbpmaa.G
open Go.RowKit Go.Proofs.YtlokjgngjgbpmaaW.PrintWords Go.Proofs.YtlokjgngjgbpmaaW.PrintLast Go.Proofs.YtlokjgngjgbpmaaW.PrintMore Go.Proofs.Ytlokjgngjgbpmaa.Sh
attribute [local go_sem] max2_int min2_int max_two min_two max_three min_three max_four min_four
set_option linter.unusedVariables false
set_option linter.unusedSimpArgs false
open Go.Proofs.Ytlokjgngjgbpmaa.Man
def impl_Three_ghosts.f (a0 : Int) (a1 : Int) : Option Int := some (max 1 (wrap64 (a0 - a1)))
set_option maxHeartbeats 2000000 in
set_option maxRecDepth 100000 in
theorem impl_Three_ghosts.calls (g : Nat) (a0 : Int) (a1 : Int) (x2 x3 x4 : Value) (r : Int) (w : World) (hb : w.heap[g]? = some (.cells #[.int .i64 a0, .int .i64 a1, x2, x3, x4] 71 (0, 0))) (h : impl_Three_ghosts.f a0 a1 = some r) :
  Calls Try.prog 75 #[.pointer (some ⟨g, 0, none⟩)] w fun e w' => e = .returned (.int .i64 r) ∧ ∃ nd, w' = w.drewN nd := by
 unfold impl_Three_ghosts.f at h
 obtain rfl := Option.some.inj h
 clear h
 have hu45 := Try.underlying71
 have c0 : w.cell? ⟨g, 0, none⟩ = some (.int .i64 a0) := blk_cell hb 0
 have c1 : w.cell? ⟨g, 1, none⟩ = some (.int .i64 a1) := blk_cell hb 1
 have c2 : w.drew.cell? ⟨g, 0, none⟩ = some (.int .i64 a0) := blk_cell (blk_drew hb) 0
 have c3 : w.drew.cell? ⟨g, 1, none⟩ = some (.int .i64 a1) := blk_cell (blk_drew hb) 1
 have mixed : Try.prog.follows .mixedOrders = true := by kernel_rfl
 clear hb
 go_enter Try.func75, Try.ntmps75
 go_wp2
 go_region_o
 go_wp2
 ·go_ret
  exact ⟨by rw [show max 1 (wrap64 (a0 - a1)) = wrap64 (a0 - a1) by omega]; rfl, 1, rfl⟩
 ·go_ret
  exact ⟨by rw [show max 1 (wrap64 (a0 - a1)) = 1 by omega]; rfl, 1, rfl⟩
end Go.Proofs.Ytlokjgngjgbpmaa.G

namespace Go.Proofs.Ytlokjgngjgbpmaa.G
open Go.RowKit Go.Proofs.YtlokjgngjgbpmaaW.PrintWords Go.Proofs.YtlokjgngjgbpmaaW.PrintLast Go.Proofs.YtlokjgngjgbpmaaW.PrintMore Go.Proofs.Ytlokjgngjgbpmaa.Sh
attribute [local go_sem] max2_int min2_int max_two min_two max_three min_three max_four min_four
set_option linter.unusedVariables false
set_option linter.unusedSimpArgs false
def slices_Index_int_int.l0 : Nat → List Int → Int → Int → Int → Option (Int)
 | 0, _, _, _, _ => none
 | k + 1, x0, x1, x7, x8 => if x8 < x7 then (if 0 ≤ x8 then (if x8 < (x0.length : Int) then (if x1 = (rd x0 x8) then (some x8) else (slices_Index_int_int.l0 k x0 x1 x7 (wrap64 (x8 + 1)))) else (none)) else (none)) else (some (-1))
def slices_Index_int_int.f (k : Nat) (l0 : List Int) (a1 : Int) : Option (Int) := slices_Index_int_int.l0 k l0 a1 (l0.length : Int) 0
theorem slices_Index_int_int.mono_l : ∀ k, (∀ y0 y1 y2 y3, LeO (slices_Index_int_int.l0 k y0 y1 y2 y3) (slices_Index_int_int.l0 (k + 1) y0 y1 y2 y3))
 | 0 => fun _ _ _ _ r h => by simp [slices_Index_int_int.l0] at h
 | k + 1 => by
  have ih0 := slices_Index_int_int.mono_l k
  ·intro y0 y1 y2 y3
   unfold slices_Index_int_int.l0
   repeat' first | (with_reducible first | exact ih0 _ _ _ _ | exact LeO.refl _ | exact LeO.none _ | refine LeO.ite ?_ ?_ | refine LeO.bind ?_ (fun _ => ?_)) | exact LeO.none _ | refine LeO.ite ?_ ?_ | refine LeO.bind ?_ (fun _ => ?_)
theorem slices_Index_int_int.mono : ∀ a0 a1 k, LeO (slices_Index_int_int.f k a0 a1) (slices_Index_int_int.f (k + 1) a0 a1) := by
 intro a0 a1 k
 have ih0 := slices_Index_int_int.mono_l k
 unfold slices_Index_int_int.f
 repeat' first | (with_reducible first | exact ih0 _ _ _ _ | exact LeO.refl _ | exact LeO.none _ | refine LeO.ite ?_ ?_ | refine LeO.bind ?_ (fun _ => ?_)) | exact LeO.none _ | refine LeO.ite ?_ ?_ | refine LeO.bind ?_ (fun _ => ?_)
theorem slices_Index_int_int.calls (k : Nat) (A0 : Option Addr) (c0 : Nat) (l0 : List Int) (a1 : Int) (r : Int) (w : World) (hr0 : Kd.C (Kd.int .i64) w A0 l0.length l0) (hc0 : l0.length ≤ c0) (h : slices_Index_int_int.f k l0 a1 = some r) :
  Calls Try.prog 96 #[.slice A0 l0.length c0, .int .i64 a1] w fun e w' => e = .returned (.int .i64 r) ∧ Drawn0 w w' := by
 have HR0 := Aside0.mk hr0
 have HC0 := Aside0.mk hc0
 clear hr0 hc0
 have H : (slices_Index_int_int.l0 k l0 a1 (l0.length : Int) 0) = some r := h
 clear h
 have H' := Aside0.mk H
 clear H
 go_enter Try.func96, Try.ntmps96
 go_wp2
 go_loopg [8] k (fun kq v8 w' => ∃ (x8_1 : Int), v8 = .int .i64 x8_1 ∧ Aside0 (slices_Index_int_int.l0 kq l0 a1 (l0.length : Int) x8_1 = some r) ∧ Aside0 (kq ≤ k) ∧ Drawn0 w w')
 case atStart => exact ⟨(0), RS, H', ⟨Nat.le_refl _⟩, DR⟩
 case round =>
  clear H'
  try clear p2
  obtain ⟨x8_1, rfl, HA, HK1, ⟨m1, rfl⟩⟩ := hrel
  cases gk with
  | zero => exact absurd HA.out (by simp [slices_Index_int_int.l0])
  | succ k1 =>
   have H := HA.out
   clear HA
   simp only [slices_Index_int_int.l0] at H
   by_cases c3 : x8_1 < (l0.length : Int)
   ·rw [if_pos c3] at H
    have c3b0 : decide (x8_1 < (l0.length : Int)) = true := decide_eq_true c3
    clear c3
    by_cases c4 : 0 ≤ x8_1
    ·rw [if_pos c4] at H
     have c4b0 : decide (0 ≤ x8_1) = true := decide_eq_true c4
     clear c4
     by_cases c5 : x8_1 < (l0.length : Int)
     ·rw [if_pos c5] at H
      have c5b0 : decide (x8_1 < (l0.length : Int)) = true := decide_eq_true c5
      clear c5
      by_cases c6 : a1 = (rd l0 x8_1)
      ·rw [if_pos c6] at H
       have c6b0 : (a1 == (rd l0 x8_1)) = true := beq_iff_eq.mpr c6
       have c6b1 : (a1 != (rd l0 x8_1)) = false := bne_eq_false_iff_eq.mpr c6
       clear c6
       obtain rfl := Option.some.inj H
       have p178 : 0 ≤ (x8_1 : Int) := of_decide_eq_true AS
       have q178 : x8_1 < (l0.length : Int) := of_decide_eq_true AS
       obtain ⟨ad178, e178, hx178_0⟩ := Kd.at_int HR0.out x8_1 p178 q178
       cases e178
       replace p178 := eq_true p178
       replace q178 := eq_true q178
       go_wp2
       go_ret
       exact ⟨by first | rfl | (simp; done) | (simp [*]; done), DR⟩
      ·rw [if_neg c6] at H
       have c6b0 : (a1 == (rd l0 x8_1)) = false := beq_eq_false_iff_ne.mpr c6
       have c6b1 : (a1 != (rd l0 x8_1)) = true := bne_iff_ne.mpr c6
       have H' := Aside0.mk H
       clear H
       have p178 : 0 ≤ (x8_1 : Int) := of_decide_eq_true AS
       have q178 : x8_1 < (l0.length : Int) := of_decide_eq_true AS
       obtain ⟨ad178, e178, hx178_0⟩ := Kd.at_int HR0.out x8_1 p178 q178
       cases e178
       replace p178 := eq_true p178
       replace q178 := eq_true q178
       go_wp2
       go_roundg k1
       case measure => have := HK1.out; omega
       case rel => exact ⟨(wrap64 (x8_1 + 1)), RS, H', ⟨by have := HK1.out; omega⟩, DR⟩
     ·rw [if_neg c5] at H
      exact absurd H (by simp)
    ·rw [if_neg c4] at H
     exact absurd H (by simp)
   ·rw [if_neg c3] at H
    have c3b0 : decide (x8_1 < (l0.length : Int)) = false := decide_eq_false c3
    clear c3
    obtain rfl := Option.some.inj H
    go_wp2
    go_ret
    exact ⟨by first | rfl | (simp; done) | (simp [*]; done), DR⟩
def slices_Contains_int_int.f (k : Nat) (l0 : List Int) (a1 : Int) : Option (Bool) := (slices_Index_int_int.f k l0 a1).bind fun t180 => (some (decide (t180 ≥ 0)))
theorem slices_Contains_int_int.mono : ∀ a0 a1 k, LeO (slices_Contains_int_int.f k a0 a1) (slices_Contains_int_int.f (k + 1) a0 a1) := by
 intro a0 a1 k
 unfold slices_Contains_int_int.f
 repeat' first | (with_reducible first | exact slices_Index_int_int.mono _ _ _ | exact LeO.refl _ | exact LeO.none _ | refine LeO.ite ?_ ?_ | refine LeO.bind ?_ (fun _ => ?_)) | exact LeO.none _ | refine LeO.ite ?_ ?_ | refine LeO.bind ?_ (fun _ => ?_)
theorem slices_Contains_int_int.calls (k : Nat) (A0 : Option Addr) (c0 : Nat) (l0 : List Int) (a1 : Int) (r : Bool) (w : World) (hr0 : Kd.C (Kd.int .i64) w A0 l0.length l0) (hc0 : l0.length ≤ c0) (h : slices_Contains_int_int.f k l0 a1 = some r) :
  Calls Try.prog 76 #[.slice A0 l0.length c0, .int .i64 a1] w fun e w' => e = .returned (.bool r) ∧ Drawn0 w w' := by
 have HR0 := Aside0.mk hr0
 have HC0 := Aside0.mk hc0
 clear hr0 hc0
 have H : ((slices_Index_int_int.f k l0 a1).bind fun t180 => (some (decide (t180 ≥ 0)))) = some r := h
 clear h
 replace H := BS H
 obtain ⟨t180, A30, H⟩ := H
 have A3 := Aside0.mk A30
 clear A30
 obtain rfl := Option.some.inj H
 go_enter Try.func76, Try.ntmps76
 go_wp2_with (first | ((with_reducible refine gate_callee (f := 96) rfl ?_); refine goesL_ (some 7) rfl rfl Try.func96 (by kernel_rfl) rfl #[.slice A0 l0.length c0, .int .i64 a1] rfl AQ ?_; (with_reducible refine (slices_Index_int_int.calls k _ _ l0 a1 t180 _ ?side1 ?side2 A3.out).mono ?_); (case side1 => repeat (first | exact HR0.out | (with_reducible refine Kd.C_alloc ?_ _) | (with_reducible refine Kd.C_drewN ?_ _) | (with_reducible refine Kd.C_drew ?_))); (case side2 => exact HC0.out); rintro e w' ⟨rfl, ⟨nd, rfl⟩⟩; refine ⟨_, rfl, ?_⟩))
 go_ret
 exact ⟨by first | rfl | (simp; done) | (simp [*]; done), DR⟩
end Go.Proofs.Ytlokjgngjgbpmaa.G

namespace Go.Proofs.Ytlokjgngjgbpmaa.G
open Go.RowKit Go.Proofs.YtlokjgngjgbpmaaW.PrintWords Go.Proofs.YtlokjgngjgbpmaaW.PrintLast Go.Proofs.YtlokjgngjgbpmaaW.PrintMore Go.Proofs.Ytlokjgngjgbpmaa.Sh
attribute [local go_sem] max2_int min2_int max_two min_two max_three min_three max_four min_four
set_option linter.unusedVariables false
set_option linter.unusedSimpArgs false
open Go.Proofs.Ytlokjgngjgbpmaa.Mm
def impl_copyItems.f (l0 : List (S67)) : Option ((List (S67))) := if ([] : List (S67)).length + l0.length < 3518437208883 then (some (([] : List (S67)) ++ l0)) else (none)
theorem impl_copyItems.calls (A0 : Option Addr) (c0 : Nat) (l0 : List (S67)) (r : List (S67)) (w : World) (hr0 : Kd.C k67 w A0 l0.length l0) (hc0 : l0.length ≤ c0) (h : impl_copyItems.f l0 = some r) :
  Calls Try.prog 77 #[.slice A0 l0.length c0] w fun e w' => ∃ v0_ : Value, e = .returned (v0_) ∧ Mem w [] w' [rowR k67 67 v0_ r] := by
 have HR0 := Aside0.mk hr0
 have HC0 := Aside0.mk hc0
 clear hr0 hc0
 have HM := Mem.nil w
 have H := h
 clear h
 unfold impl_copyItems.f at H
 go_enter Try.func77, Try.ntmps77
 replace H := GD H; obtain ⟨c2, H⟩ := H
 have LMc2 := Aside0.mk c2
 clear c2
 obtain rfl := Option.some.inj H
 go_wp2_with (first | ((with_reducible refine gate_builtin (b := .append) (xs := #[.const (.slice none 0 0), .tmp 3]) rfl ?_); refine pAn (.const (.slice none 0 0)) (.tmp 3) 68 67 k67 l0 A0 l0.length c0 HM rfl Try.underlying68 info67 (HM.came HR0.out) (by have h_ := LMc2.out; omega) ?_; clear HM; intro v182 w3 HM))
 go_ret
 exact ⟨_, ER, (MD HM).pick [0]⟩
end Go.Proofs.Ytlokjgngjgbpmaa.G

namespace Go.Proofs.Ytlokjgngjgbpmaa.G
open Go.RowKit Go.Proofs.YtlokjgngjgbpmaaW.PrintWords Go.Proofs.YtlokjgngjgbpmaaW.PrintLast Go.Proofs.YtlokjgngjgbpmaaW.PrintMore Go.Proofs.Ytlokjgngjgbpmaa.Sh
attribute [local go_sem] max2_int min2_int max_two min_two max_three min_three max_four min_four
set_option linter.unusedVariables false
set_option linter.unusedSimpArgs false
open Go.Proofs.Ytlokjgngjgbpmaa.Man
theorem impl_itemAt.closure (key : ByteArray) (B : Nat) (W : World) (x0 x1 : ByteArray) (x2 : Int) (hcell : W.cell? ⟨B, 0, none⟩ = some (.string key)) (hB : B < W.heap.size) :
  Calls Try.prog 102 #[.agg #[.string x0, .string x1, .int .i64 x2], .pointer (some ⟨B, 0, none⟩)] W fun e w' => e = .returned (.bool (x0.toList == key.toList)) ∧ Below W.heap.size W w' := by
 have hne : B ≠ W.heap.size := by omega
 have hu := Try.underlying67
 go_enter Try.func102, Try.ntmps102
 go_wp2
 go_ret
 exact ⟨rfl, by repeat (first | exact Below.refl _ _ | apply below_alloc)⟩
def impl_itemAt.idx (key : ByteArray) : List S67 → Nat → Int
 | [], _ => -1
 | x :: r, i => if x.f0.toList = key.toList then (i : Int) else impl_itemAt.idx key r (i + 1)
theorem impl_itemAt.idx_at (key : ByteArray) (l : List S67) (i : Nat) (h : i < l.length) : impl_itemAt.idx key (l.drop i) i = if (rd_T67 l (i : Int)).f0.toList = key.toList then (i : Int) else impl_itemAt.idx key (l.drop (i + 1)) (i + 1) := by
 rw [List.drop_eq_getElem_cons h, impl_itemAt.idx]
 have e : rd_T67 l (i : Int) = l[i] := by
  show l.getD (i : Int).toNat _ = _
  simp [List.getD_eq_getElem?_getD, h]
 rw [e]
theorem impl_itemAt.idx_end (key : ByteArray) (l : List S67) (i : Nat) (h : ¬ i < l.length) : impl_itemAt.idx key (l.drop i) i = -1 := by
 rw [List.drop_of_length_le (by omega)]; rfl
set_option maxHeartbeats 1000000 in
theorem impl_itemAt.indexFunc (key : ByteArray) (B : Nat) (A0 : Option Addr) (c0 : Nat) (l0 : List S67) (w : World) (hcell : w.cell? ⟨B, 0, none⟩ = some (.string key)) (hB : B < w.heap.size) (hr0 : Kd.C k67 w A0 l0.length l0) (hc0 : l0.length ≤ c0) :
  Calls Try.prog 101 #[.slice A0 l0.length c0, .func (.func 102) #[] #[.pointer (some ⟨B, 0, none⟩)]] w fun e w' => e = .returned (.int .i64 (impl_itemAt.idx key l0 0)) ∧ Below w.heap.size w w' := by
 have HR0 := Aside0.mk hr0
 have HC0 := Aside0.mk hc0
 have HL := Aside0.mk (show l0.length ≤ 9223372036854775807 from hr0.2.1)
 have HX := Aside0.mk hcell
 have HBB := Aside0.mk hB
 clear hr0 hc0 hcell hB
 have HB := Aside0.mk (Below.refl w.heap.size w)
 obtain ⟨R, hR⟩ : ∃ R, R = impl_itemAt.idx key l0 0 := ⟨_, rfl⟩
 rw [← hR]
 have HN := Aside0.mk (show impl_itemAt.idx key (l0.drop 0) 0 = R from hR.symm)
 clear hR
 go_enter Try.func101, Try.ntmps101
 go_wp2
 go_loopg [5, 8] l0.length (fun kq _ v8 w' => ∃ x : Int, v8 = .int .i64 x ∧ Aside0 (∃ n : Nat, x = (n : Int) ∧ impl_itemAt.idx key (l0.drop n) n = R ∧ n + kq = l0.length) ∧ Aside0 (Below w.heap.size w w'))
 case atStart => exact ⟨0, rfl, ⟨0, rfl, HN.out, Nat.zero_add _⟩, HB⟩
 case round =>
  clear HN
  obtain ⟨x, rfl, HN, HB⟩ := hrel
  have hcl : ∀ y : S67, Calls Try.prog 102 #[.agg #[.string y.f0, .string y.f1, .int .i64 y.f2], .pointer (some ⟨B, 0, none⟩)] wr fun e w' => e = .returned (.bool (y.f0.toList == key.toList)) ∧ Below wr.heap.size wr w' := fun y => impl_itemAt.closure key B wr y.f0 y.f1 y.f2 ((HB.out.cell (World.block_lt_of_cell? w _ HX.out)).trans HX.out) (Nat.lt_of_lt_of_le HBB.out HB.out.size)
  by_cases hlt : x < (l0.length : Int)
  ·have hd : decide (x < (l0.length : Int)) = true := decide_eq_true hlt
   have hn0 : 0 ≤ x := by obtain ⟨n, rfl, _⟩ := HN.out; exact Int.natCast_nonneg n
   obtain ⟨ad, hA, hx0, hx1, hx2⟩ := at_T67 HR0.out x hn0 hlt
   subst hA
   replace hx0 := (HB.out.cell (World.block_lt_of_cell? w _ hx0)).trans hx0
   replace hx1 := (HB.out.cell (World.block_lt_of_cell? w _ hx1)).trans hx1
   replace hx2 := (HB.out.cell (World.block_lt_of_cell? w _ hx2)).trans hx2
   have hcall := hcl (rd_T67 l0 x)
   clear hcl
   have H0 := Aside0.mk hn0
   have H1 := Aside0.mk hlt
   replace hn0 := eq_true hn0
   replace hlt := eq_true hlt
   obtain ⟨y, hy⟩ : ∃ y, rd_T67 l0 x = y := ⟨_, rfl⟩
   rw [hy] at hx0 hx1 hx2 hcall
   have HY := Aside0.mk hy
   clear hy
   by_cases c : y.f0.toList = key.toList
   ·rw [show (y.f0.toList == key.toList) = true from beq_iff_eq.mpr c] at hcall
    have C := Aside0.mk c
    clear c
    go_wp2_with fail
    refine hcall.mono ?_
    rintro e w' ⟨rfl, hb'⟩
    have HB' := Aside0.mk hb'
    clear hb' hcall
    go_wp2
    go_ret
    refine ⟨?_, below_step HB.out HB'.out⟩
    obtain ⟨n, rfl, hn, hk⟩ := HN.out
    have e := impl_itemAt.idx_at key l0 n (Int.ofNat_lt.mp H1.out)
    rw [HY.out, if_pos C.out, hn] at e
    rw [e]
    rfl
   ·rw [show (y.f0.toList == key.toList) = false from beq_eq_false_iff_ne.mpr c] at hcall
    have C := Aside0.mk c
    clear c
    go_wp2_with fail
    refine hcall.mono ?_
    rintro e w' ⟨rfl, hb'⟩
    have HB' := Aside0.mk hb'
    clear hb' hcall
    go_wp2
    obtain ⟨n, rfl, hn, hk⟩ := HN.out
    have hlt' := Int.ofNat_lt.mp H1.out
    go_roundg (gk - 1)
    case measure => omega
    case rel =>
     have e := impl_itemAt.idx_at key l0 n hlt'
     rw [HY.out, if_neg C.out, hn] at e
     exact ⟨_, rfl, ⟨n + 1, wsucc_ (by have := HL.out; omega), e.symm, by omega⟩, ⟨below_step HB.out HB'.out⟩⟩
  ·have hd : decide (x < (l0.length : Int)) = false := decide_eq_false hlt
   clear hcl
   have HLT := Aside0.mk hlt
   clear hlt
   go_wp2
   go_ret
   obtain ⟨n, rfl, hn, hk⟩ := HN.out
   have hlt' := HLT.out
   rw [impl_itemAt.idx_end key l0 n (by omega)] at hn
   exact ⟨by rw [← hn]; rfl, HB.out⟩
def impl_itemAt.f (l0 : List S67) (a1 : ByteArray) : Option Int := some (impl_itemAt.idx a1 l0 0)
theorem impl_itemAt.calls (A0 : Option Addr) (c0 : Nat) (l0 : List S67) (a1 : ByteArray) (r : Int) (w : World) (hr0 : Kd.C k67 w A0 l0.length l0) (hc0 : l0.length ≤ c0) (h : impl_itemAt.f l0 a1 = some r) :
  Calls Try.prog 86 #[.slice A0 l0.length c0, .string a1] w fun e w' => e = .returned (.int .i64 r) ∧ Below w.heap.size w w' := by
 obtain rfl := Option.some.inj h
 have hb0 : Below w.heap.size w (w.alloc (.cells #[.string a1] 9)) := below_alloc (Below.refl _ w) _
 have hcall := impl_itemAt.indexFunc a1 w.heap.size A0 c0 l0 (w.alloc (.cells #[.string a1] 9)) (by simp) (by simp) (Kd.C_below hr0 hb0) hc0
 have HB := Aside0.mk hb0
 clear h hr0 hc0 hb0
 obtain ⟨R, hR⟩ : ∃ R, R = impl_itemAt.idx a1 l0 0 := ⟨_, rfl⟩
 rw [← hR] at hcall ⊢
 have HR := Aside0.mk hR
 clear hR
 go_enter Try.func86, Try.ntmps86
 go_wp2_with fail
 refine hcall.mono ?_
 rintro e w' ⟨rfl, hb'⟩
 have HB' := Aside0.mk hb'
 clear hb' hcall
 go_wp2
 go_ret
 exact ⟨rfl, below_step HB.out HB'.out⟩
end Go.Proofs.Ytlokjgngjgbpmaa.G

namespace Go.Proofs.Ytlokjgngjgbpmaa.G
open Go.RowKit Go.Proofs.YtlokjgngjgbpmaaW.PrintWords Go.Proofs.YtlokjgngjgbpmaaW.PrintLast Go.Proofs.YtlokjgngjgbpmaaW.PrintMore Go.Proofs.Ytlokjgngjgbpmaa.Sh
attribute [local go_sem] max2_int min2_int max_two min_two max_three min_three max_four min_four
set_option linter.unusedVariables false
set_option linter.unusedSimpArgs false
open Go.Proofs.Ytlokjgngjgbpmaa.Mm
def impl_areItems.l0 : Nat → List (S67) → List (S67) → Int → Int → Option (Bool)
 | 0, _, _, _, _ => none
 | k + 1, x0, x5, x6, x7 => if x7 < x6 then (if 0 ≤ x7 then (if x7 < (x5.length : Int) then ((impl_ItemOk.f k ((rd_T67 x5 x7).f0) ((rd_T67 x5 x7).f1) ((rd_T67 x5 x7).f2)).bind fun t186 => (if t186 = true then ((impl_itemAt.f x0 ((rd_T67 x5 x7).f0)).bind fun t187 => (if t187 = x7 then (impl_areItems.l0 k x0 x5 x6 (wrap64 (x7 + 1))) else (some false))) else (some false))) else (none)) else (none)) else (some true)
def impl_areItems.f (k : Nat) (l0 : List (S67)) : Option (Bool) := impl_areItems.l0 k l0 l0 (l0.length : Int) 0
theorem impl_areItems.calls (k : Nat) (A0 : Option Addr) (c0 : Nat) (l0 : List (S67)) (r : Bool) (w : World) (hr0 : Kd.C k67 w A0 l0.length l0) (hc0 : l0.length ≤ c0) (h : impl_areItems.f k l0 = some r) :
  Calls Try.prog 78 #[.slice A0 l0.length c0] w fun e w' => e = .returned (.bool r) ∧ Mem w [] w' [] := by
 have hu67 := Try.underlying67
 have HR0 := Aside0.mk hr0
 have HC0 := Aside0.mk hc0
 clear hr0 hc0
 have HM := Mem.nil w
 have H := h
 clear h
 unfold impl_areItems.f at H
 go_enter Try.func78, Try.ntmps78
 have H' := Aside0.mk H
 clear H
 go_wp2
 go_loopg [7] k (fun kq v7 w' => ∃ (x7_1 : Int), v7 = .int .i64 x7_1 ∧ Aside0 (impl_areItems.l0 kq l0 l0 (l0.length : Int) x7_1 = some r) ∧ Aside0 (kq ≤ k) ∧ Mem w [] w' [])
 case atStart => exact ⟨(0), RS, H', ⟨Nat.le_refl _⟩, (MD HM).pick []⟩
 case round =>
  clear H' HM
  obtain ⟨x7_1, rfl, HA, HK1, HM⟩ := hrel
  cases gk with
  | zero => exact absurd HA.out (by simp [impl_areItems.l0])
  | succ k1 =>
   have H := HA.out
   clear HA
   simp only [impl_areItems.l0] at H
   go_upto_if 8 with (fail)
   replace H := IT H; rcases H with ⟨c2, H⟩ | ⟨c2, H⟩
   ·have c2b0 := decide_eq_true c2
    clear c2
    first|rw [c2b0]|(simp only [i64_w, i32_w]; rw [c2b0])|skip
    replace H := GD H; obtain ⟨c3, H⟩ := H
    have c3b0 := decide_eq_true c3
    clear c3
    replace H := GD H; obtain ⟨c4, H⟩ := H
    have c4b0 := decide_eq_true c4
    clear c4
    replace H := BN H; obtain ⟨t186, A8, H⟩ := H
    replace H := IB H
    rcases H with ⟨c10, H⟩ | ⟨c10, H⟩
    ·subst c10
     replace H := BN H; obtain ⟨t187, A12, H⟩ := H
     have p184 : 0 ≤ (x7_1 : Int) := of_decide_eq_true AS
     have q184 : (x7_1 : Int) < (l0.length : Int) := of_decide_eq_true AS
     obtain ⟨ad184, e184, hx184_0, hx184_1, hx184_2⟩ := at_T67 (HM.came HR0.out) x7_1 p184 q184
     cases e184
     replace p184 := eq_true p184
     replace q184 := eq_true q184
     go_upto_if 22 with (first | ((with_reducible refine gN 4 rfl ?_); refine pB 4 67 [.string (⟨#[]⟩ : ByteArray), .string (⟨#[]⟩ : ByteArray), .int .i64 0] HM rfl ?_; clear HM; intro gb185 w5 HM) | ((with_reducible refine gS 4 rfl ?_); refine pS 0 4 0 [.string ((rd_T67 l0 x7_1).f0), .string ((rd_T67 l0 x7_1).f1), .int .i64 ((rd_T67 l0 x7_1).f2)] HM rfl rfl ?_; clear HM; intro w6 HM; obtain ⟨_,_,_,_,_,_⟩ := bk3 (HM.bx 0 rfl)) | ((with_reducible refine gC 42 rfl ?_); refine pC (some 13) rfl #[.agg #[.string ((rd_T67 l0 x7_1).f0), .string ((rd_T67 l0 x7_1).f1), .int .i64 ((rd_T67 l0 x7_1).f2)]] rfl Try.func42 (impl_ItemOk.calls k1 ((rd_T67 l0 x7_1).f0) ((rd_T67 l0 x7_1).f1) ((rd_T67 l0 x7_1).f2) true _ A8.out) ?_; rintro e w9 ⟨rfl, hR⟩; refine ⟨_, rfl, ?_⟩; replace HM := HM.call hR; clear hR; obtain ⟨_,_,_,_,_,_⟩ := bk3 (HM.bx 0 rfl)) | ((with_reducible refine gC 86 rfl ?_); refine pC (some 19) rfl #[.slice (some ad184) l0.length c0, .string ((rd_T67 l0 x7_1).f0)] rfl Try.func86 (impl_itemAt.calls (some ad184) c0 l0 ((rd_T67 l0 x7_1).f0) t187 _ (HM.came HR0.out) HC0.out A12.out) ?_; rintro e w13 ⟨rfl, hb⟩; refine ⟨_, rfl, ?_⟩; replace HM := HM.below hb; clear hb))
     replace HM := nzM HM
     replace H := IT H; rcases H with ⟨c14, H⟩ | ⟨c14, H⟩
     ·obtain ⟨c14b0, c14b1⟩ := BE c14
      clear c14
      first|rw [c14b0]|(simp only [i64_w, i32_w]; rw [c14b0])|skip
      have H' := Aside0.mk H
      clear H
      go_wp2
      go_roundg k1
      case measure => have := HK1.out; omega
      case rel => exact ⟨(wrap64 (x7_1 + 1)), RS, H', ⟨by have := HK1.out; omega⟩, (MD HM).pick []⟩
     ·obtain ⟨c14b0, c14b1⟩ := BF c14
      first|rw [c14b0]|(simp only [i64_w, i32_w]; rw [c14b0])|skip
      obtain rfl := Option.some.inj H
      go_wp2
      go_ret
      exact ⟨ER, (MD HM).pick []⟩
    ·subst c10
     obtain rfl := Option.some.inj H
     have p184 : 0 ≤ (x7_1 : Int) := of_decide_eq_true AS
     have q184 : (x7_1 : Int) < (l0.length : Int) := of_decide_eq_true AS
     obtain ⟨ad184, e184, hx184_0, hx184_1, hx184_2⟩ := at_T67 (HM.came HR0.out) x7_1 p184 q184
     cases e184
     replace p184 := eq_true p184
     replace q184 := eq_true q184
     go_wp2_with (first | ((with_reducible refine gN 4 rfl ?_); refine pB 4 67 [.string (⟨#[]⟩ : ByteArray), .string (⟨#[]⟩ : ByteArray), .int .i64 0] HM rfl ?_; clear HM; intro gb185 w5 HM) | ((with_reducible refine gS 4 rfl ?_); refine pS 0 4 0 [.string ((rd_T67 l0 x7_1).f0), .string ((rd_T67 l0 x7_1).f1), .int .i64 ((rd_T67 l0 x7_1).f2)] HM rfl rfl ?_; clear HM; intro w6 HM; obtain ⟨_,_,_,_,_,_⟩ := bk3 (HM.bx 0 rfl)) | ((with_reducible refine gC 42 rfl ?_); refine pC (some 13) rfl #[.agg #[.string ((rd_T67 l0 x7_1).f0), .string ((rd_T67 l0 x7_1).f1), .int .i64 ((rd_T67 l0 x7_1).f2)]] rfl Try.func42 (impl_ItemOk.calls k1 ((rd_T67 l0 x7_1).f0) ((rd_T67 l0 x7_1).f1) ((rd_T67 l0 x7_1).f2) false _ A8.out) ?_; rintro e w9 ⟨rfl, hR⟩; refine ⟨_, rfl, ?_⟩; replace HM := HM.call hR; clear hR))
     go_ret
     exact ⟨ER, (MD HM).pick []⟩
   ·have c2b0 := decide_eq_false c2
    clear c2
    first|rw [c2b0]|(simp only [i64_w, i32_w]; rw [c2b0])|skip
    obtain rfl := Option.some.inj H
    go_wp2
    go_ret
    exact ⟨ER, (MD HM).pick []⟩
mutual
def impl_ThreeOk.j0 : Nat → Bool → Int → Int → List (S67) → List (S67) → List Int → Option (Bool)
 | 0, _, _, _, _, _, _ => none
 | k + 1, x24, x189000, x189001, x189002, x189003, x189004 => if x24 = true then (some false) else (impl_ThreeOk.l0 k x189004 (x189004.length : Int) 0 x189000 x189001 x189002 x189003 x189004)
def impl_ThreeOk.l0 : Nat → List Int → Int → Int → Int → Int → List (S67) → List (S67) → List Int → Option (Bool)
 | 0, _, _, _, _, _, _, _, _ => none
 | k + 1, x26, x27, x28, x189000, x189001, x189002, x189003, x189004 => if x28 < x27 then (if 0 ≤ x28 then (if x28 < (x26.length : Int) then ((impl_isNum.f (rd x26 x28)).bind fun t200 => (if t200 = true then (if x28 ≤ (x189004.length : Int) then ((slices_Contains_int_int.f k (x189004.take (x28 : Int).toNat) (rd x26 x28)).bind fun t202 => (if t202 = true then (some false) else (impl_ThreeOk.l0 k x26 x27 (wrap64 (x28 + 1)) x189000 x189001 x189002 x189003 x189004))) else (none)) else (some false))) else (none)) else (none)) else ((impl_copyItems.f x189002).bind fun t192 => (if t192.length + x189003.length < 3518437208883 then ((some (t192 ++ x189003 : List (S67))).bind fun y195 => (if (y195.length : Int) ≤ x189000 then ((impl_areItems.f k y195).bind fun t198 => (some t198)) else (some false))) else (none)))
end
def impl_ThreeOk.f (k : Nat) (a0_0 : Int) (a0_1 : Int) (l0_2 : List (S67)) (l0_3 : List (S67)) (l0_4 : List Int) : Option (Bool) := (impl_within.f a0_0 1 60).bind fun t189 => (if t189 = true then ((impl_within.f a0_1 1 a0_0).bind fun t190 => (if t190 = true then ((impl_Three_ghosts.f a0_0 a0_1).bind fun t191 => (impl_ThreeOk.j0 k (decide ((l0_4.length : Int) > t191)) a0_0 a0_1 l0_2 l0_3 l0_4)) else (impl_ThreeOk.j0 k true a0_0 a0_1 l0_2 l0_3 l0_4))) else (impl_ThreeOk.j0 k true a0_0 a0_1 l0_2 l0_3 l0_4))
def impl_ThreeOk.T1 : Bool × List (List Nat × List Nat) := (true, [([], []), ([0], [0]), ([1], [1]), ([2], [2]), ([3, 2], [3]), ([4], [4]), ([5, 4], [4, 5]), ([4], [4]), ([7, 4], [4, 7]), ([6, 8, 4, 4], [4, 6, 8]), ([9, 4], [4, 9]), ([4, 10], [4, 10]), ([11, 9], [11]), ([12], [12]), ([13, 12], [12, 13]), ([14, 12], [12, 14]), ([12, 12], [12]), ([15, 16, 12], [12, 15, 16]), ([12, 17], [12, 17])])
def impl_ThreeOk.B1 : List Nat := [0, 1, 3, 7, 15, 31, 63, 31, 159, 511, 1023, 2047, 4095, 8191, 16383, 32767, 8191, 131071, 262143]
theorem impl_ThreeOk.tab1 : rtab .any (opsOf Try.f59 1) = impl_ThreeOk.T1 := by kernel_rfl
theorem impl_ThreeOk.bits1 : waitsOk impl_ThreeOk.T1.2 impl_ThreeOk.B1 = true := by kernel_rfl
def impl_ThreeOk.T9 : Bool × List (List Nat × List Nat) := (true, [([], []), ([0], [0]), ([1], [1]), ([], []), ([3], [3]), ([2, 4, 2], [2, 4]), ([5, 5, 0, 1, 2, 3, 4, 5], [5])])
def impl_ThreeOk.B9 : List Nat := [0, 1, 3, 0, 8, 31, 63]
theorem impl_ThreeOk.tab9 : rtab .any (opsOf Try.f59 9) = impl_ThreeOk.T9 := by kernel_rfl
theorem impl_ThreeOk.bits9 : waitsOk impl_ThreeOk.T9.2 impl_ThreeOk.B9 = true := by kernel_rfl
theorem impl_ThreeOk.calls (k : Nat) (a0_0 : Int) (a0_1 : Int) (A0_2 : Option Addr) (c0_2 : Nat) (l0_2 : List (S67)) (A0_3 : Option Addr) (c0_3 : Nat) (l0_3 : List (S67)) (A0_4 : Option Addr) (c0_4 : Nat) (l0_4 : List Int) (r : Bool) (w : World) (hr0_2 : Kd.C k67 w A0_2 l0_2.length l0_2) (hc0_2 : l0_2.length ≤ c0_2) (hr0_3 : Kd.C k67 w A0_3 l0_3.length l0_3) (hc0_3 : l0_3.length ≤ c0_3) (hr0_4 : Kd.C (Kd.int .i64) w A0_4 l0_4.length l0_4) (hc0_4 : l0_4.length ≤ c0_4) (h : impl_ThreeOk.f k a0_0 a0_1 l0_2 l0_3 l0_4 = some r) :
  Calls Try.prog 59 #[.agg #[.int .i64 a0_0, .int .i64 a0_1, .slice A0_2 l0_2.length c0_2, .slice A0_3 l0_3.length c0_3, .slice A0_4 l0_4.length c0_4]] w fun e w' => e = .returned (.bool r) ∧ Mem w [] w' [] := by
 have hu71 := Try.underlying71
 have HR0_2 := Aside0.mk hr0_2
 have HC0_2 := Aside0.mk hc0_2
 clear hr0_2 hc0_2
 have HR0_3 := Aside0.mk hr0_3
 have HC0_3 := Aside0.mk hc0_3
 clear hr0_3 hc0_3
 have HR0_4 := Aside0.mk hr0_4
 have HC0_4 := Aside0.mk hc0_4
 clear hr0_4 hc0_4
 have HM := Mem.nil w
 have H := h
 clear h
 unfold impl_ThreeOk.f at H
 go_enter Try.func59, Try.ntmps59
 have HC3 := Aside0.mk H
 clear H
 go_upto_region 1 with (first | ((with_reducible refine gN 1 rfl ?_); refine pB 1 71 [.int .i64 a0_0, .int .i64 a0_1, .slice A0_2 l0_2.length c0_2, .slice A0_3 l0_3.length c0_3, .slice A0_4 l0_4.length c0_4] HM rfl ?_; clear HM; intro gb188 w2 HM))
 go_cut [24] (fun v24 wc => ∃ (kq : Nat) (x24_2 : Bool), v24 = .bool x24_2 ∧ Aside0 (impl_ThreeOk.j0 kq x24_2 a0_0 a0_1 l0_2 l0_3 l0_4 = some r) ∧ Aside0 (kq ≤ k) ∧ Mem w [] wc [box 71 gb188 [.int .i64 a0_0, .int .i64 a0_1, .slice A0_2 l0_2.length c0_2, .slice A0_3 l0_3.length c0_3, .slice A0_4 l0_4.length c0_4]])
 case first =>
  have H := HC3.out
  clear HC3
  try go_wp2
  replace H := BN H; obtain ⟨t189, A4, H⟩ := H
  replace H := IB H
  rcases H with ⟨c5, H⟩ | ⟨c5, H⟩
  ·subst c5
   replace H := BN H; obtain ⟨t190, A6, H⟩ := H
   replace H := IB H
   rcases H with ⟨c7, H⟩ | ⟨c7, H⟩
   ·subst c7
    replace H := BN H; obtain ⟨t191, A8, H⟩ := H
    refine RGN 19 [0, 1, 2, 3, 4, 5, 6, 7, 8, 9, 10, 11, 12, 13, 14, 15, 16, 17, 18] (fun a0 b a w' => a = putSel a0 b [(0, 6, .pointer (some ⟨gb188, 0, none⟩)), (1, 7, .int .i64 a0_0), (2, 8, .bool true), (3, 9, .bool (!true)), (4, 10, .bool (!true)), (5, 11, .pointer (some ⟨gb188, 1, none⟩)), (6, 12, .int .i64 a0_1), (7, 13, .pointer (some ⟨gb188, 0, none⟩)), (8, 14, .int .i64 a0_0), (9, 15, .bool true), (10, 16, .bool (!true)), (11, 17, .bool (!true)), (12, 18, .bool (!true)), (13, 19, .pointer (some ⟨gb188, 4, none⟩)), (14, 20, .slice A0_4 l0_4.length c0_4), (15, 21, .int .i64 (l0_4.length : Int)), (16, 22, .int .i64 t191), (17, 23, .bool (decide ((l0_4.length : Int) > t191))), (18, 24, .bool (decide ((l0_4.length : Int) > t191)))] ∧ Mem w [] w' [box 71 gb188 [.int .i64 a0_0, .int .i64 a0_1, .slice A0_2 l0_2.length c0_2, .slice A0_3 l0_3.length c0_3, .slice A0_4 l0_4.length c0_4]]) impl_ThreeOk.tab1 impl_ThreeOk.bits1 ?_ ?_ ?_
    ·exact ⟨PS0' rfl _, (HM.drew).pick [0]⟩
    ·clear HM
     refine SY ?_ ?_
     ·intro b a w ha HM hb hon hoff K hK
      have e1 := PG ha 1
      exact VL (.pointer (some ⟨gb188, 0, none⟩)) (hK.out _ _ ⟨PUT ha 0 hb, HM⟩)
     refine SY ?_ ?_
     ·intro b a w ha HM hb hon hoff K hK
      obtain ⟨_,_,_,_,_,_,_,_,_,_⟩ := bk5 (HM.bx 0 rfl)
      have e6 := PE ha 0 hon
      exact VL (.int .i64 a0_0) (hK.out _ _ ⟨PUT ha 1 hb, HM⟩)
     refine SY ?_ ?_
     ·intro b a w ha HM hb hon hoff K hK
      have e7 := PE ha 1 hon
      refine ST (eC (some 8) rfl #[.int .i64 a0_0, .int .i64 1, .int .i64 60] rfl Try.func28 (impl_within.calls a0_0 1 60 true _ A4.out) ?_ (hargs := by (simp only [List.map_toArray, List.map_cons, List.map_nil, evc, eval_of e7]) <;> rfl))
      rintro e w17 ⟨rfl, hd⟩
      refine ⟨_, rfl, ?_⟩
      replace HM := HM.drawn hd
      clear hd
      exact hK.out _ _ ⟨PUT ha 2 hb, (HM).pick [0]⟩
     refine SY ?_ ?_
     ·intro b a w ha HM hb hon hoff K hK
      have e8 := PE ha 2 hon
      exact VL (.bool (!true)) (hK.out _ _ ⟨PUT ha 3 hb, HM⟩)
     refine SY ?_ ?_
     ·intro b a w ha HM hb hon hoff K hK
      have e9 := PE ha 3 hon
      exact VL (.bool (!true)) (hK.out _ _ ⟨PUT ha 4 hb, HM⟩)
     refine SY ?_ ?_
     ·intro b a w ha HM hb hon hoff K hK
      have e1 := PG ha 1
      have e10 := PE ha 4 hon
      exact VL (.pointer (some ⟨gb188, 1, none⟩)) (hK.out _ _ ⟨PUT ha 5 hb, HM⟩) (hw := wanted_on rfl rfl rfl (e10.trans (by first | rfl | (simp [*]; done))))
     refine SY ?_ ?_
     ·intro b a w ha HM hb hon hoff K hK
      obtain ⟨_,_,_,_,_,_,_,_,_,_⟩ := bk5 (HM.bx 0 rfl)
      have e11 := PE ha 5 hon
      have e10 := PE ha 4 hon
      exact VL (.int .i64 a0_1) (hK.out _ _ ⟨PUT ha 6 hb, HM⟩) (hw := wanted_on rfl rfl rfl (e10.trans (by first | rfl | (simp [*]; done))))
     refine SY ?_ ?_
     ·intro b a w ha HM hb hon hoff K hK
      have e1 := PG ha 1
      have e10 := PE ha 4 hon
      exact VL (.pointer (some ⟨gb188, 0, none⟩)) (hK.out _ _ ⟨PUT ha 7 hb, HM⟩) (hw := wanted_on rfl rfl rfl (e10.trans (by first | rfl | (simp [*]; done))))
     refine SY ?_ ?_
     ·intro b a w ha HM hb hon hoff K hK
      obtain ⟨_,_,_,_,_,_,_,_,_,_⟩ := bk5 (HM.bx 0 rfl)
      have e13 := PE ha 7 hon
      have e10 := PE ha 4 hon
      exact VL (.int .i64 a0_0) (hK.out _ _ ⟨PUT ha 8 hb, HM⟩) (hw := wanted_on rfl rfl rfl (e10.trans (by first | rfl | (simp [*]; done))))
     refine SY ?_ ?_
     ·intro b a w ha HM hb hon hoff K hK
      have e12 := PE ha 6 hon
      have e14 := PE ha 8 hon
      have e10 := PE ha 4 hon
      refine ST (eC (some 15) rfl #[.int .i64 a0_1, .int .i64 1, .int .i64 a0_0] rfl Try.func28 (impl_within.calls a0_1 1 a0_0 true _ A6.out) ?_ (hargs := by (simp only [List.map_toArray, List.map_cons, List.map_nil, evc, eval_of e12, eval_of e14]) <;> rfl)) (hw := wanted_on rfl rfl rfl (e10.trans (by first | rfl | (simp [*]; done))))
      rintro e w20 ⟨rfl, hd⟩
      refine ⟨_, rfl, ?_⟩
      replace HM := HM.drawn hd
      clear hd
      exact hK.out _ _ ⟨PUT ha 9 hb, (HM).pick [0]⟩
     refine SY ?_ ?_
     ·intro b a w ha HM hb hon hoff K hK
      have e15 := PE ha 9 hon
      have e10 := PE ha 4 hon
      exact VL (.bool (!true)) (hK.out _ _ ⟨PUT ha 10 hb, HM⟩) (hw := wanted_on rfl rfl rfl (e10.trans (by first | rfl | (simp [*]; done))))
     refine SY ?_ ?_
     ·intro b a w ha HM hb hon hoff K hK
      have e10 := PE ha 4 hon
      have e16 := PE ha 10 hon
      exact VL (.bool (!true)) (hK.out _ _ ⟨PUT ha 11 hb, HM⟩)
     refine SY ?_ ?_
     ·intro b a w ha HM hb hon hoff K hK
      have e17 := PE ha 11 hon
      exact VL (.bool (!true)) (hK.out _ _ ⟨PUT ha 12 hb, HM⟩)
     refine SY ?_ ?_
     ·intro b a w ha HM hb hon hoff K hK
      have e1 := PG ha 1
      have e18 := PE ha 12 hon
      exact VL (.pointer (some ⟨gb188, 4, none⟩)) (hK.out _ _ ⟨PUT ha 13 hb, HM⟩) (hw := wanted_on rfl rfl rfl (e18.trans (by first | rfl | (simp [*]; done))))
     refine SY ?_ ?_
     ·intro b a w ha HM hb hon hoff K hK
      obtain ⟨_,_,_,_,_,_,_,_,_,_⟩ := bk5 (HM.bx 0 rfl)
      have e19 := PE ha 13 hon
      have e18 := PE ha 12 hon
      exact VL (.slice A0_4 l0_4.length c0_4) (hK.out _ _ ⟨PUT ha 14 hb, HM⟩) (hw := wanted_on rfl rfl rfl (e18.trans (by first | rfl | (simp [*]; done))))
     refine SY ?_ ?_
     ·intro b a w ha HM hb hon hoff K hK
      have e20 := PE ha 14 hon
      have e18 := PE ha 12 hon
      exact VL (.int .i64 (l0_4.length : Int)) (hK.out _ _ ⟨PUT ha 15 hb, HM⟩) (hw := wanted_on rfl rfl rfl (e18.trans (by first | rfl | (simp [*]; done))))
     refine SY ?_ ?_
     ·intro b a w ha HM hb hon hoff K hK
      have e1 := PG ha 1
      have e18 := PE ha 12 hon
      refine ST (eC (some 22) rfl #[.pointer (some ⟨gb188, 0, none⟩)] rfl Try.func75 (impl_Three_ghosts.calls gb188 a0_0 a0_1 _ _ _ t191 _ (HM.bx 0 rfl) A8.out) ?_ (hargs := by (simp only [List.map_toArray, List.map_cons, List.map_nil, evc, eval_of e1]) <;> rfl)) (hw := wanted_on rfl rfl rfl (e18.trans (by first | rfl | (simp [*]; done))))
      rintro e w22 ⟨rfl, nd_, rfl⟩
      refine ⟨_, rfl, ?_⟩
      replace HM := HM.drewN nd_
      exact hK.out _ _ ⟨PUT ha 16 hb, (HM).pick [0]⟩
     refine SY ?_ ?_
     ·intro b a w ha HM hb hon hoff K hK
      have e21 := PE ha 15 hon
      have e22 := PE ha 16 hon
      have e18 := PE ha 12 hon
      exact VL (.bool (decide ((l0_4.length : Int) > t191))) (hK.out _ _ ⟨PUT ha 17 hb, HM⟩) (hw := wanted_on rfl rfl rfl (e18.trans (by first | rfl | (simp [*]; done))))
     refine SY ?_ ?_
     ·intro b a w ha HM hb hon hoff K hK
      have e18 := PE ha 12 hon
      have e23 := PE ha 17 hon
      exact VL (.bool (decide ((l0_4.length : Int) > t191))) (hK.out _ _ ⟨PUT ha 18 hb, HM⟩)
     exact steps_nil
    rintro _ w23 ⟨rfl, HM⟩
    simp only [putSel, if_true, Act.put, List.setIfInBounds_toArray, List.set_cons_zero, List.set_cons_succ, gt_iff_lt, ge_iff_le]
    have H' := Aside0.mk H
    clear H
    go_wp2
    go_meet
    case rel => exact ⟨_, (decide ((l0_4.length : Int) > t191)), RS, H', ⟨by first | omega | exact Nat.le_refl _⟩, (MD HM).pick [0]⟩
   ·subst c7
    refine RGN 19 [0, 1, 2, 3, 4, 5, 6, 7, 8, 9, 10, 11, 12, 13, 14, 15, 16, 17, 18] (fun a0 b a w' => a = putSel a0 b [(0, 6, .pointer (some ⟨gb188, 0, none⟩)), (1, 7, .int .i64 a0_0), (2, 8, .bool true), (3, 9, .bool (!true)), (4, 10, .bool (!true)), (5, 11, .pointer (some ⟨gb188, 1, none⟩)), (6, 12, .int .i64 a0_1), (7, 13, .pointer (some ⟨gb188, 0, none⟩)), (8, 14, .int .i64 a0_0), (9, 15, .bool false), (10, 16, .bool (!false)), (11, 17, .bool (!false)), (12, 18, .bool (!false)), (13, 19, undef), (14, 20, undef), (15, 21, undef), (16, 22, undef), (17, 23, undef), (18, 24, .bool true)] ∧ Mem w [] w' [box 71 gb188 [.int .i64 a0_0, .int .i64 a0_1, .slice A0_2 l0_2.length c0_2, .slice A0_3 l0_3.length c0_3, .slice A0_4 l0_4.length c0_4]]) impl_ThreeOk.tab1 impl_ThreeOk.bits1 ?_ ?_ ?_
    ·exact ⟨PS0' rfl _, (HM.drew).pick [0]⟩
    ·clear HM
     refine SY ?_ ?_
     ·intro b a w ha HM hb hon hoff K hK
      have e1 := PG ha 1
      exact VL (.pointer (some ⟨gb188, 0, none⟩)) (hK.out _ _ ⟨PUT ha 0 hb, HM⟩)
     refine SY ?_ ?_
     ·intro b a w ha HM hb hon hoff K hK
      obtain ⟨_,_,_,_,_,_,_,_,_,_⟩ := bk5 (HM.bx 0 rfl)
      have e6 := PE ha 0 hon
      exact VL (.int .i64 a0_0) (hK.out _ _ ⟨PUT ha 1 hb, HM⟩)
     refine SY ?_ ?_
     ·intro b a w ha HM hb hon hoff K hK
      have e7 := PE ha 1 hon
      refine ST (eC (some 8) rfl #[.int .i64 a0_0, .int .i64 1, .int .i64 60] rfl Try.func28 (impl_within.calls a0_0 1 60 true _ A4.out) ?_ (hargs := by (simp only [List.map_toArray, List.map_cons, List.map_nil, evc, eval_of e7]) <;> rfl))
      rintro e w30 ⟨rfl, hd⟩
      refine ⟨_, rfl, ?_⟩
      replace HM := HM.drawn hd
      clear hd
      exact hK.out _ _ ⟨PUT ha 2 hb, (HM).pick [0]⟩
     refine SY ?_ ?_
     ·intro b a w ha HM hb hon hoff K hK
      have e8 := PE ha 2 hon
      exact VL (.bool (!true)) (hK.out _ _ ⟨PUT ha 3 hb, HM⟩)
     refine SY ?_ ?_
     ·intro b a w ha HM hb hon hoff K hK
      have e9 := PE ha 3 hon
      exact VL (.bool (!true)) (hK.out _ _ ⟨PUT ha 4 hb, HM⟩)
     refine SY ?_ ?_
     ·intro b a w ha HM hb hon hoff K hK
      have e1 := PG ha 1
      have e10 := PE ha 4 hon
      exact VL (.pointer (some ⟨gb188, 1, none⟩)) (hK.out _ _ ⟨PUT ha 5 hb, HM⟩) (hw := wanted_on rfl rfl rfl (e10.trans (by first | rfl | (simp [*]; done))))
     refine SY ?_ ?_
     ·intro b a w ha HM hb hon hoff K hK
      obtain ⟨_,_,_,_,_,_,_,_,_,_⟩ := bk5 (HM.bx 0 rfl)
      have e11 := PE ha 5 hon
      have e10 := PE ha 4 hon
      exact VL (.int .i64 a0_1) (hK.out _ _ ⟨PUT ha 6 hb, HM⟩) (hw := wanted_on rfl rfl rfl (e10.trans (by first | rfl | (simp [*]; done))))
     refine SY ?_ ?_
     ·intro b a w ha HM hb hon hoff K hK
      have e1 := PG ha 1
      have e10 := PE ha 4 hon
      exact VL (.pointer (some ⟨gb188, 0, none⟩)) (hK.out _ _ ⟨PUT ha 7 hb, HM⟩) (hw := wanted_on rfl rfl rfl (e10.trans (by first | rfl | (simp [*]; done))))
     refine SY ?_ ?_
     ·intro b a w ha HM hb hon hoff K hK
      obtain ⟨_,_,_,_,_,_,_,_,_,_⟩ := bk5 (HM.bx 0 rfl)
      have e13 := PE ha 7 hon
      have e10 := PE ha 4 hon
      exact VL (.int .i64 a0_0) (hK.out _ _ ⟨PUT ha 8 hb, HM⟩) (hw := wanted_on rfl rfl rfl (e10.trans (by first | rfl | (simp [*]; done))))
     refine SY ?_ ?_
     ·intro b a w ha HM hb hon hoff K hK
      have e12 := PE ha 6 hon
      have e14 := PE ha 8 hon
      have e10 := PE ha 4 hon
      refine ST (eC (some 15) rfl #[.int .i64 a0_1, .int .i64 1, .int .i64 a0_0] rfl Try.func28 (impl_within.calls a0_1 1 a0_0 false _ A6.out) ?_ (hargs := by (simp only [List.map_toArray, List.map_cons, List.map_nil, evc, eval_of e12, eval_of e14]) <;> rfl)) (hw := wanted_on rfl rfl rfl (e10.trans (by first | rfl | (simp [*]; done))))
      rintro e w33 ⟨rfl, hd⟩
      refine ⟨_, rfl, ?_⟩
      replace HM := HM.drawn hd
      clear hd
      exact hK.out _ _ ⟨PUT ha 9 hb, (HM).pick [0]⟩
     refine SY ?_ ?_
     ·intro b a w ha HM hb hon hoff K hK
      have e15 := PE ha 9 hon
      have e10 := PE ha 4 hon
      exact VL (.bool (!false)) (hK.out _ _ ⟨PUT ha 10 hb, HM⟩) (hw := wanted_on rfl rfl rfl (e10.trans (by first | rfl | (simp [*]; done))))
     refine SY ?_ ?_
     ·intro b a w ha HM hb hon hoff K hK
      have e10 := PE ha 4 hon
      have e16 := PE ha 10 hon
      exact VL (.bool (!false)) (hK.out _ _ ⟨PUT ha 11 hb, HM⟩)
     refine SY ?_ ?_
     ·intro b a w ha HM hb hon hoff K hK
      have e17 := PE ha 11 hon
      exact VL (.bool (!false)) (hK.out _ _ ⟨PUT ha 12 hb, HM⟩)
     refine SY ?_ ?_
     ·intro b a w ha HM hb hon hoff K hK
      have e18 := PE ha 12 hon
      exact VN ( wanted_off rfl rfl rfl (e18.trans (by first | rfl | (simp [*]; done)))) (hK.out _ _ ⟨PUT ha 13 hb, HM⟩)
     refine SY ?_ ?_
     ·intro b a w ha HM hb hon hoff K hK
      have e18 := PE ha 12 hon
      exact VN ( wanted_off rfl rfl rfl (e18.trans (by first | rfl | (simp [*]; done)))) (hK.out _ _ ⟨PUT ha 14 hb, HM⟩)
     refine SY ?_ ?_
     ·intro b a w ha HM hb hon hoff K hK
      have e18 := PE ha 12 hon
      exact VN ( wanted_off rfl rfl rfl (e18.trans (by first | rfl | (simp [*]; done)))) (hK.out _ _ ⟨PUT ha 15 hb, HM⟩)
     refine SY ?_ ?_
     ·intro b a w ha HM hb hon hoff K hK
      have e18 := PE ha 12 hon
      exact VN ( wanted_off rfl rfl rfl (e18.trans (by first | rfl | (simp [*]; done)))) (hK.out _ _ ⟨PUT ha 16 hb, HM⟩)
     refine SY ?_ ?_
     ·intro b a w ha HM hb hon hoff K hK
      have e18 := PE ha 12 hon
      exact VN ( wanted_off rfl rfl rfl (e18.trans (by first | rfl | (simp [*]; done)))) (hK.out _ _ ⟨PUT ha 17 hb, HM⟩)
     refine SY ?_ ?_
     ·intro b a w ha HM hb hon hoff K hK
      have e18 := PE ha 12 hon
      have e23 := PE ha 17 hon
      exact VL (.bool true) (hK.out _ _ ⟨PUT ha 18 hb, HM⟩)
     exact steps_nil
    rintro _ w34 ⟨rfl, HM⟩
    simp only [putSel, if_true, Act.put, List.setIfInBounds_toArray, List.set_cons_zero, List.set_cons_succ, gt_iff_lt, ge_iff_le]
    have H' := Aside0.mk H
    clear H
    go_wp2
    go_meet
    case rel => exact ⟨_, (true), RS, H', ⟨by first | omega | exact Nat.le_refl _⟩, (MD HM).pick [0]⟩
  ·subst c5
   refine RGN 19 [0, 1, 2, 3, 4, 5, 6, 7, 8, 9, 10, 11, 12, 13, 14, 15, 16, 17, 18] (fun a0 b a w' => a = putSel a0 b [(0, 6, .pointer (some ⟨gb188, 0, none⟩)), (1, 7, .int .i64 a0_0), (2, 8, .bool false), (3, 9, .bool (!false)), (4, 10, .bool (!false)), (5, 11, undef), (6, 12, undef), (7, 13, undef), (8, 14, undef), (9, 15, undef), (10, 16, undef), (11, 17, .bool true), (12, 18, .bool true), (13, 19, undef), (14, 20, undef), (15, 21, undef), (16, 22, undef), (17, 23, undef), (18, 24, .bool true)] ∧ Mem w [] w' [box 71 gb188 [.int .i64 a0_0, .int .i64 a0_1, .slice A0_2 l0_2.length c0_2, .slice A0_3 l0_3.length c0_3, .slice A0_4 l0_4.length c0_4]]) impl_ThreeOk.tab1 impl_ThreeOk.bits1 ?_ ?_ ?_
   ·exact ⟨PS0' rfl _, (HM.drew).pick [0]⟩
   ·clear HM
    refine SY ?_ ?_
    ·intro b a w ha HM hb hon hoff K hK
     have e1 := PG ha 1
     exact VL (.pointer (some ⟨gb188, 0, none⟩)) (hK.out _ _ ⟨PUT ha 0 hb, HM⟩)
    refine SY ?_ ?_
    ·intro b a w ha HM hb hon hoff K hK
     obtain ⟨_,_,_,_,_,_,_,_,_,_⟩ := bk5 (HM.bx 0 rfl)
     have e6 := PE ha 0 hon
     exact VL (.int .i64 a0_0) (hK.out _ _ ⟨PUT ha 1 hb, HM⟩)
    refine SY ?_ ?_
    ·intro b a w ha HM hb hon hoff K hK
     have e7 := PE ha 1 hon
     refine ST (eC (some 8) rfl #[.int .i64 a0_0, .int .i64 1, .int .i64 60] rfl Try.func28 (impl_within.calls a0_0 1 60 false _ A4.out) ?_ (hargs := by (simp only [List.map_toArray, List.map_cons, List.map_nil, evc, eval_of e7]) <;> rfl))
     rintro e w38 ⟨rfl, hd⟩
     refine ⟨_, rfl, ?_⟩
     replace HM := HM.drawn hd
     clear hd
     exact hK.out _ _ ⟨PUT ha 2 hb, (HM).pick [0]⟩
    refine SY ?_ ?_
    ·intro b a w ha HM hb hon hoff K hK
     have e8 := PE ha 2 hon
     exact VL (.bool (!false)) (hK.out _ _ ⟨PUT ha 3 hb, HM⟩)
    refine SY ?_ ?_
    ·intro b a w ha HM hb hon hoff K hK
     have e9 := PE ha 3 hon
     exact VL (.bool (!false)) (hK.out _ _ ⟨PUT ha 4 hb, HM⟩)
    refine SY ?_ ?_
    ·intro b a w ha HM hb hon hoff K hK
     have e10 := PE ha 4 hon
     exact VN ( wanted_off rfl rfl rfl (e10.trans (by first | rfl | (simp [*]; done)))) (hK.out _ _ ⟨PUT ha 5 hb, HM⟩)
    refine SY ?_ ?_
    ·intro b a w ha HM hb hon hoff K hK
     have e10 := PE ha 4 hon
     exact VN ( wanted_off rfl rfl rfl (e10.trans (by first | rfl | (simp [*]; done)))) (hK.out _ _ ⟨PUT ha 6 hb, HM⟩)
    refine SY ?_ ?_
    ·intro b a w ha HM hb hon hoff K hK
     have e10 := PE ha 4 hon
     exact VN ( wanted_off rfl rfl rfl (e10.trans (by first | rfl | (simp [*]; done)))) (hK.out _ _ ⟨PUT ha 7 hb, HM⟩)
    refine SY ?_ ?_
    ·intro b a w ha HM hb hon hoff K hK
     have e10 := PE ha 4 hon
     exact VN ( wanted_off rfl rfl rfl (e10.trans (by first | rfl | (simp [*]; done)))) (hK.out _ _ ⟨PUT ha 8 hb, HM⟩)
    refine SY ?_ ?_
    ·intro b a w ha HM hb hon hoff K hK
     have e10 := PE ha 4 hon
     exact VN ( wanted_off rfl rfl rfl (e10.trans (by first | rfl | (simp [*]; done)))) (hK.out _ _ ⟨PUT ha 9 hb, HM⟩)
    refine SY ?_ ?_
    ·intro b a w ha HM hb hon hoff K hK
     have e10 := PE ha 4 hon
     exact VN ( wanted_off rfl rfl rfl (e10.trans (by first | rfl | (simp [*]; done)))) (hK.out _ _ ⟨PUT ha 10 hb, HM⟩)
    refine SY ?_ ?_
    ·intro b a w ha HM hb hon hoff K hK
     have e10 := PE ha 4 hon
     have e16 := PE ha 10 hon
     exact VL (.bool true) (hK.out _ _ ⟨PUT ha 11 hb, HM⟩)
    refine SY ?_ ?_
    ·intro b a w ha HM hb hon hoff K hK
     have e17 := PE ha 11 hon
     exact VL (.bool true) (hK.out _ _ ⟨PUT ha 12 hb, HM⟩)
    refine SY ?_ ?_
    ·intro b a w ha HM hb hon hoff K hK
     have e18 := PE ha 12 hon
     exact VN ( wanted_off rfl rfl rfl (e18.trans (by first | rfl | (simp [*]; done)))) (hK.out _ _ ⟨PUT ha 13 hb, HM⟩)
    refine SY ?_ ?_
    ·intro b a w ha HM hb hon hoff K hK
     have e18 := PE ha 12 hon
     exact VN ( wanted_off rfl rfl rfl (e18.trans (by first | rfl | (simp [*]; done)))) (hK.out _ _ ⟨PUT ha 14 hb, HM⟩)
    refine SY ?_ ?_
    ·intro b a w ha HM hb hon hoff K hK
     have e18 := PE ha 12 hon
     exact VN ( wanted_off rfl rfl rfl (e18.trans (by first | rfl | (simp [*]; done)))) (hK.out _ _ ⟨PUT ha 15 hb, HM⟩)
    refine SY ?_ ?_
    ·intro b a w ha HM hb hon hoff K hK
     have e18 := PE ha 12 hon
     exact VN ( wanted_off rfl rfl rfl (e18.trans (by first | rfl | (simp [*]; done)))) (hK.out _ _ ⟨PUT ha 16 hb, HM⟩)
    refine SY ?_ ?_
    ·intro b a w ha HM hb hon hoff K hK
     have e18 := PE ha 12 hon
     exact VN ( wanted_off rfl rfl rfl (e18.trans (by first | rfl | (simp [*]; done)))) (hK.out _ _ ⟨PUT ha 17 hb, HM⟩)
    refine SY ?_ ?_
    ·intro b a w ha HM hb hon hoff K hK
     have e18 := PE ha 12 hon
     have e23 := PE ha 17 hon
     exact VL (.bool true) (hK.out _ _ ⟨PUT ha 18 hb, HM⟩)
    exact steps_nil
   rintro _ w39 ⟨rfl, HM⟩
   simp only [putSel, if_true, Act.put, List.setIfInBounds_toArray, List.set_cons_zero, List.set_cons_succ, gt_iff_lt, ge_iff_le]
   have H' := Aside0.mk H
   clear H
   go_wp2
   go_meet
   case rel => exact ⟨_, (true), RS, H', ⟨by first | omega | exact Nat.le_refl _⟩, (MD HM).pick [0]⟩
 case rest =>
  clear HC3 HM
  obtain ⟨kq, x24_2, rfl, HA, HJ2, HM⟩ := hcut
  cases kq with
  | zero => exact absurd HA.out (by simp [impl_ThreeOk.j0])
  | succ kj2 =>
   have H := HA.out
   clear HA
   simp only [impl_ThreeOk.j0] at H
   go_upto_if 24 with (fail)
   replace H := IB H
   rcases H with ⟨c40, H⟩ | ⟨c40, H⟩
   ·subst c40
    obtain rfl := Option.some.inj H
    go_wp2
    go_ret
    exact ⟨ER, (MD HM).pick []⟩
   ·subst c40
    have H' := Aside0.mk H
    clear H
    obtain ⟨_,_,_,_,_,_,_,_,_,_⟩ := bk5 (HM.bx 0 rfl)
    go_wp2
    go_loopg [28] kj2 (fun kq v28 w' => ∃ (x28_2 : Int), v28 = .int .i64 x28_2 ∧ Aside0 (impl_ThreeOk.l0 kq l0_4 (l0_4.length : Int) x28_2 a0_0 a0_1 l0_2 l0_3 l0_4 = some r) ∧ Aside0 (kq ≤ kj2) ∧ Mem w [] w' [box 71 gb188 [.int .i64 a0_0, .int .i64 a0_1, .slice A0_2 l0_2.length c0_2, .slice A0_3 l0_3.length c0_3, .slice A0_4 l0_4.length c0_4]])
    case atStart => exact ⟨(0), RS, H', ⟨Nat.le_refl _⟩, (MD HM).pick [0]⟩
    case round =>
     clear H' HM
     obtain ⟨x28_2, rfl, HA, HK2, HM⟩ := hrel
     cases gk with
     | zero => exact absurd HA.out (by simp [impl_ThreeOk.l0])
     | succ k2 =>
      have H := HA.out
      clear HA
      simp only [impl_ThreeOk.l0] at H
      go_upto_if 29 with (fail)
      replace H := IT H; rcases H with ⟨c42, H⟩ | ⟨c42, H⟩
      ·have c42b0 := decide_eq_true c42
       clear c42
       first|rw [c42b0]|(simp only [i64_w, i32_w]; rw [c42b0])|skip
       replace H := GD H; obtain ⟨c43, H⟩ := H
       have c43b0 := decide_eq_true c43
       clear c43
       replace H := GD H; obtain ⟨c44, H⟩ := H
       have c44b0 := decide_eq_true c44
       clear c44
       replace H := BN H; obtain ⟨t200, A45, H⟩ := H
       replace H := IB H
       rcases H with ⟨c47, H⟩ | ⟨c47, H⟩
       ·subst c47
        have c49b0 := eq_true (of_decide_eq_true AS : 0 ≤ x28_2)
        replace H := GD H; obtain ⟨c50, H⟩ := H
        have c50b0 := eq_true c50
        have c50b1 : decide (x28_2 ≤ (l0_4.length : Int)) = true := decide_eq_true c50
        clear c50
        replace H := BN H; obtain ⟨t202, A52, H⟩ := H
        have p199 : 0 ≤ (x28_2 : Int) := of_decide_eq_true AS
        have q199 : (x28_2 : Int) < (l0_4.length : Int) := of_decide_eq_true AS
        obtain ⟨ad199, e199, hx199_0⟩ := Kd.at_int (HM.came HR0_4.out) x28_2 p199 q199
        cases e199
        replace p199 := eq_true p199
        replace q199 := eq_true q199
        go_upto_if 43 with (first | ((with_reducible refine gC 29 rfl ?_); refine pC (some 34) rfl #[.int .i64 (rd l0_4 x28_2)] rfl Try.func29 (impl_isNum.calls (rd l0_4 x28_2) true _ A45.out) ?_; rintro e w46 ⟨rfl, hd⟩; refine ⟨_, rfl, ?_⟩; replace HM := HM.drawn hd; clear hd; obtain ⟨_,_,_,_,_,_,_,_,_,_⟩ := bk5 (HM.bx 0 rfl)) | ((with_reducible refine gate_sl (t := 69) rfl ?_); refine pRt 69 3 (Kd.int .i64) _ _ x28_2 l0_4 (some ad199) c0_4 rfl Try.underlying69 info3 (HM.came HR0_4.out) HC0_4.out (of_decide_eq_true AS) (of_decide_eq_true AS) ?_; intro Yx51 bx51 hYx51 hbx51; have HYx51 := Aside0.mk hYx51; have HBx51 := Aside0.mk hbx51; clear hYx51 hbx51; have hlx51 : (l0_4.take (x28_2 : Int).toNat).length = (x28_2 : Int).toNat := by rw [List.length_take]; have h_ : (x28_2 : Int) ≤ ((l0_4.length : Int) : Int) := of_decide_eq_true AS; omega) | ((with_reducible refine gC 76 rfl ?_); refine pC (some 42) rfl #[.slice Yx51 (l0_4.take (x28_2 : Int).toNat).length bx51, .int .i64 (rd l0_4 x28_2)] rfl Try.func76 (slices_Contains_int_int.calls k2 _ _ (l0_4.take (x28_2 : Int).toNat) (rd l0_4 x28_2) t202 _ HYx51.out HBx51.out A52.out) ?_ (hargs := by (try simp only [List.map_toArray, List.map_cons, List.map_nil]); first | done | rfl | (rw [hlx51]; rfl) | (simp only [List.length_take]; rfl)); rintro e w53 ⟨rfl, hd⟩; refine ⟨_, rfl, ?_⟩; replace HM := HM.drawn hd; clear hd))
        replace H := IB H
        rcases H with ⟨c54, H⟩ | ⟨c54, H⟩
        ·subst c54
         obtain rfl := Option.some.inj H
         go_wp2
         go_ret
         exact ⟨ER, (MD HM).pick []⟩
        ·subst c54
         have H' := Aside0.mk H
         clear H
         go_wp2
         go_roundg k2
         case measure => have := HJ2.out; have := HK2.out; omega
         case rel => exact ⟨(wrap64 (x28_2 + 1)), RS, H', ⟨by have := HJ2.out; have := HK2.out; omega⟩, (MD HM).pick [0]⟩
       ·subst c47
        obtain rfl := Option.some.inj H
        have p199 : 0 ≤ (x28_2 : Int) := of_decide_eq_true AS
        have q199 : (x28_2 : Int) < (l0_4.length : Int) := of_decide_eq_true AS
        obtain ⟨ad199, e199, hx199_0⟩ := Kd.at_int (HM.came HR0_4.out) x28_2 p199 q199
        cases e199
        replace p199 := eq_true p199
        replace q199 := eq_true q199
        go_wp2_with (first | ((with_reducible refine gC 29 rfl ?_); refine pC (some 34) rfl #[.int .i64 (rd l0_4 x28_2)] rfl Try.func29 (impl_isNum.calls (rd l0_4 x28_2) false _ A45.out) ?_; rintro e w46 ⟨rfl, hd⟩; refine ⟨_, rfl, ?_⟩; replace HM := HM.drawn hd; clear hd))
        go_ret
        exact ⟨ER, (MD HM).pick []⟩
      ·have c42b0 := decide_eq_false c42
       clear c42
       first|rw [c42b0]|(simp only [i64_w, i32_w]; rw [c42b0])|skip
       try go_wp2
       replace H := BN H; obtain ⟨t192, A55, H⟩ := H
       replace H := GD H; obtain ⟨c56, H⟩ := H
       have LMc56 := Aside0.mk c56
       clear c56
       replace H := BLt H; obtain ⟨y195, Ny195, H⟩ := H
       replace Ny195 := Aside0.mk Ny195
       refine RGN 7 [0, 1, 2, 3, 4, 5, 6] (fun a0 b a w' => ∃ (v193 : Value) (v196 : Value), a = putSel a0 b [(0, 45, .pointer (some ⟨gb188, 2, none⟩)), (1, 46, .slice A0_2 l0_2.length c0_2), (2, 47, v193), (3, 48, .pointer (some ⟨gb188, 3, none⟩)), (4, 49, .slice A0_3 l0_3.length c0_3), (5, 50, v196), (6, 5, v196)] ∧ Mem w [] w' [box 71 gb188 [.int .i64 a0_0, .int .i64 a0_1, .slice A0_2 l0_2.length c0_2, .slice A0_3 l0_3.length c0_3, .slice A0_4 l0_4.length c0_4], sel (b 5) (rowR k67 67 v196 y195) (sel (b 2) (rowR k67 67 v193 t192) (emp))]) impl_ThreeOk.tab9 impl_ThreeOk.bits9 ?_ ?_ ?_
       ·exact ⟨.bool false, .bool false, PS0' rfl _, (HM.drew.ems 1).pick [0, 1]⟩
       ·clear HM
        refine SZ ?_ ?_
        ·rintro b a w ⟨v193, v196, ha, HM⟩ hb hon hoff K hK
         replace ha := Aside0.mk ha
         have e1 := PG ha 1
         exact VL (.pointer (some ⟨gb188, 2, none⟩)) (hK.out _ _ ⟨v193, v196, PUT ha 0 hb, HM⟩)
        refine SZ ?_ ?_
        ·rintro b a w ⟨v193, v196, ha, HM⟩ hb hon hoff K hK
         replace ha := Aside0.mk ha
         obtain ⟨_,_,_,_,_,_,_,_,_,_⟩ := bk5 (HM.bx 0 rfl)
         have e45 := PE ha 0 hon
         exact VL (.slice A0_2 l0_2.length c0_2) (hK.out _ _ ⟨v193, v196, PUT ha 1 hb, HM⟩)
        refine SZ ?_ ?_
        ·rintro b a w ⟨v193, v196, ha, HM⟩ hb hon hoff K hK
         replace ha := Aside0.mk ha
         have e46 := PE ha 1 hon
         refine ST (eC (some 47) rfl #[.slice A0_2 l0_2.length c0_2] rfl Try.func77 (impl_copyItems.calls _ _ l0_2 t192 _ (HM.came HR0_2.out) HC0_2.out A55.out) ?_ (hargs := by (simp only [List.map_toArray, List.map_cons, List.map_nil, evc, eval_of e46]) <;> rfl))
         rintro e w62 ⟨v193, rfl, hR⟩
         refine ⟨_, rfl, ?_⟩
         replace HM := HM.call hR
         clear hR
         exact hK.out _ _ ⟨v193, v196, PUT ha 2 hb, (HM.iF 2 rfl (hoff 5 rfl)).pick [0, 2]⟩
        refine SZ ?_ ?_
        ·rintro b a w ⟨v193, v196, ha, HM⟩ hb hon hoff K hK
         replace ha := Aside0.mk ha
         have e1 := PG ha 1
         exact VL (.pointer (some ⟨gb188, 3, none⟩)) (hK.out _ _ ⟨v193, v196, PUT ha 3 hb, HM⟩)
        refine SZ ?_ ?_
        ·rintro b a w ⟨v193, v196, ha, HM⟩ hb hon hoff K hK
         replace ha := Aside0.mk ha
         obtain ⟨_,_,_,_,_,_,_,_,_,_⟩ := bk5 (HM.bx 0 rfl)
         have e48 := PE ha 3 hon
         exact VL (.slice A0_3 l0_3.length c0_3) (hK.out _ _ ⟨v193, v196, PUT ha 4 hb, HM⟩)
        refine SZ ?_ ?_
        ·rintro b a w ⟨v193, v196, ha, HM⟩ hb hon hoff K hK
         replace ha := Aside0.mk ha
         replace HM := (HM.sF 1 rfl hb).sT 1 rfl (hon 2 rfl)
         have e47 := PE ha 2 hon
         have e49 := PE ha 4 hon
         refine ST (eA 1 (.tmp 47) (.tmp 49) 68 67 k67 v193 t192 l0_3 A0_3 l0_3.length c0_3 HM rfl Try.underlying68 info67 rfl (HM.came HR0_3.out) (by have h_ := LMc56.out; omega) ?_ (ops := #[]) (hw := by rfl) (hs := (eval_of e47)) (hx := (eval_of e49)))
         clear HM
         intro v196 w64 HM
         replace HM := HM.nm 1 rfl Ny195.out
         exact hK.out _ _ ⟨v193, v196, PUT (PCH ha 6 (hoff 6 rfl)) 5 hb, (HM).pick [0, 1]⟩
        refine SZ ?_ ?_
        ·rintro b a w ⟨v193, v196, ha, HM⟩ hb hon hoff K hK
         replace ha := Aside0.mk ha
         have e50 := PE ha 5 hon
         exact VL (v196) (hK.out _ _ ⟨v193, v196, PUT ha 6 hb, HM⟩)
        exact steps_nil
       rintro _ w65 ⟨v193, v196, rfl, HM⟩
       replace HM := HM.sT 1 rfl rfl
       simp only [putSel, if_true, Act.put, List.setIfInBounds_toArray, List.set_cons_zero, List.set_cons_succ, gt_iff_lt, ge_iff_le]
       replace H := IT H; rcases H with ⟨c68, H⟩ | ⟨c68, H⟩
       ·have c68b0 := decide_eq_true c68
        clear c68
        replace H := BN H; obtain ⟨t198, A69, H⟩ := H
        obtain rfl := Option.some.inj H
        obtain ⟨Xo66, ko66, rfl⟩ := HM.rdR 1 rfl
        obtain ⟨_,_,_,_,_,_,_,_,_,_⟩ := bk5 (HM.bx 0 rfl)
        go_wp2_with (first | ((with_reducible refine gC 78 rfl ?_); refine pC (some 58) rfl #[.slice Xo66 y195.length ko66] rfl Try.func78 (impl_areItems.calls k2 _ _ y195 t198 _ (HM.CR 1 rfl).2.2 (HM.CR 1 rfl).2.1 A69.out) ?_; rintro e w70 ⟨rfl, hR⟩; refine ⟨_, rfl, ?_⟩; replace HM := HM.call hR; clear hR))
        go_ret
        exact ⟨ER, (MD HM).pick []⟩
       ·have c68b0 := decide_eq_false c68
        clear c68
        obtain rfl := Option.some.inj H
        obtain ⟨Xo66, ko66, rfl⟩ := HM.rdR 1 rfl
        obtain ⟨_,_,_,_,_,_,_,_,_,_⟩ := bk5 (HM.bx 0 rfl)
        go_wp2
        go_ret
        exact ⟨ER, (MD HM).pick []⟩
def impl_ThreeNew.f (k : Nat) (a0 : Int) (a1 : Int) : Option (Int × Int × (List (S67)) × (List (S67)) × List Int × Bool) := (impl_ThreeOk.f k a0 a1 ([] : List (S67)) ([] : List (S67)) ([] : List Int)).bind fun t205 => (if t205 = true then (some (a0, a1, ([] : List (S67)), ([] : List (S67)), ([] : List Int), true)) else (some (0, 0, ([] : List (S67)), ([] : List (S67)), ([] : List Int), false)))
theorem impl_ThreeNew.calls (k : Nat) (a0 : Int) (a1 : Int) (r1 : Int) (r2 : Int) (r3 : List (S67)) (r4 : List (S67)) (r5 : List Int) (r6 : Bool) (w : World)  (h : impl_ThreeNew.f k a0 a1 = some (r1, r2, r3, r4, r5, r6)) :
  Calls Try.prog 43 #[.int .i64 a0, .int .i64 a1] w fun e w' => ∃ v2_ v3_ v4_ : Value, e = .returned (.tuple #[.agg #[.int .i64 r1, .int .i64 r2, v2_, v3_, v4_], .bool r6]) ∧ Mem w [] w' [rowR k67 67 v2_ r3, rowR k67 67 v3_ r4, rowR (Kd.int .i64) 3 v4_ r5] := by
 have hu71 := Try.underlying71
 have HM := Mem.nil w
 have H := h
 clear h
 unfold impl_ThreeNew.f at H
 go_enter Try.func43, Try.ntmps43
 replace H := BN H; obtain ⟨t205, A7, H⟩ := H
 go_upto_if 12 with (first | ((with_reducible refine gN 4 rfl ?_); refine pB 4 71 [.int .i64 0, .int .i64 0, .slice none 0 0, .slice none 0 0, .slice none 0 0] HM rfl ?_; clear HM; intro gb203 w3 HM) | ((with_reducible refine gN 6 rfl ?_); refine pB 6 71 [.int .i64 0, .int .i64 0, .slice none 0 0, .slice none 0 0, .slice none 0 0] HM rfl ?_; clear HM; intro gb204 w4 HM) | ((with_reducible refine gS 6 rfl ?_); refine pS 1 6 0 [.int .i64 a0, .int .i64 a1, .slice none 0 0, .slice none 0 0, .slice none 0 0] HM rfl rfl ?_; clear HM; intro w5 HM; obtain ⟨_,_,_,_,_,_,_,_,_,_⟩ := bk5 (HM.bx 1 rfl)) | ((with_reducible refine gC 59 rfl ?_); refine pC (some 11) rfl #[.agg #[.int .i64 a0, .int .i64 a1, .slice none 0 0, .slice none 0 0, .slice none 0 0]] rfl Try.func59 (impl_ThreeOk.calls k a0 a1 _ _ ([] : List (S67)) _ _ ([] : List (S67)) _ _ ([] : List Int) t205 _ (Kd.C_nil _ _) (Nat.le_refl _) (Kd.C_nil _ _) (Nat.le_refl _) (Kd.C_nil _ _) (Nat.le_refl _) A7.out) ?_; rintro e w8 ⟨rfl, hR⟩; refine ⟨_, rfl, ?_⟩; replace HM := HM.call hR; clear hR))
 replace HM := nzM HM
 replace H := IB H
 rcases H with ⟨c9, H⟩ | ⟨c9, H⟩
 ·subst c9
  simp only [Option.some.injEq, Prod.mk.injEq] at H
  obtain ⟨rfl, rfl, rfl, rfl, rfl, rfl⟩ := H
  obtain ⟨_,_,_,_,_,_,_,_,_,_⟩ := bk5 (HM.bx 1 rfl)
  go_wp2_with (first | ((with_reducible refine gS 4 rfl ?_); refine pS 0 4 0 [.int .i64 a0, .int .i64 a1, .slice none 0 0, .slice none 0 0, .slice none 0 0] HM rfl rfl ?_; clear HM; intro w11 HM; replace HM := HM.nl k67 67; replace HM := HM.nl k67 67; replace HM := HM.nl (Kd.int .i64) 3))
  refine bodyPost_ret (results_ct rfl _ _ gb203 71 #[.int .i64 a0, .int .i64 a1, .slice none 0 0, .slice none 0 0, .slice none 0 0] (0, 0) _ rfl (HM.bx 0 rfl) Try.underlying71 rfl (by kernel_rfl)) rfl ?_
  exact ⟨_, _, _, ER, (MD HM).pick [2, 3, 4]⟩
 ·subst c9
  simp only [Option.some.injEq, Prod.mk.injEq] at H
  obtain ⟨rfl, rfl, rfl, rfl, rfl, rfl⟩ := H
  go_wp2_with (first | ((with_reducible refine gS 4 rfl ?_); refine pS 0 4 0 [.int .i64 0, .int .i64 0, .slice none 0 0, .slice none 0 0, .slice none 0 0] HM rfl rfl ?_; clear HM; intro w12 HM; replace HM := HM.nl k67 67; replace HM := HM.nl k67 67; replace HM := HM.nl (Kd.int .i64) 3))
  refine bodyPost_ret (results_ct rfl _ _ gb203 71 #[.int .i64 0, .int .i64 0, .slice none 0 0, .slice none 0 0, .slice none 0 0] (0, 0) _ rfl (HM.bx 0 rfl) Try.underlying71 rfl (by kernel_rfl)) rfl ?_
  exact ⟨_, _, _, ER, (MD HM).pick [2, 3, 4]⟩
mutual
def impl_RowOk.j0 : Nat → Int → Int → Int → List (S67) → Option (Bool)
 | 0, _, _, _, _ => none
 | k + 1, x3, x213000, x213001, x213002 => impl_RowOk.l0 k x3 x213002 (x213002.length : Int) 0 x213000 x213001 x213002
def impl_RowOk.l0 : Nat → Int → List (S67) → Int → Int → Int → Int → List (S67) → Option (Bool)
 | 0, _, _, _, _, _, _, _ => none
 | k + 1, x3, x10, x11, x12, x213000, x213001, x213002 => if x12 < x11 then (if 0 ≤ x12 then (if x12 < (x10.length : Int) then ((impl_within.f ((rd_T67 x10 x12).f2) 0 x3).bind fun t215 => (if t215 = true then (impl_RowOk.l0 k x3 x10 x11 (wrap64 (x12 + 1)) x213000 x213001 x213002) else (some false))) else (none)) else (none)) else ((impl_within.f x213000 1 3).bind fun t216 => (if t216 = true then ((impl_within.f x213001 1 60).bind fun t217 => (if t217 = true then (if (x213002.length : Int) ≤ x213001 then ((impl_areItems.f k x213002).bind fun t218 => (some t218)) else (some false)) else (some false))) else (some false)))
end
def impl_RowOk.f (k : Nat) (a0_0 : Int) (a0_1 : Int) (l0_2 : List (S67)) : Option (Bool) := if a0_0 = 3 then (impl_RowOk.j0 k 1 a0_0 a0_1 l0_2) else (impl_RowOk.j0 k 0 a0_0 a0_1 l0_2)
theorem impl_RowOk.calls (k : Nat) (a0_0 : Int) (a0_1 : Int) (A0_2 : Option Addr) (c0_2 : Nat) (l0_2 : List (S67)) (r : Bool) (w : World) (hr0_2 : Kd.C k67 w A0_2 l0_2.length l0_2) (hc0_2 : l0_2.length ≤ c0_2) (h : impl_RowOk.f k a0_0 a0_1 l0_2 = some r) :
  Calls Try.prog 60 #[.agg #[.int .i64 a0_0, .int .i64 a0_1, .slice A0_2 l0_2.length c0_2]] w fun e w' => e = .returned (.bool r) ∧ Mem w [] w' [] := by
 have hu75 := Try.underlying75
 have hu67 := Try.underlying67
 have HR0_2 := Aside0.mk hr0_2
 have HC0_2 := Aside0.mk hc0_2
 clear hr0_2 hc0_2
 have HM := Mem.nil w
 have H := h
 clear h
 unfold impl_RowOk.f at H
 go_enter Try.func60, Try.ntmps60
 have HC4 := Aside0.mk H
 clear H
 go_upto_if 8 with (first | ((with_reducible refine gN 1 rfl ?_); refine pB 1 75 [.int .i64 a0_0, .int .i64 a0_1, .slice A0_2 l0_2.length c0_2] HM rfl ?_; clear HM; intro gb212 w2 HM; obtain ⟨_,_,_,_,_,_⟩ := bk3 (HM.bx 0 rfl)))
 go_cut [3] (fun v3 wc => ∃ (kq : Nat) (x3_3 : Int), v3 = .int .i64 x3_3 ∧ Aside0 (impl_RowOk.j0 kq x3_3 a0_0 a0_1 l0_2 = some r) ∧ Aside0 (kq ≤ k) ∧ Mem w [] wc [box 75 gb212 [.int .i64 a0_0, .int .i64 a0_1, .slice A0_2 l0_2.length c0_2]])
 case first =>
  have H := HC4.out
  clear HC4
  go_upto_if 8 with (fail)
  replace H := IT H; rcases H with ⟨c5, H⟩ | ⟨c5, H⟩
  ·obtain ⟨c5b0, c5b1⟩ := BE c5
   clear c5
   first|rw [c5b0]|(simp only [i64_w, i32_w]; rw [c5b0])|skip
   have H' := Aside0.mk H
   clear H
   go_wp2
   go_meet
   case rel => exact ⟨_, (1), RS, H', ⟨by first | omega | exact Nat.le_refl _⟩, (MD HM).pick [0]⟩
  ·obtain ⟨c5b0, c5b1⟩ := BF c5
   first|rw [c5b0]|(simp only [i64_w, i32_w]; rw [c5b0])|skip
   have H' := Aside0.mk H
   clear H
   go_wp2
   go_meet
   case rel => exact ⟨_, (0), RS, H', ⟨by first | omega | exact Nat.le_refl _⟩, (MD HM).pick [0]⟩
 case rest =>
  clear HC4 HM
  obtain ⟨kq, x3_3, rfl, HA, HJ3, HM⟩ := hcut
  cases kq with
  | zero => exact absurd HA.out (by simp [impl_RowOk.j0])
  | succ kj3 =>
   have H := HA.out
   clear HA
   simp only [impl_RowOk.j0] at H
   have H' := Aside0.mk H
   clear H
   obtain ⟨_,_,_,_,_,_⟩ := bk3 (HM.bx 0 rfl)
   go_wp2
   go_loopg [12] kj3 (fun kq v12 w' => ∃ (x12_2 : Int), v12 = .int .i64 x12_2 ∧ Aside0 (impl_RowOk.l0 kq x3_3 l0_2 (l0_2.length : Int) x12_2 a0_0 a0_1 l0_2 = some r) ∧ Aside0 (kq ≤ kj3) ∧ Mem w [] w' [box 75 gb212 [.int .i64 a0_0, .int .i64 a0_1, .slice A0_2 l0_2.length c0_2]])
   case atStart => exact ⟨(0), RS, H', ⟨Nat.le_refl _⟩, (MD HM).pick [0]⟩
   case round =>
    clear H' HM
    obtain ⟨x12_2, rfl, HA, HK2, HM⟩ := hrel
    cases gk with
    | zero => exact absurd HA.out (by simp [impl_RowOk.l0])
    | succ k2 =>
     have H := HA.out
     clear HA
     simp only [impl_RowOk.l0] at H
     go_upto_if 13 with (fail)
     replace H := IT H; rcases H with ⟨c7, H⟩ | ⟨c7, H⟩
     ·have c7b0 := decide_eq_true c7
      clear c7
      first|rw [c7b0]|(simp only [i64_w, i32_w]; rw [c7b0])|skip
      replace H := GD H; obtain ⟨c8, H⟩ := H
      have c8b0 := decide_eq_true c8
      clear c8
      replace H := GD H; obtain ⟨c9, H⟩ := H
      have c9b0 := decide_eq_true c9
      clear c9
      replace H := BN H; obtain ⟨t215, A13, H⟩ := H
      have p213 : 0 ≤ (x12_2 : Int) := of_decide_eq_true AS
      have q213 : (x12_2 : Int) < (l0_2.length : Int) := of_decide_eq_true AS
      obtain ⟨ad213, e213, hx213_0, hx213_1, hx213_2⟩ := at_T67 (HM.came HR0_2.out) x12_2 p213 q213
      cases e213
      replace p213 := eq_true p213
      replace q213 := eq_true q213
      go_upto_if 20 with (first | ((with_reducible refine gN 5 rfl ?_); refine pB 5 67 [.string (⟨#[]⟩ : ByteArray), .string (⟨#[]⟩ : ByteArray), .int .i64 0] HM rfl ?_; clear HM; intro gb214 w10 HM) | ((with_reducible refine gS 5 rfl ?_); refine pS 1 5 0 [.string ((rd_T67 l0_2 x12_2).f0), .string ((rd_T67 l0_2 x12_2).f1), .int .i64 ((rd_T67 l0_2 x12_2).f2)] HM rfl rfl ?_; clear HM; intro w11 HM; obtain ⟨_,_,_,_,_,_⟩ := bk3 (HM.bx 1 rfl)) | ((with_reducible refine gC 28 rfl ?_); refine pC (some 19) rfl #[.int .i64 ((rd_T67 l0_2 x12_2).f2), .int .i64 0, .int .i64 x3_3] rfl Try.func28 (impl_within.calls ((rd_T67 l0_2 x12_2).f2) 0 x3_3 t215 _ A13.out) ?_; rintro e w14 ⟨rfl, hd⟩; refine ⟨_, rfl, ?_⟩; replace HM := HM.drawn hd; clear hd))
      replace HM := nzM HM
      replace H := IB H
      rcases H with ⟨c15, H⟩ | ⟨c15, H⟩
      ·subst c15
       have H' := Aside0.mk H
       clear H
       go_wp2
       go_roundg k2
       case measure => have := HJ3.out; have := HK2.out; omega
       case rel => exact ⟨(wrap64 (x12_2 + 1)), RS, H', ⟨by have := HJ3.out; have := HK2.out; omega⟩, (MD HM).pick [0]⟩
      ·subst c15
       obtain rfl := Option.some.inj H
       go_wp2
       go_ret
       exact ⟨ER, (MD HM).pick []⟩
     ·have c7b0 := decide_eq_false c7
      clear c7
      first|rw [c7b0]|(simp only [i64_w, i32_w]; rw [c7b0])|skip
      replace H := BN H; obtain ⟨t216, A17, H⟩ := H
      replace H := IB H
      rcases H with ⟨c19, H⟩ | ⟨c19, H⟩
      ·subst c19
       replace H := BN H; obtain ⟨t217, A21, H⟩ := H
       replace H := IB H
       rcases H with ⟨c23, H⟩ | ⟨c23, H⟩
       ·subst c23
        replace H := IT H; rcases H with ⟨c25, H⟩ | ⟨c25, H⟩
        ·have c25b0 := decide_eq_true c25
         clear c25
         replace H := BN H; obtain ⟨t218, A26, H⟩ := H
         obtain rfl := Option.some.inj H
         obtain ⟨_,_,_,_,_,_⟩ := bk3 (HM.bx 0 rfl)
         go_wp2_with (first | ((with_reducible refine gC 28 rfl ?_); refine pC (some 24) rfl #[.int .i64 a0_0, .int .i64 1, .int .i64 3] rfl Try.func28 (impl_within.calls a0_0 1 3 true _ A17.out) ?_; rintro e w18 ⟨rfl, hd⟩; refine ⟨_, rfl, ?_⟩; replace HM := HM.drawn hd; clear hd; obtain ⟨_,_,_,_,_,_⟩ := bk3 (HM.bx 0 rfl)) | ((with_reducible refine gC 28 rfl ?_); refine pC (some 28) rfl #[.int .i64 a0_1, .int .i64 1, .int .i64 60] rfl Try.func28 (impl_within.calls a0_1 1 60 true _ A21.out) ?_; rintro e w22 ⟨rfl, hd⟩; refine ⟨_, rfl, ?_⟩; replace HM := HM.drawn hd; clear hd; obtain ⟨_,_,_,_,_,_⟩ := bk3 (HM.bx 0 rfl)) | ((with_reducible refine gC 78 rfl ?_); refine pC (some 41) rfl #[.slice A0_2 l0_2.length c0_2] rfl Try.func78 (impl_areItems.calls k2 _ _ l0_2 t218 _ (HM.came HR0_2.out) HC0_2.out A26.out) ?_; rintro e w27 ⟨rfl, hR⟩; refine ⟨_, rfl, ?_⟩; replace HM := HM.call hR; clear hR))
         go_ret
         exact ⟨ER, (MD HM).pick []⟩
        ·have c25b0 := decide_eq_false c25
         clear c25
         obtain rfl := Option.some.inj H
         obtain ⟨_,_,_,_,_,_⟩ := bk3 (HM.bx 0 rfl)
         go_wp2_with (first | ((with_reducible refine gC 28 rfl ?_); refine pC (some 24) rfl #[.int .i64 a0_0, .int .i64 1, .int .i64 3] rfl Try.func28 (impl_within.calls a0_0 1 3 true _ A17.out) ?_; rintro e w18 ⟨rfl, hd⟩; refine ⟨_, rfl, ?_⟩; replace HM := HM.drawn hd; clear hd; obtain ⟨_,_,_,_,_,_⟩ := bk3 (HM.bx 0 rfl)) | ((with_reducible refine gC 28 rfl ?_); refine pC (some 28) rfl #[.int .i64 a0_1, .int .i64 1, .int .i64 60] rfl Try.func28 (impl_within.calls a0_1 1 60 true _ A21.out) ?_; rintro e w22 ⟨rfl, hd⟩; refine ⟨_, rfl, ?_⟩; replace HM := HM.drawn hd; clear hd; obtain ⟨_,_,_,_,_,_⟩ := bk3 (HM.bx 0 rfl)))
         go_ret
         exact ⟨ER, (MD HM).pick []⟩
       ·subst c23
        obtain rfl := Option.some.inj H
        obtain ⟨_,_,_,_,_,_⟩ := bk3 (HM.bx 0 rfl)
        go_wp2_with (first | ((with_reducible refine gC 28 rfl ?_); refine pC (some 24) rfl #[.int .i64 a0_0, .int .i64 1, .int .i64 3] rfl Try.func28 (impl_within.calls a0_0 1 3 true _ A17.out) ?_; rintro e w18 ⟨rfl, hd⟩; refine ⟨_, rfl, ?_⟩; replace HM := HM.drawn hd; clear hd; obtain ⟨_,_,_,_,_,_⟩ := bk3 (HM.bx 0 rfl)) | ((with_reducible refine gC 28 rfl ?_); refine pC (some 28) rfl #[.int .i64 a0_1, .int .i64 1, .int .i64 60] rfl Try.func28 (impl_within.calls a0_1 1 60 false _ A21.out) ?_; rintro e w22 ⟨rfl, hd⟩; refine ⟨_, rfl, ?_⟩; replace HM := HM.drawn hd; clear hd))
        go_ret
        exact ⟨ER, (MD HM).pick []⟩
      ·subst c19
       obtain rfl := Option.some.inj H
       obtain ⟨_,_,_,_,_,_⟩ := bk3 (HM.bx 0 rfl)
       go_wp2_with (first | ((with_reducible refine gC 28 rfl ?_); refine pC (some 24) rfl #[.int .i64 a0_0, .int .i64 1, .int .i64 3] rfl Try.func28 (impl_within.calls a0_0 1 3 false _ A17.out) ?_; rintro e w18 ⟨rfl, hd⟩; refine ⟨_, rfl, ?_⟩; replace HM := HM.drawn hd; clear hd))
       go_ret
       exact ⟨ER, (MD HM).pick []⟩
def impl_RowNew.f (k : Nat) (a0 : Int) (a1 : Int) : Option (Int × Int × (List (S67)) × Bool) := (impl_RowOk.f k a0 a1 ([] : List (S67))).bind fun t221 => (if t221 = true then (some (a0, a1, ([] : List (S67)), true)) else (some (0, 0, ([] : List (S67)), false)))
theorem impl_RowNew.calls (k : Nat) (a0 : Int) (a1 : Int) (r1 : Int) (r2 : Int) (r3 : List (S67)) (r4 : Bool) (w : World)  (h : impl_RowNew.f k a0 a1 = some (r1, r2, r3, r4)) :
  Calls Try.prog 44 #[.int .i64 a0, .int .i64 a1] w fun e w' => ∃ v2_ : Value, e = .returned (.tuple #[.agg #[.int .i64 r1, .int .i64 r2, v2_], .bool r4]) ∧ Mem w [] w' [rowR k67 67 v2_ r3] := by
 have hu75 := Try.underlying75
 have HM := Mem.nil w
 have H := h
 clear h
 unfold impl_RowNew.f at H
 go_enter Try.func44, Try.ntmps44
 replace H := BN H; obtain ⟨t221, A7, H⟩ := H
 go_upto_if 12 with (first | ((with_reducible refine gN 4 rfl ?_); refine pB 4 75 [.int .i64 0, .int .i64 0, .slice none 0 0] HM rfl ?_; clear HM; intro gb219 w3 HM) | ((with_reducible refine gN 6 rfl ?_); refine pB 6 75 [.int .i64 0, .int .i64 0, .slice none 0 0] HM rfl ?_; clear HM; intro gb220 w4 HM) | ((with_reducible refine gS 6 rfl ?_); refine pS 1 6 0 [.int .i64 a0, .int .i64 a1, .slice none 0 0] HM rfl rfl ?_; clear HM; intro w5 HM; obtain ⟨_,_,_,_,_,_⟩ := bk3 (HM.bx 1 rfl)) | ((with_reducible refine gC 60 rfl ?_); refine pC (some 11) rfl #[.agg #[.int .i64 a0, .int .i64 a1, .slice none 0 0]] rfl Try.func60 (impl_RowOk.calls k a0 a1 _ _ ([] : List (S67)) t221 _ (Kd.C_nil _ _) (Nat.le_refl _) A7.out) ?_; rintro e w8 ⟨rfl, hR⟩; refine ⟨_, rfl, ?_⟩; replace HM := HM.call hR; clear hR))
 replace HM := nzM HM
 replace H := IB H
 rcases H with ⟨c9, H⟩ | ⟨c9, H⟩
 ·subst c9
  simp only [Option.some.injEq, Prod.mk.injEq] at H
  obtain ⟨rfl, rfl, rfl, rfl⟩ := H
  obtain ⟨_,_,_,_,_,_⟩ := bk3 (HM.bx 1 rfl)
  go_wp2_with (first | ((with_reducible refine gS 4 rfl ?_); refine pS 0 4 0 [.int .i64 a0, .int .i64 a1, .slice none 0 0] HM rfl rfl ?_; clear HM; intro w11 HM; replace HM := HM.nl k67 67))
  refine bodyPost_ret (results_ct rfl _ _ gb219 75 #[.int .i64 a0, .int .i64 a1, .slice none 0 0] (0, 0) _ rfl (HM.bx 0 rfl) Try.underlying75 rfl (by kernel_rfl)) rfl ?_
  exact ⟨_, ER, (MD HM).pick [2]⟩
 ·subst c9
  simp only [Option.some.injEq, Prod.mk.injEq] at H
  obtain ⟨rfl, rfl, rfl, rfl⟩ := H
  go_wp2_with (first | ((with_reducible refine gS 4 rfl ?_); refine pS 0 4 0 [.int .i64 0, .int .i64 0, .slice none 0 0] HM rfl rfl ?_; clear HM; intro w12 HM; replace HM := HM.nl k67 67))
  refine bodyPost_ret (results_ct rfl _ _ gb219 75 #[.int .i64 0, .int .i64 0, .slice none 0 0] (0, 0) _ rfl (HM.bx 0 rfl) Try.underlying75 rfl (by kernel_rfl)) rfl ?_
  exact ⟨_, ER, (MD HM).pick [2]⟩
def impl_SetupOk.f (k : Nat) (a0_0 : Int) (a0_1 : Int) (a0_2 : Int) : Option (Bool) := if a0_0 = 4 then ((impl_ThreeNew.f k a0_1 a0_2).bind fun bt225 => (some bt225.2.2.2.2.2)) else ((impl_RowNew.f k a0_0 a0_1).bind fun bt238 => (if bt238.2.2.2 = true then (some (a0_2 == 0)) else (some false)))
theorem impl_SetupOk.calls (k : Nat) (a0_0 : Int) (a0_1 : Int) (a0_2 : Int) (r : Bool) (w : World)  (h : impl_SetupOk.f k a0_0 a0_1 a0_2 = some r) :
  Calls Try.prog 30 #[.agg #[.int .i64 a0_0, .int .i64 a0_1, .int .i64 a0_2]] w fun e w' => e = .returned (.bool r) ∧ Mem w [] w' [] := by
 have hu31 := Try.underlying31
 have hu71 := Try.underlying71
 have hu75 := Try.underlying75
 have HM := Mem.nil w
 have H := h
 clear h
 unfold impl_SetupOk.f at H
 go_enter Try.func30, Try.ntmps30
 go_upto_if 9 with (first | ((with_reducible refine gN 1 rfl ?_); refine pB 1 31 [.int .i64 a0_0, .int .i64 a0_1, .int .i64 a0_2] HM rfl ?_; clear HM; intro gb224 w2 HM; obtain ⟨_,_,_,_,_,_⟩ := bk3 (HM.bx 0 rfl)))
 replace H := IT H; rcases H with ⟨c4, H⟩ | ⟨c4, H⟩
 ·obtain ⟨c4b0, c4b1⟩ := BE c4
  clear c4
  first|rw [c4b0]|(simp only [i64_w, i32_w]; rw [c4b0])|skip
  replace H := BN H; obtain ⟨⟨t225, t226, t227, t230, t233, t236⟩, A5, H⟩ := H
  obtain rfl := Option.some.inj H
  go_wp2_with (first | ((with_reducible refine gC 43 rfl ?_); refine pC (some 15) rfl #[.int .i64 a0_1, .int .i64 a0_2] rfl Try.func43 (impl_ThreeNew.calls k a0_1 a0_2 t225 t226 t227 t230 t233 t236 _ A5.out) ?_; rintro e w6 ⟨v228, v231, v234, rfl, hR⟩; refine ⟨_, rfl, ?_⟩; replace HM := HM.call hR; clear hR) | ((with_reducible refine gN 3 rfl ?_); refine pB 3 71 [.int .i64 0, .int .i64 0, .slice none 0 0, .slice none 0 0, .slice none 0 0] HM rfl ?_; clear HM; intro gb237 w7 HM; obtain ⟨Xo8, ko8, rfl⟩ := HM.rdR 1 rfl; obtain ⟨Xo9, ko9, rfl⟩ := HM.rdR 2 rfl; obtain ⟨Xo10, ko10, rfl⟩ := HM.rdR 3 rfl) | ((with_reducible refine gS 3 rfl ?_); refine pS 4 3 0 [.int .i64 t225, .int .i64 t226, .slice Xo8 t227.length ko8, .slice Xo9 t230.length ko9, .slice Xo10 t233.length ko10] HM rfl rfl ?_; clear HM; intro w11 HM))
  go_ret
  exact ⟨ER, (MD HM).pick []⟩
 ·have c4b0 : (a0_0 == 4) = false := beq_eq_false_iff_ne.mpr c4
  have c4b1 : (a0_0 != 4) = true := bne_iff_ne.mpr c4
  first|rw [c4b0]|(simp only [i64_w, i32_w]; rw [c4b0])|skip
  replace H := BN H; obtain ⟨⟨t238, t239, t240, t243⟩, A12, H⟩ := H
  replace H := IB H
  rcases H with ⟨c17, H⟩ | ⟨c17, H⟩
  ·subst c17
   obtain rfl := Option.some.inj H
   go_wp2_with (first | ((with_reducible refine gC 44 rfl ?_); refine pC (some 24) rfl #[.int .i64 a0_0, .int .i64 a0_1] rfl Try.func44 (impl_RowNew.calls k a0_0 a0_1 t238 t239 t240 true _ A12.out) ?_; rintro e w13 ⟨v241, rfl, hR⟩; refine ⟨_, rfl, ?_⟩; replace HM := HM.call hR; clear hR) | ((with_reducible refine gN 5 rfl ?_); refine pB 5 75 [.int .i64 0, .int .i64 0, .slice none 0 0] HM rfl ?_; clear HM; intro gb244 w14 HM; obtain ⟨Xo15, ko15, rfl⟩ := HM.rdR 1 rfl) | ((with_reducible refine gS 5 rfl ?_); refine pS 2 5 0 [.int .i64 t238, .int .i64 t239, .slice Xo15 t240.length ko15] HM rfl rfl ?_; clear HM; intro w16 HM; obtain ⟨_,_,_,_,_,_⟩ := bk3 (HM.bx 0 rfl)))
   go_ret
   exact ⟨ER, (MD HM).pick []⟩
  ·subst c17
   obtain rfl := Option.some.inj H
   go_wp2_with (first | ((with_reducible refine gC 44 rfl ?_); refine pC (some 24) rfl #[.int .i64 a0_0, .int .i64 a0_1] rfl Try.func44 (impl_RowNew.calls k a0_0 a0_1 t238 t239 t240 false _ A12.out) ?_; rintro e w13 ⟨v241, rfl, hR⟩; refine ⟨_, rfl, ?_⟩; replace HM := HM.call hR; clear hR) | ((with_reducible refine gN 5 rfl ?_); refine pB 5 75 [.int .i64 0, .int .i64 0, .slice none 0 0] HM rfl ?_; clear HM; intro gb244 w14 HM; obtain ⟨Xo15, ko15, rfl⟩ := HM.rdR 1 rfl) | ((with_reducible refine gS 5 rfl ?_); refine pS 2 5 0 [.int .i64 t238, .int .i64 t239, .slice Xo15 t240.length ko15] HM rfl rfl ?_; clear HM; intro w16 HM))
   go_ret
   exact ⟨ER, (MD HM).pick []⟩
def impl_cacheOf.f (k : Nat) (a0_0 : Int) (a0_1 : Int) (a0_2 : Int) : Option (Int × Int × (List (S67)) × Int × Int × (List (S67)) × (List (S67)) × List Int) := if a0_0 = 4 then ((impl_ThreeNew.f k a0_1 a0_2).bind fun bt247 => (some (0, 0, ([] : List (S67)), bt247.1, bt247.2.1, bt247.2.2.1, bt247.2.2.2.1, bt247.2.2.2.2.1))) else ((impl_RowNew.f k a0_0 a0_1).bind fun bt259 => (some (bt259.1, bt259.2.1, bt259.2.2.1, 0, 0, ([] : List (S67)), ([] : List (S67)), ([] : List Int))))
theorem impl_cacheOf.calls (k : Nat) (a0_0 : Int) (a0_1 : Int) (a0_2 : Int) (r1 : Int) (r2 : Int) (r3 : List (S67)) (r4 : Int) (r5 : Int) (r6 : List (S67)) (r7 : List (S67)) (r8 : List Int) (w : World)  (h : impl_cacheOf.f k a0_0 a0_1 a0_2 = some (r1, r2, r3, r4, r5, r6, r7, r8)) :
  Calls Try.prog 45 #[.agg #[.int .i64 a0_0, .int .i64 a0_1, .int .i64 a0_2]] w fun e w' => ∃ v2_ v5_ v6_ v7_ : Value, ∃ g_ : Nat, e = .returned (.pointer (some ⟨g_, 0, none⟩)) ∧ Mem w [] w' [rowR k67 67 v2_ r3, rowR k67 67 v5_ r6, rowR k67 67 v6_ r7, rowR (Kd.int .i64) 3 v7_ r8, box 95 g_ [.int .i64 r1, .int .i64 r2, v2_, .int .i64 r4, .int .i64 r5, v5_, v6_, v7_]] := by
 have hu31 := Try.underlying31
 have hu95 := Try.underlying95
 have hu71 := Try.underlying71
 have hu75 := Try.underlying75
 have HM := Mem.nil w
 have H := h
 clear h
 unfold impl_cacheOf.f at H
 go_enter Try.func45, Try.ntmps45
 go_upto_if 8 with (first | ((with_reducible refine gN 1 rfl ?_); refine pB 1 31 [.int .i64 a0_0, .int .i64 a0_1, .int .i64 a0_2] HM rfl ?_; clear HM; intro gb245 w2 HM) | ((with_reducible refine gN 5 rfl ?_); refine pB 5 95 [.int .i64 0, .int .i64 0, .slice none 0 0, .int .i64 0, .int .i64 0, .slice none 0 0, .slice none 0 0, .slice none 0 0] HM rfl ?_; clear HM; intro gb246 w3 HM; obtain ⟨_,_,_,_,_,_⟩ := bk3 (HM.bx 0 rfl)))
 replace HM := nzM HM
 replace H := IT H; rcases H with ⟨c5, H⟩ | ⟨c5, H⟩
 ·obtain ⟨c5b0, c5b1⟩ := BE c5
  clear c5
  first|rw [c5b0]|(simp only [i64_w, i32_w]; rw [c5b0])|skip
  replace H := BN H; obtain ⟨⟨t247, t248, t249, t252, t255, t258⟩, A6, H⟩ := H
  simp only [Option.some.injEq, Prod.mk.injEq] at H
  obtain ⟨rfl, rfl, rfl, rfl, rfl, rfl, rfl, rfl⟩ := H
  go_wp2_with (first | ((with_reducible refine gC 43 rfl ?_); refine pC (some 15) rfl #[.int .i64 a0_1, .int .i64 a0_2] rfl Try.func43 (impl_ThreeNew.calls k a0_1 a0_2 t247 t248 t249 t252 t255 t258 _ A6.out) ?_; rintro e w7 ⟨v250, v253, v256, rfl, hR⟩; refine ⟨_, rfl, ?_⟩; replace HM := HM.call hR; clear hR; obtain ⟨Xo8, ko8, rfl⟩ := HM.rdR 2 rfl; obtain ⟨Xo9, ko9, rfl⟩ := HM.rdR 3 rfl; obtain ⟨Xo10, ko10, rfl⟩ := HM.rdR 4 rfl) | ((with_reducible refine gS 19 rfl ?_); refine pS 1 19 3 [.int .i64 t247, .int .i64 t248, .slice Xo8 t249.length ko8, .slice Xo9 t252.length ko9, .slice Xo10 t255.length ko10] HM rfl rfl ?_; clear HM; intro w11 HM; replace HM := HM.nl k67 67))
  go_ret
  exact ⟨_, _, _, _, _, ER, (MD HM).pick [5, 2, 3, 4, 1]⟩
 ·have c5b0 : (a0_0 == 4) = false := beq_eq_false_iff_ne.mpr c5
  have c5b1 : (a0_0 != 4) = true := bne_iff_ne.mpr c5
  first|rw [c5b0]|(simp only [i64_w, i32_w]; rw [c5b0])|skip
  replace H := BN H; obtain ⟨⟨t259, t260, t261, t264⟩, A12, H⟩ := H
  simp only [Option.some.injEq, Prod.mk.injEq] at H
  obtain ⟨rfl, rfl, rfl, rfl, rfl, rfl, rfl, rfl⟩ := H
  go_wp2_with (first | ((with_reducible refine gC 44 rfl ?_); refine pC (some 26) rfl #[.int .i64 a0_0, .int .i64 a0_1] rfl Try.func44 (impl_RowNew.calls k a0_0 a0_1 t259 t260 t261 t264 _ A12.out) ?_; rintro e w13 ⟨v262, rfl, hR⟩; refine ⟨_, rfl, ?_⟩; replace HM := HM.call hR; clear hR; obtain ⟨Xo14, ko14, rfl⟩ := HM.rdR 2 rfl) | ((with_reducible refine gS 30 rfl ?_); refine pS 1 30 0 [.int .i64 t259, .int .i64 t260, .slice Xo14 t261.length ko14] HM rfl rfl ?_; clear HM; intro w15 HM; replace HM := HM.nl k67 67; replace HM := HM.nl k67 67; replace HM := HM.nl (Kd.int .i64) 3))
  go_ret
  exact ⟨_, _, _, _, _, ER, (MD HM).pick [2, 3, 4, 5, 1]⟩
def impl_copyInts.f (l0 : List Int) : Option (List Int) := if ([] : List Int).length + l0.length < 17592186044416 then (some (([] : List Int) ++ l0)) else (none)
theorem impl_copyInts.calls (A0 : Option Addr) (c0 : Nat) (l0 : List Int) (r : List Int) (w : World) (hr0 : Kd.C (Kd.int .i64) w A0 l0.length l0) (hc0 : l0.length ≤ c0) (h : impl_copyInts.f l0 = some r) :
  Calls Try.prog 97 #[.slice A0 l0.length c0] w fun e w' => ∃ v0_ : Value, e = .returned (v0_) ∧ Mem w [] w' [rowR (Kd.int .i64) 3 v0_ r] := by
 have HR0 := Aside0.mk hr0
 have HC0 := Aside0.mk hc0
 clear hr0 hc0
 have HM := Mem.nil w
 have H := h
 clear h
 unfold impl_copyInts.f at H
 go_enter Try.func97, Try.ntmps97
 replace H := GD H; obtain ⟨c2, H⟩ := H
 have LMc2 := Aside0.mk c2
 clear c2
 obtain rfl := Option.some.inj H
 go_wp2_with (first | ((with_reducible refine gate_builtin (b := .append) (xs := #[.const (.slice none 0 0), .tmp 3]) rfl ?_); refine pAn (.const (.slice none 0 0)) (.tmp 3) 69 3 (Kd.int .i64) l0 A0 l0.length c0 HM rfl Try.underlying69 info3 (HM.came HR0.out) (by have h_ := LMc2.out; omega) ?_; clear HM; intro v270 w3 HM))
 go_ret
 exact ⟨_, ER, (MD HM).pick [0]⟩
def impl_copyThree.f (a0_0 : Int) (a0_1 : Int) (l0_2 : List (S67)) (l0_3 : List (S67)) (l0_4 : List Int) : Option (Int × Int × (List (S67)) × (List (S67)) × List Int) := (impl_copyItems.f l0_2).bind fun t274 => ((impl_copyItems.f l0_3).bind fun t277 => ((impl_copyInts.f l0_4).bind fun t280 => (some (a0_0, a0_1, t274, t277, t280))))
def impl_copyThree.T1 : Bool × List (List Nat × List Nat) := (true, [([], []), ([0], [0]), ([], []), ([2], [2]), ([], []), ([4], [4]), ([5], [5]), ([], []), ([7], [7]), ([8, 6], [8]), ([], []), ([10], [10]), ([11, 9], [11]), ([1, 3, 6, 9, 12], [1, 3, 6, 9, 12]), ([13, 12, 0, 1, 2, 3, 4, 5, 6, 7, 8, 9, 10, 11, 12, 13], [13])])
def impl_copyThree.B1 : List Nat := [0, 1, 0, 4, 0, 16, 48, 0, 128, 496, 0, 1024, 4080, 8191, 16383]
theorem impl_copyThree.tab1 : rtab .any (opsOf Try.f79 1) = impl_copyThree.T1 := by kernel_rfl
theorem impl_copyThree.bits1 : waitsOk impl_copyThree.T1.2 impl_copyThree.B1 = true := by kernel_rfl
theorem impl_copyThree.calls (a0_0 : Int) (a0_1 : Int) (A0_2 : Option Addr) (c0_2 : Nat) (l0_2 : List (S67)) (A0_3 : Option Addr) (c0_3 : Nat) (l0_3 : List (S67)) (A0_4 : Option Addr) (c0_4 : Nat) (l0_4 : List Int) (r1 : Int) (r2 : Int) (r3 : List (S67)) (r4 : List (S67)) (r5 : List Int) (w : World) (hr0_2 : Kd.C k67 w A0_2 l0_2.length l0_2) (hc0_2 : l0_2.length ≤ c0_2) (hr0_3 : Kd.C k67 w A0_3 l0_3.length l0_3) (hc0_3 : l0_3.length ≤ c0_3) (hr0_4 : Kd.C (Kd.int .i64) w A0_4 l0_4.length l0_4) (hc0_4 : l0_4.length ≤ c0_4) (h : impl_copyThree.f a0_0 a0_1 l0_2 l0_3 l0_4 = some (r1, r2, r3, r4, r5)) :
  Calls Try.prog 79 #[.agg #[.int .i64 a0_0, .int .i64 a0_1, .slice A0_2 l0_2.length c0_2, .slice A0_3 l0_3.length c0_3, .slice A0_4 l0_4.length c0_4]] w fun e w' => ∃ v2_ v3_ v4_ : Value, e = .returned (.agg #[.int .i64 r1, .int .i64 r2, v2_, v3_, v4_]) ∧ Mem w [] w' [rowR k67 67 v2_ r3, rowR k67 67 v3_ r4, rowR (Kd.int .i64) 3 v4_ r5] := by
 have hu71 := Try.underlying71
 have HR0_2 := Aside0.mk hr0_2
 have HC0_2 := Aside0.mk hc0_2
 clear hr0_2 hc0_2
 have HR0_3 := Aside0.mk hr0_3
 have HC0_3 := Aside0.mk hc0_3
 clear hr0_3 hc0_3
 have HR0_4 := Aside0.mk hr0_4
 have HC0_4 := Aside0.mk hc0_4
 clear hr0_4 hc0_4
 have HM := Mem.nil w
 have H := h
 clear h
 unfold impl_copyThree.f at H
 go_enter Try.func79, Try.ntmps79
 try go_wp2_with (first | ((with_reducible refine gN 1 rfl ?_); refine pB 1 71 [.int .i64 a0_0, .int .i64 a0_1, .slice A0_2 l0_2.length c0_2, .slice A0_3 l0_3.length c0_3, .slice A0_4 l0_4.length c0_4] HM rfl ?_; clear HM; intro gb272 w2 HM) | ((with_reducible refine gN 2 rfl ?_); refine pB 2 71 [.int .i64 0, .int .i64 0, .slice none 0 0, .slice none 0 0, .slice none 0 0] HM rfl ?_; clear HM; intro gb273 w3 HM))
 replace H := BN H; obtain ⟨t274, A4, H⟩ := H
 replace H := BN H; obtain ⟨t277, A5, H⟩ := H
 replace H := BN H; obtain ⟨t280, A6, H⟩ := H
 refine RGN 15 [0, 1, 2, 3, 4, 5, 6, 7, 8, 9, 10, 11, 12, 13, 14] (fun a0 b a w' => ∃ (v275 : Value) (v278 : Value) (v281 : Value), a = putSel a0 b [(0, 3, .pointer (some ⟨gb272, 0, none⟩)), (1, 4, .int .i64 a0_0), (2, 5, .pointer (some ⟨gb272, 1, none⟩)), (3, 6, .int .i64 a0_1), (4, 7, .pointer (some ⟨gb272, 2, none⟩)), (5, 8, .slice A0_2 l0_2.length c0_2), (6, 9, v275), (7, 10, .pointer (some ⟨gb272, 3, none⟩)), (8, 11, .slice A0_3 l0_3.length c0_3), (9, 12, v278), (10, 13, .pointer (some ⟨gb272, 4, none⟩)), (11, 14, .slice A0_4 l0_4.length c0_4), (12, 15, v281), (13, 16, .agg #[.int .i64 a0_0, .int .i64 a0_1, v275, v278, v281])] ∧ Mem w [] w' [box 71 gb272 [.int .i64 a0_0, .int .i64 a0_1, .slice A0_2 l0_2.length c0_2, .slice A0_3 l0_3.length c0_3, .slice A0_4 l0_4.length c0_4], sel (b 14) (box 71 gb273 [.int .i64 a0_0, .int .i64 a0_1, v275, v278, v281]) (box 71 gb273 [.int .i64 0, .int .i64 0, .slice none 0 0, .slice none 0 0, .slice none 0 0]), sel (b 6) (rowR k67 67 v275 t274) (emp), sel (b 9) (rowR k67 67 v278 t277) (emp), sel (b 12) (rowR (Kd.int .i64) 3 v281 t280) (emp)]) impl_copyThree.tab1 impl_copyThree.bits1 ?_ ?_ ?_
 ·exact ⟨.bool false, .bool false, .bool false, PS0' rfl _, (HM.drew.ems 3).pick [0, 1, 2, 3, 4]⟩
 ·clear HM
  refine SZ ?_ ?_
  ·rintro b a w ⟨v275, v278, v281, ha, HM⟩ hb hon hoff K hK
   replace ha := Aside0.mk ha
   have e1 := PG ha 1
   exact VL (.pointer (some ⟨gb272, 0, none⟩)) (hK.out _ _ ⟨v275, v278, v281, PUT ha 0 hb, HM⟩)
  refine SZ ?_ ?_
  ·rintro b a w ⟨v275, v278, v281, ha, HM⟩ hb hon hoff K hK
   replace ha := Aside0.mk ha
   obtain ⟨_,_,_,_,_,_,_,_,_,_⟩ := bk5 (HM.bx 0 rfl)
   have e3 := PE ha 0 hon
   exact VL (.int .i64 a0_0) (hK.out _ _ ⟨v275, v278, v281, PUT ha 1 hb, HM⟩)
  refine SZ ?_ ?_
  ·rintro b a w ⟨v275, v278, v281, ha, HM⟩ hb hon hoff K hK
   replace ha := Aside0.mk ha
   have e1 := PG ha 1
   exact VL (.pointer (some ⟨gb272, 1, none⟩)) (hK.out _ _ ⟨v275, v278, v281, PUT ha 2 hb, HM⟩)
  refine SZ ?_ ?_
  ·rintro b a w ⟨v275, v278, v281, ha, HM⟩ hb hon hoff K hK
   replace ha := Aside0.mk ha
   obtain ⟨_,_,_,_,_,_,_,_,_,_⟩ := bk5 (HM.bx 0 rfl)
   have e5 := PE ha 2 hon
   exact VL (.int .i64 a0_1) (hK.out _ _ ⟨v275, v278, v281, PUT ha 3 hb, HM⟩)
  refine SZ ?_ ?_
  ·rintro b a w ⟨v275, v278, v281, ha, HM⟩ hb hon hoff K hK
   replace ha := Aside0.mk ha
   have e1 := PG ha 1
   exact VL (.pointer (some ⟨gb272, 2, none⟩)) (hK.out _ _ ⟨v275, v278, v281, PUT ha 4 hb, HM⟩)
  refine SZ ?_ ?_
  ·rintro b a w ⟨v275, v278, v281, ha, HM⟩ hb hon hoff K hK
   replace ha := Aside0.mk ha
   obtain ⟨_,_,_,_,_,_,_,_,_,_⟩ := bk5 (HM.bx 0 rfl)
   have e7 := PE ha 4 hon
   exact VL (.slice A0_2 l0_2.length c0_2) (hK.out _ _ ⟨v275, v278, v281, PUT ha 5 hb, HM⟩)
  refine SZ ?_ ?_
  ·rintro b a w ⟨v275, v278, v281, ha, HM⟩ hb hon hoff K hK
   replace ha := Aside0.mk ha
   have e8 := PE ha 5 hon
   refine ST (eC (some 9) rfl #[.slice A0_2 l0_2.length c0_2] rfl Try.func77 (impl_copyItems.calls _ _ l0_2 t274 _ (HM.came HR0_2.out) HC0_2.out A4.out) ?_ (hargs := by (simp only [List.map_toArray, List.map_cons, List.map_nil, evc, eval_of e8]) <;> rfl))
   rintro e w25 ⟨v275, rfl, hR⟩
   refine ⟨_, rfl, ?_⟩
   replace HM := HM.call hR
   clear hR
   exact hK.out _ _ ⟨v275, v278, v281, PUT (PCH ha 13 (hoff 13 rfl)) 6 hb, ((HM.sF 1 rfl (hoff 14 rfl)).iF 1 rfl (hoff 14 rfl)).pick [0, 1, 5, 3, 4]⟩
  refine SZ ?_ ?_
  ·rintro b a w ⟨v275, v278, v281, ha, HM⟩ hb hon hoff K hK
   replace ha := Aside0.mk ha
   have e1 := PG ha 1
   exact VL (.pointer (some ⟨gb272, 3, none⟩)) (hK.out _ _ ⟨v275, v278, v281, PUT ha 7 hb, HM⟩)
  refine SZ ?_ ?_
  ·rintro b a w ⟨v275, v278, v281, ha, HM⟩ hb hon hoff K hK
   replace ha := Aside0.mk ha
   obtain ⟨_,_,_,_,_,_,_,_,_,_⟩ := bk5 (HM.bx 0 rfl)
   have e10 := PE ha 7 hon
   exact VL (.slice A0_3 l0_3.length c0_3) (hK.out _ _ ⟨v275, v278, v281, PUT ha 8 hb, HM⟩)
  refine SZ ?_ ?_
  ·rintro b a w ⟨v275, v278, v281, ha, HM⟩ hb hon hoff K hK
   replace ha := Aside0.mk ha
   have e11 := PE ha 8 hon
   refine ST (eC (some 12) rfl #[.slice A0_3 l0_3.length c0_3] rfl Try.func77 (impl_copyItems.calls _ _ l0_3 t277 _ (HM.came HR0_3.out) HC0_3.out A5.out) ?_ (hargs := by (simp only [List.map_toArray, List.map_cons, List.map_nil, evc, eval_of e11]) <;> rfl))
   rintro e w27 ⟨v278, rfl, hR⟩
   refine ⟨_, rfl, ?_⟩
   replace HM := HM.call hR
   clear hR
   exact hK.out _ _ ⟨v275, v278, v281, PUT (PCH ha 13 (hoff 13 rfl)) 9 hb, ((HM.sF 1 rfl (hoff 14 rfl)).iF 1 rfl (hoff 14 rfl)).pick [0, 1, 2, 5, 4]⟩
  refine SZ ?_ ?_
  ·rintro b a w ⟨v275, v278, v281, ha, HM⟩ hb hon hoff K hK
   replace ha := Aside0.mk ha
   have e1 := PG ha 1
   exact VL (.pointer (some ⟨gb272, 4, none⟩)) (hK.out _ _ ⟨v275, v278, v281, PUT ha 10 hb, HM⟩)
  refine SZ ?_ ?_
  ·rintro b a w ⟨v275, v278, v281, ha, HM⟩ hb hon hoff K hK
   replace ha := Aside0.mk ha
   obtain ⟨_,_,_,_,_,_,_,_,_,_⟩ := bk5 (HM.bx 0 rfl)
   have e13 := PE ha 10 hon
   exact VL (.slice A0_4 l0_4.length c0_4) (hK.out _ _ ⟨v275, v278, v281, PUT ha 11 hb, HM⟩)
  refine SZ ?_ ?_
  ·rintro b a w ⟨v275, v278, v281, ha, HM⟩ hb hon hoff K hK
   replace ha := Aside0.mk ha
   have e14 := PE ha 11 hon
   refine ST (eC (some 15) rfl #[.slice A0_4 l0_4.length c0_4] rfl Try.func97 (impl_copyInts.calls _ _ l0_4 t280 _ (HM.came HR0_4.out) HC0_4.out A6.out) ?_ (hargs := by (simp only [List.map_toArray, List.map_cons, List.map_nil, evc, eval_of e14]) <;> rfl))
   rintro e w29 ⟨v281, rfl, hR⟩
   refine ⟨_, rfl, ?_⟩
   replace HM := HM.call hR
   clear hR
   exact hK.out _ _ ⟨v275, v278, v281, PUT (PCH ha 13 (hoff 13 rfl)) 12 hb, ((HM.sF 1 rfl (hoff 14 rfl)).iF 1 rfl (hoff 14 rfl)).pick [0, 1, 2, 3, 5]⟩
  refine SZ ?_ ?_
  ·rintro b a w ⟨v275, v278, v281, ha, HM⟩ hb hon hoff K hK
   replace ha := Aside0.mk ha
   have HZ := HM
   replace HM := HM.sT 2 rfl (hon 6 rfl)
   replace HM := HM.sT 3 rfl (hon 9 rfl)
   replace HM := HM.sT 4 rfl (hon 12 rfl)
   obtain ⟨Xo30, ko30, rfl⟩ := HM.rdR 4 rfl
   obtain ⟨Xo31, ko31, rfl⟩ := HM.rdR 3 rfl
   obtain ⟨Xo32, ko32, rfl⟩ := HM.rdR 2 rfl
   have e4 := PE ha 1 hon
   have e6 := PE ha 3 hon
   have e9 := PE ha 6 hon
   have e12 := PE ha 9 hon
   have e15 := PE ha 12 hon
   exact VL (.agg #[.int .i64 a0_0, .int .i64 a0_1, .slice Xo32 t274.length ko32, .slice Xo31 t277.length ko31, .slice Xo30 t280.length ko30]) (hK.out _ _ ⟨.slice Xo32 t274.length ko32, .slice Xo31 t277.length ko31, .slice Xo30 t280.length ko30, PUT ha 13 hb, HZ⟩)
  refine SZ ?_ ?_
  ·rintro b a w ⟨v275, v278, v281, ha, HM⟩ hb hon hoff K hK
   replace ha := Aside0.mk ha
   replace HM := HM.sF 1 rfl hb
   replace HM := HM.sT 2 rfl (hon 6 rfl)
   replace HM := HM.sT 3 rfl (hon 9 rfl)
   replace HM := HM.sT 4 rfl (hon 12 rfl)
   obtain ⟨Xo33, ko33, rfl⟩ := HM.rdR 2 rfl
   obtain ⟨Xo34, ko34, rfl⟩ := HM.rdR 3 rfl
   obtain ⟨Xo35, ko35, rfl⟩ := HM.rdR 4 rfl
   have e2 := PG ha 2
   have e16 := PE ha 13 hon
   refine ST (eS 1 2 0 [.int .i64 a0_0, .int .i64 a0_1, .slice Xo33 t274.length ko33, .slice Xo34 t277.length ko34, .slice Xo35 t280.length ko35] HM rfl rfl ?_ (hp := (eval_of e2)) (hx := (by rw [eval_of e16]; rfl)))
   clear HM
   intro w36 HM
   exact hK.out _ _ ⟨.slice Xo33 t274.length ko33, .slice Xo34 t277.length ko34, .slice Xo35 t280.length ko35, PUS ha, (((HM.iT 2 rfl (hon 6 rfl)).iT 3 rfl (hon 9 rfl)).iT 4 rfl (hon 12 rfl)).pick [0, 1, 2, 3, 4]⟩
  exact steps_nil
 rintro _ w37 ⟨v275, v278, v281, rfl, HM⟩
 replace HM := HM.sT 1 rfl rfl
 replace HM := HM.sT 2 rfl rfl
 replace HM := HM.sT 3 rfl rfl
 replace HM := HM.sT 4 rfl rfl
 simp only [putSel, if_true, Act.put, List.setIfInBounds_toArray, List.set_cons_zero, List.set_cons_succ, gt_iff_lt, ge_iff_le]
 simp only [Option.some.injEq, Prod.mk.injEq] at H
 obtain ⟨rfl, rfl, rfl, rfl, rfl⟩ := H
 go_wp2
 refine bodyPost_ret (results_cell_row rfl _ _ gb273 71 #[.int .i64 a0_0, .int .i64 a0_1, v275, v278, v281] (0, 0) _ rfl (HM.bx 1 rfl) Try.underlying71 rfl (by kernel_rfl)) rfl ?_
 exact ⟨_, _, _, ER, (MD HM).pick [2, 3, 4]⟩
end Go.Proofs.Ytlokjgngjgbpmaa.G

namespace Go.Proofs.Ytlokjgngjgbpmaa.G
open Go.RowKit Go.Proofs.YtlokjgngjgbpmaaW.PrintWords Go.Proofs.YtlokjgngjgbpmaaW.PrintLast Go.Proofs.YtlokjgngjgbpmaaW.PrintMore Go.Proofs.Ytlokjgngjgbpmaa.Sh
attribute [local go_sem] max2_int min2_int max_two min_two max_three min_three max_four min_four
set_option linter.unusedVariables false
set_option linter.unusedSimpArgs false
open Go.Proofs.Ytlokjgngjgbpmaa.Man
def impl_Three_item.f (l2 l3 : List S67) (a1 : ByteArray) : Option Int := (impl_itemAt.f l2 a1).bind fun a => if 0 ≤ a then some a else (impl_itemAt.f l3 a1).bind fun b => if 0 ≤ b then some ((l2.length : Int) + b) else some (-1)
def impl_Three_item.ptr (A2 A3 : Option Addr) (n : Nat) (r : Int) : Option Addr := if r < 0 then none else if r < (n : Int) then A2.map (·.add (r.toNat * 3)) else A3.map (·.add ((wrap64 (r - (n : Int))).toNat * 3))
theorem impl_Three_item.ptr_nil {A2 A3 : Option Addr} {n : Nat} {r : Int} (h : decide (r < 0) = true) : impl_Three_item.ptr A2 A3 n r = none := if_pos (of_decide_eq_true h)
theorem impl_Three_item.ptr_small {g : Nat} {A3 : Option Addr} {n : Nat} {r : Int} (h : decide (r < 0) = false) (h1 : decide (r < (n : Int)) = true) : impl_Three_item.ptr (some ⟨g, 0, none⟩) A3 n r = some ⟨g, r.toNat * 3, none⟩ := by
 refine (if_neg (of_decide_eq_false h)).trans ((if_pos (of_decide_eq_true h1)).trans ?_)
 rw [Option.map_some, add_plain]
theorem impl_Three_item.ptr_main {A2 : Option Addr} {g : Nat} {n : Nat} {r : Int} (h : decide (r < 0) = false) (h1 : decide (r < (n : Int)) = false) : impl_Three_item.ptr A2 (some ⟨g, 0, none⟩) n r = some ⟨g, (wrap64 (r - (n : Int))).toNat * 3, none⟩ := by
 refine (if_neg (of_decide_eq_false h)).trans ((if_neg (of_decide_eq_false h1)).trans ?_)
 rw [Option.map_some, add_plain]
theorem impl_Three_item.ptr_nil' {A2 A3 : Option Addr} {n : Nat} {r : Int} (h : decide (0 ≤ r) = false) : impl_Three_item.ptr A2 A3 n r = none := impl_Three_item.ptr_nil (decide_eq_true (by have := of_decide_eq_false h; omega))
theorem impl_Three_item.ptr_small' {g : Nat} {A3 : Option Addr} {n : Nat} {r : Int} (h : decide (0 ≤ r) = true) (h1 : decide (r < (n : Int)) = true) : impl_Three_item.ptr (some ⟨g, 0, none⟩) A3 n r = some ⟨g, r.toNat * 3, none⟩ := impl_Three_item.ptr_small (decide_eq_false (by have := of_decide_eq_true h; omega)) h1
theorem impl_Three_item.ptr_main' {A2 : Option Addr} {g : Nat} {n : Nat} {r : Int} (h : decide (0 ≤ r) = true) (h1 : decide (r < (n : Int)) = false) : impl_Three_item.ptr A2 (some ⟨g, 0, none⟩) n r = some ⟨g, (wrap64 (r - (n : Int))).toNat * 3, none⟩ := impl_Three_item.ptr_main (decide_eq_false (by have := of_decide_eq_true h; omega)) h1
theorem impl_itemAt.idx_lt (key : ByteArray) : ∀ (l : List S67) (i : Nat), impl_itemAt.idx key l i < ((i + l.length : Nat) : Int) ∧ (impl_itemAt.idx key l i = -1 ∨ 0 ≤ impl_itemAt.idx key l i)
 | [], i => ⟨by simp [impl_itemAt.idx]; omega, .inl rfl⟩
 | x :: r, i => by
  rw [impl_itemAt.idx]
  by_cases c : x.f0.toList = key.toList
  ·rw [if_pos c]; simp only [List.length_cons]; omega
  ·rw [if_neg c]
   have := impl_itemAt.idx_lt key r (i + 1)
   simp only [List.length_cons]
   omega
set_option maxHeartbeats 4000000 in
set_option maxRecDepth 100000 in
theorem impl_Three_item.calls (g : Nat) (a0 b0 : Int) (x4 : Value) (A2 : Option Addr) (c2 : Nat) (l2 : List S67) (A3 : Option Addr) (c3 : Nat) (l3 : List S67) (a1 : ByteArray) (r : Int) (w : World) (hr2 : Kd.C k67 w A2 l2.length l2) (hc2 : l2.length ≤ c2) (hr3 : Kd.C k67 w A3 l3.length l3) (hc3 : l3.length ≤ c3) (hb : w.heap[g]? = some (.cells #[.int .i64 a0, .int .i64 b0, .slice A2 l2.length c2, .slice A3 l3.length c3, x4] 71 (0, 0))) (h : impl_Three_item.f l2 l3 a1 = some r) :
  Calls Try.prog 80 #[.pointer (some ⟨g, 0, none⟩), .string a1] w fun e w' => e = .returned (.pointer (impl_Three_item.ptr A2 A3 l2.length r)) ∧ Below w.heap.size w w' := by
 have e1 : impl_itemAt.f l2 a1 = some (impl_itemAt.idx a1 l2 0) := rfl
 have e2 : impl_itemAt.f l3 a1 = some (impl_itemAt.idx a1 l3 0) := rfl
 have q1 := impl_itemAt.idx_lt a1 l2 0
 have q2 := impl_itemAt.idx_lt a1 l3 0
 have L2 : l2.length ≤ 9223372036854775807 := hr2.2.1
 have L3 : l3.length ≤ 9223372036854775807 := hr3.2.1
 have HB := Aside0.mk hb
 have HR2 := Aside0.mk hr2
 have HC2 := Aside0.mk hc2
 have HR3 := Aside0.mk hr3
 have HC3 := Aside0.mk hc3
 have hu45 := Try.underlying71
 have k0 : w.cell? ⟨g, 2, none⟩ = some (.slice A2 l2.length c2) := blk_cell hb 2
 unfold impl_Three_item.f at h
 rw [e1, Option.bind_some] at h
 obtain ⟨K1, hK1⟩ : ∃ K1, impl_itemAt.idx a1 l2 0 = K1 := ⟨_, rfl⟩
 rw [hK1] at h e1 q1
 clear hb hr2 hc2 hr3 hc3
 by_cases c1 : 0 ≤ K1
 ·rw [if_pos c1] at h
  obtain rfl := Option.some.inj h
  clear h
  have hlt : K1 < (l2.length : Int) := by have := q1.1; omega
  obtain ⟨ad, hA, _⟩ := at_T67 HR2.out K1 c1 hlt
  subst hA
  have hp : impl_Three_item.ptr (some ad) A3 l2.length K1 = some (ad.add (K1.toNat * 3)) := by
   unfold impl_Three_item.ptr
   rw [if_neg (by omega), if_pos hlt]; rfl
  rw [hp]
  have HE := Aside0.mk e1
  have d1 : decide (0 ≤ K1) = true := decide_eq_true c1
  replace c1 := eq_true c1
  replace hlt := eq_true hlt
  clear e1 e2 q1 q2 hK1 hp
  go_enter Try.func80, Try.ntmps80
  go_wp2_with fail
  refine (impl_itemAt.calls _ _ _ _ _ _ HR2.out HC2.out HE.out).mono ?_
  rintro e w1 ⟨rfl, hb1⟩
  have HB1 := Aside0.mk hb1
  have k1 : w1.cell? ⟨g, 2, none⟩ = some (.slice (some ad) l2.length c2) := blk_cell (blk_below HB.out hb1) 2
  clear hb1
  go_wp2
  go_ret
  exact ⟨rfl, HB1.out⟩
 ·rw [if_neg c1, e2, Option.bind_some] at h
  obtain ⟨K2, hK2⟩ : ∃ K2, impl_itemAt.idx a1 l3 0 = K2 := ⟨_, rfl⟩
  rw [hK2] at h e2 q2
  have k00 : w.cell? ⟨g, 3, none⟩ = some (.slice A3 l3.length c3) := blk_cell HB.out 3
  have d1 : decide (0 ≤ K1) = false := decide_eq_false c1
  by_cases c2' : 0 ≤ K2
  ·rw [if_pos c2'] at h
   obtain rfl := Option.some.inj h
   clear h
   have hlt : K2 < (l3.length : Int) := by have := q2.1; omega
   obtain ⟨ad, hA, _⟩ := at_T67 HR3.out K2 c2' hlt
   subst hA
   have hp : impl_Three_item.ptr A2 (some ad) l2.length ((l2.length : Int) + K2) = some (ad.add (K2.toNat * 3)) := by
    unfold impl_Three_item.ptr
    rw [if_neg (by omega), if_neg (by omega), show wrap64 ((l2.length : Int) + K2 - (l2.length : Int)) = K2 by unfold wrap64; omega]; rfl
   rw [hp]
   have HE := Aside0.mk e1
   have HE2 := Aside0.mk e2
   have d2 : decide (0 ≤ K2) = true := decide_eq_true c2'
   replace c2' := eq_true c2'
   replace hlt := eq_true hlt
   clear e1 e2 q1 q2 hK1 hK2 hp c1
   go_enter Try.func80, Try.ntmps80
   go_wp2_with fail
   refine (impl_itemAt.calls _ _ _ _ _ _ HR2.out HC2.out HE.out).mono ?_
   rintro e w1 ⟨rfl, hb1⟩
   have HB1 := Aside0.mk hb1
   have k1 : w1.cell? ⟨g, 2, none⟩ = some (.slice A2 l2.length c2) := blk_cell (blk_below HB.out hb1) 2
   have k11 : w1.cell? ⟨g, 3, none⟩ = some (.slice (some ad) l3.length c3) := blk_cell (blk_below HB.out hb1) 3
   clear hb1
   go_wp2_with fail
   refine (impl_itemAt.calls _ _ _ _ _ _ (Kd.C_below HR3.out HB1.out) HC3.out HE2.out).mono ?_
   rintro e w2 ⟨rfl, hb2⟩
   have HB2 := Aside0.mk (below_step HB1.out hb2)
   have k2 : w2.cell? ⟨g, 3, none⟩ = some (.slice (some ad) l3.length c3) := blk_cell (blk_below HB.out HB2.out) 3
   clear hb2
   go_wp2
   go_ret
   exact ⟨rfl, HB2.out⟩
  ·rw [if_neg c2'] at h
   obtain rfl := Option.some.inj h
   clear h
   have hp : impl_Three_item.ptr A2 A3 l2.length (-1) = none := by
    unfold impl_Three_item.ptr
    rw [if_pos (by omega)]
   rw [hp]
   have HE := Aside0.mk e1
   have HE2 := Aside0.mk e2
   have d2 : decide (0 ≤ K2) = false := decide_eq_false c2'
   clear e1 e2 q1 q2 hK1 hK2 hp c1 c2'
   go_enter Try.func80, Try.ntmps80
   go_wp2_with fail
   refine (impl_itemAt.calls _ _ _ _ _ _ HR2.out HC2.out HE.out).mono ?_
   rintro e w1 ⟨rfl, hb1⟩
   have HB1 := Aside0.mk hb1
   have k1 : w1.cell? ⟨g, 2, none⟩ = some (.slice A2 l2.length c2) := blk_cell (blk_below HB.out hb1) 2
   have k11 : w1.cell? ⟨g, 3, none⟩ = some (.slice A3 l3.length c3) := blk_cell (blk_below HB.out hb1) 3
   clear hb1
   go_wp2_with fail
   refine (impl_itemAt.calls _ _ _ _ _ _ (Kd.C_below HR3.out HB1.out) HC3.out HE2.out).mono ?_
   rintro e w2 ⟨rfl, hb2⟩
   have HB2 := Aside0.mk (below_step HB1.out hb2)
   clear hb2
   go_wp2
   go_ret
   exact ⟨rfl, HB2.out⟩
end Go.Proofs.Ytlokjgngjgbpmaa.G

namespace Go.Proofs.Ytlokjgngjgbpmaa.G
open Go.RowKit Go.Proofs.YtlokjgngjgbpmaaW.PrintWords Go.Proofs.YtlokjgngjgbpmaaW.PrintLast Go.Proofs.YtlokjgngjgbpmaaW.PrintMore Go.Proofs.Ytlokjgngjgbpmaa.Sh
attribute [local go_sem] max2_int min2_int max_two min_two max_three min_three max_four min_four
set_option linter.unusedVariables false
set_option linter.unusedSimpArgs false
open Go.Proofs.Ytlokjgngjgbpmaa.Mm
def impl_Get.f (k : Nat) (a0_0 : Int) (a0_1 : Int) (l0_2 : List (S67)) (l0_3 : List (S67)) (l0_4 : List Int) (a1 : ByteArray) : Option (Int × Int × (List (S67)) × (List (S67)) × List Int × ByteArray × Bool) := (impl_ThreeOk.f k a0_0 a0_1 l0_2 l0_3 l0_4).bind fun t285 => (if t285 = true then ((impl_copyThree.f a0_0 a0_1 l0_2 l0_3 l0_4).bind fun bt286 => ((impl_Three_item.f bt286.2.2.1 bt286.2.2.2.1 a1).bind fun t298 => (if t298 < 0 then (some (bt286.1, bt286.2.1, bt286.2.2.1, bt286.2.2.2.1, bt286.2.2.2.2, (⟨#[]⟩ : ByteArray), false)) else (if t298 < (bt286.2.2.1.length : Int) then (if 0 ≤ t298 then ((some (bt286.2.2.1.set (t298 : Int).toNat (⟨(rd_T67 bt286.2.2.1 t298).f0, (rd_T67 bt286.2.2.1 t298).f1, mn 3 (wrap64 (((rd_T67 bt286.2.2.1 t298).f2) + 1))⟩ : S67) : List (S67))).bind fun y299 => (some (bt286.1, bt286.2.1, y299, bt286.2.2.2.1, bt286.2.2.2.2, (rd_T67 y299 t298).f1, true))) else (none)) else (if 0 ≤ (wrap64 (t298 - (bt286.2.2.1.length : Int))) then (if (wrap64 (t298 - (bt286.2.2.1.length : Int))) < (bt286.2.2.2.1.length : Int) then ((some (bt286.2.2.2.1.set ((wrap64 (t298 - (bt286.2.2.1.length : Int))) : Int).toNat (⟨(rd_T67 bt286.2.2.2.1 (wrap64 (t298 - (bt286.2.2.1.length : Int)))).f0, (rd_T67 bt286.2.2.2.1 (wrap64 (t298 - (bt286.2.2.1.length : Int)))).f1, mn 3 (wrap64 (((rd_T67 bt286.2.2.2.1 (wrap64 (t298 - (bt286.2.2.1.length : Int)))).f2) + 1))⟩ : S67) : List (S67))).bind fun y301 => (some (bt286.1, bt286.2.1, bt286.2.2.1, y301, bt286.2.2.2.2, (rd_T67 y301 (wrap64 (t298 - (bt286.2.2.1.length : Int)))).f1, true))) else (none)) else (none)))))) else (some (0, 0, ([] : List (S67)), ([] : List (S67)), ([] : List Int), (⟨#[]⟩ : ByteArray), false)))
def impl_Get.T8 : Bool × List (List Nat × List Nat) := (true, [([], []), ([], []), ([1], [1]), ([2], [2]), ([3], [3]), ([0, 0], [0]), ([4, 5, 0, 1, 2, 3, 4, 5], [4]), ([6, 0, 1, 2, 3, 4, 5, 6], [])])
def impl_Get.B8 : List Nat := [0, 0, 2, 6, 14, 1, 63, 127]
theorem impl_Get.tab8 : rtab .any (opsOf Try.f61 8) = impl_Get.T8 := by kernel_rfl
theorem impl_Get.bits8 : waitsOk impl_Get.T8.2 impl_Get.B8 = true := by kernel_rfl
theorem impl_Get.calls (k : Nat) (a0_0 : Int) (a0_1 : Int) (A0_2 : Option Addr) (c0_2 : Nat) (l0_2 : List (S67)) (A0_3 : Option Addr) (c0_3 : Nat) (l0_3 : List (S67)) (A0_4 : Option Addr) (c0_4 : Nat) (l0_4 : List Int) (a1 : ByteArray) (r1 : Int) (r2 : Int) (r3 : List (S67)) (r4 : List (S67)) (r5 : List Int) (r6 : ByteArray) (r7 : Bool) (w : World) (hr0_2 : Kd.C k67 w A0_2 l0_2.length l0_2) (hc0_2 : l0_2.length ≤ c0_2) (hr0_3 : Kd.C k67 w A0_3 l0_3.length l0_3) (hc0_3 : l0_3.length ≤ c0_3) (hr0_4 : Kd.C (Kd.int .i64) w A0_4 l0_4.length l0_4) (hc0_4 : l0_4.length ≤ c0_4) (h : impl_Get.f k a0_0 a0_1 l0_2 l0_3 l0_4 a1 = some (r1, r2, r3, r4, r5, r6, r7)) :
  Calls Try.prog 61 #[.agg #[.int .i64 a0_0, .int .i64 a0_1, .slice A0_2 l0_2.length c0_2, .slice A0_3 l0_3.length c0_3, .slice A0_4 l0_4.length c0_4], .string a1] w fun e w' => ∃ v2_ v3_ v4_ : Value, e = .returned (.tuple #[.agg #[.int .i64 r1, .int .i64 r2, v2_, v3_, v4_], .string r6, .bool r7]) ∧ Mem w [] w' [rowR k67 67 v2_ r3, rowR k67 67 v3_ r4, rowR (Kd.int .i64) 3 v4_ r5] := by
 have hu71 := Try.underlying71
 have HR0_2 := Aside0.mk hr0_2
 have HC0_2 := Aside0.mk hc0_2
 clear hr0_2 hc0_2
 have HR0_3 := Aside0.mk hr0_3
 have HC0_3 := Aside0.mk hc0_3
 clear hr0_3 hc0_3
 have HR0_4 := Aside0.mk hr0_4
 have HC0_4 := Aside0.mk hc0_4
 clear hr0_4 hc0_4
 have HM := Mem.nil w
 have H := h
 clear h
 unfold impl_Get.f at H
 go_enter Try.func61, Try.ntmps61
 replace H := BN H; obtain ⟨t285, A6, H⟩ := H
 replace H := IB H
 rcases H with ⟨c8, H⟩ | ⟨c8, H⟩
 ·subst c8
  replace H := BN H; obtain ⟨⟨t286, t287, t288, t291, t294⟩, A10, H⟩ := H
  replace H := BN H; obtain ⟨t298, A18, H⟩ := H
  replace H := IT H; rcases H with ⟨c20, H⟩ | ⟨c20, H⟩
  ·have c20b0 : decide (t298 < 0) = true := decide_eq_true c20
   clear c20
   simp only [Option.some.injEq, Prod.mk.injEq] at H
   obtain ⟨rfl, rfl, rfl, rfl, rfl, rfl, rfl⟩ := H
   go_wp2_with (first | ((with_reducible refine gN 2 rfl ?_); refine pB 2 71 [.int .i64 a0_0, .int .i64 a0_1, .slice A0_2 l0_2.length c0_2, .slice A0_3 l0_3.length c0_3, .slice A0_4 l0_4.length c0_4] HM rfl ?_; clear HM; intro gb283 w3 HM) | ((with_reducible refine gN 4 rfl ?_); refine pB 4 71 [.int .i64 0, .int .i64 0, .slice none 0 0, .slice none 0 0, .slice none 0 0] HM rfl ?_; clear HM; intro gb284 w4 HM; obtain ⟨_,_,_,_,_,_,_,_,_,_⟩ := bk5 (HM.bx 0 rfl)) | ((with_reducible refine gC 59 rfl ?_); refine pC (some 10) rfl #[.agg #[.int .i64 a0_0, .int .i64 a0_1, .slice A0_2 l0_2.length c0_2, .slice A0_3 l0_3.length c0_3, .slice A0_4 l0_4.length c0_4]] rfl Try.func59 (impl_ThreeOk.calls k a0_0 a0_1 _ _ l0_2 _ _ l0_3 _ _ l0_4 true _ (HM.came HR0_2.out) HC0_2.out (HM.came HR0_3.out) HC0_3.out (HM.came HR0_4.out) HC0_4.out A6.out) ?_; rintro e w7 ⟨rfl, hR⟩; refine ⟨_, rfl, ?_⟩; replace HM := HM.call hR; clear hR; obtain ⟨_,_,_,_,_,_,_,_,_,_⟩ := bk5 (HM.bx 0 rfl)) | ((with_reducible refine gC 79 rfl ?_); refine pC (some 14) rfl #[.agg #[.int .i64 a0_0, .int .i64 a0_1, .slice A0_2 l0_2.length c0_2, .slice A0_3 l0_3.length c0_3, .slice A0_4 l0_4.length c0_4]] rfl Try.func79 (impl_copyThree.calls a0_0 a0_1 _ _ l0_2 _ _ l0_3 _ _ l0_4 t286 t287 t288 t291 t294 _ (HM.came HR0_2.out) HC0_2.out (HM.came HR0_3.out) HC0_3.out (HM.came HR0_4.out) HC0_4.out A10.out) ?_; rintro e w11 ⟨v289, v292, v295, rfl, hR⟩; refine ⟨_, rfl, ?_⟩; replace HM := HM.call hR; clear hR) | ((with_reducible refine gN 7 rfl ?_); refine pB 7 71 [.int .i64 0, .int .i64 0, .slice none 0 0, .slice none 0 0, .slice none 0 0] HM rfl ?_; clear HM; intro gb297 w12 HM; obtain ⟨Xo13, ko13, rfl⟩ := HM.rdR 2 rfl; obtain ⟨Xo14, ko14, rfl⟩ := HM.rdR 3 rfl; obtain ⟨Xo15, ko15, rfl⟩ := HM.rdR 4 rfl) | ((with_reducible refine gS 7 rfl ?_); refine pS 5 7 0 [.int .i64 t286, .int .i64 t287, .slice Xo13 t288.length ko13, .slice Xo14 t291.length ko14, .slice Xo15 t294.length ko15] HM rfl rfl ?_; clear HM; intro w16 HM; obtain ⟨_,_,_,_,_,_,_,_,_,_⟩ := bk5 (HM.bx 5 rfl)) | ((with_reducible refine gC 80 rfl ?_); refine pC (some 16) rfl #[.pointer (some ⟨gb297, 0, none⟩), .string a1] rfl Try.func80 (impl_Three_item.calls gb297 t286 t287 (.slice Xo15 t294.length ko15) Xo13 ko13 t288 Xo14 ko14 t291 a1 t298 _ (HM.CR 2 rfl).2.2 (HM.CR 2 rfl).2.1 (HM.CR 3 rfl).2.2 (HM.CR 3 rfl).2.1 (HM.bx 5 rfl) A18.out) ?_; rintro e w19 ⟨rfl, hb⟩; refine ⟨_, rfl, ?_⟩; replace HM := HM.below hb; clear hb; (first | rw [impl_Three_item.ptr_nil (by assumption)] | rw [impl_Three_item.ptr_small (by assumption) (by assumption)] | rw [impl_Three_item.ptr_main (by assumption) (by assumption)] | rw [impl_Three_item.ptr_nil' (by assumption)] | rw [impl_Three_item.ptr_small' (by assumption) (by assumption)] | rw [impl_Three_item.ptr_main' (by assumption) (by assumption)]); obtain ⟨_,_,_,_,_,_,_,_,_,_⟩ := bk5 (HM.bx 5 rfl)) | ((with_reducible refine gS 4 rfl ?_); refine pS 1 4 0 [.int .i64 t286, .int .i64 t287, .slice Xo13 t288.length ko13, .slice Xo14 t291.length ko14, .slice Xo15 t294.length ko15] HM rfl rfl ?_; clear HM; intro w22 HM))
   refine bodyPost_ret (results_ctt rfl _ _ gb284 71 #[.int .i64 t286, .int .i64 t287, .slice Xo13 t288.length ko13, .slice Xo14 t291.length ko14, .slice Xo15 t294.length ko15] (0, 0) _ rfl (HM.bx 1 rfl) Try.underlying71 rfl (by kernel_rfl)) rfl ?_
   exact ⟨_, _, _, ER, (MD HM).pick [2, 3, 4]⟩
  ·have c20b0 : decide (t298 < 0) = false := decide_eq_false c20
   clear c20
   replace H := IT H; rcases H with ⟨c24, H⟩ | ⟨c24, H⟩
   ·have c24b0 : decide (t298 < (t288.length : Int)) = true := decide_eq_true c24
    clear c24
    replace H := GD H; obtain ⟨c25, H⟩ := H
    have c25b0 : decide (0 ≤ t298) = true := decide_eq_true c25
    clear c25
    obtain ⟨ji28, hji28⟩ : ∃ j_ : Int, (mn 3 (wrap64 (((rd_T67 t288 t298).f2) + 1))) = j_ := ⟨_, rfl⟩
    (first | rw [hji28] at H | simp only [hji28] at H | skip)
    have hji28_ : (if (wrap64 (((rd_T67 t288 t298).f2) + 1)) < 3 then (wrap64 (((rd_T67 t288 t298).f2) + 1)) else 3) = ji28 := hji28
    (try (have hji28h : ji28 ≤ 3 := by (rw [← hji28]; unfold mn; (repeat' split) <;> omega)))
    replace H := BLt H; obtain ⟨y299, Ny299, H⟩ := H
    replace Ny299 := Aside0.mk Ny299
    try go_wp2_with (first | ((with_reducible refine gN 2 rfl ?_); refine pB 2 71 [.int .i64 a0_0, .int .i64 a0_1, .slice A0_2 l0_2.length c0_2, .slice A0_3 l0_3.length c0_3, .slice A0_4 l0_4.length c0_4] HM rfl ?_; clear HM; intro gb283 w3 HM) | ((with_reducible refine gN 4 rfl ?_); refine pB 4 71 [.int .i64 0, .int .i64 0, .slice none 0 0, .slice none 0 0, .slice none 0 0] HM rfl ?_; clear HM; intro gb284 w4 HM; obtain ⟨_,_,_,_,_,_,_,_,_,_⟩ := bk5 (HM.bx 0 rfl)) | ((with_reducible refine gC 59 rfl ?_); refine pC (some 10) rfl #[.agg #[.int .i64 a0_0, .int .i64 a0_1, .slice A0_2 l0_2.length c0_2, .slice A0_3 l0_3.length c0_3, .slice A0_4 l0_4.length c0_4]] rfl Try.func59 (impl_ThreeOk.calls k a0_0 a0_1 _ _ l0_2 _ _ l0_3 _ _ l0_4 true _ (HM.came HR0_2.out) HC0_2.out (HM.came HR0_3.out) HC0_3.out (HM.came HR0_4.out) HC0_4.out A6.out) ?_; rintro e w7 ⟨rfl, hR⟩; refine ⟨_, rfl, ?_⟩; replace HM := HM.call hR; clear hR; obtain ⟨_,_,_,_,_,_,_,_,_,_⟩ := bk5 (HM.bx 0 rfl)) | ((with_reducible refine gC 79 rfl ?_); refine pC (some 14) rfl #[.agg #[.int .i64 a0_0, .int .i64 a0_1, .slice A0_2 l0_2.length c0_2, .slice A0_3 l0_3.length c0_3, .slice A0_4 l0_4.length c0_4]] rfl Try.func79 (impl_copyThree.calls a0_0 a0_1 _ _ l0_2 _ _ l0_3 _ _ l0_4 t286 t287 t288 t291 t294 _ (HM.came HR0_2.out) HC0_2.out (HM.came HR0_3.out) HC0_3.out (HM.came HR0_4.out) HC0_4.out A10.out) ?_; rintro e w11 ⟨v289, v292, v295, rfl, hR⟩; refine ⟨_, rfl, ?_⟩; replace HM := HM.call hR; clear hR) | ((with_reducible refine gN 7 rfl ?_); refine pB 7 71 [.int .i64 0, .int .i64 0, .slice none 0 0, .slice none 0 0, .slice none 0 0] HM rfl ?_; clear HM; intro gb297 w12 HM; obtain ⟨Xo13, ko13, rfl⟩ := HM.rdR 2 rfl; obtain ⟨Xo14, ko14, rfl⟩ := HM.rdR 3 rfl; obtain ⟨Xo15, ko15, rfl⟩ := HM.rdR 4 rfl) | ((with_reducible refine gS 7 rfl ?_); refine pS 5 7 0 [.int .i64 t286, .int .i64 t287, .slice Xo13 t288.length ko13, .slice Xo14 t291.length ko14, .slice Xo15 t294.length ko15] HM rfl rfl ?_; clear HM; intro w16 HM; obtain ⟨_,_,_,_,_,_,_,_,_,_⟩ := bk5 (HM.bx 5 rfl)) | ((with_reducible refine gC 80 rfl ?_); refine pC (some 16) rfl #[.pointer (some ⟨gb297, 0, none⟩), .string a1] rfl Try.func80 (impl_Three_item.calls gb297 t286 t287 (.slice Xo15 t294.length ko15) Xo13 ko13 t288 Xo14 ko14 t291 a1 t298 _ (HM.CR 2 rfl).2.2 (HM.CR 2 rfl).2.1 (HM.CR 3 rfl).2.2 (HM.CR 3 rfl).2.1 (HM.bx 5 rfl) A18.out) ?_; rintro e w19 ⟨rfl, hb⟩; refine ⟨_, rfl, ?_⟩; replace HM := HM.below hb; clear hb; have pf27 : 0 ≤ (t298 : Int) := of_decide_eq_true AS; have qf27 : (t298 : Int) < ((t288.length : Int) : Int) := of_decide_eq_true AS; obtain ⟨gof27, eff27⟩ := HM.form 2 rfl (by have h_ := (HM.CR 2 rfl).1; omega); subst eff27; clear pf27 qf27; (first | rw [impl_Three_item.ptr_nil (by assumption)] | rw [impl_Three_item.ptr_small (by assumption) (by assumption)] | rw [impl_Three_item.ptr_main (by assumption) (by assumption)] | rw [impl_Three_item.ptr_nil' (by assumption)] | rw [impl_Three_item.ptr_small' (by assumption) (by assumption)] | rw [impl_Three_item.ptr_main' (by assumption) (by assumption)]); obtain ⟨_,_,_,_,_,_,_,_,_,_⟩ := bk5 (HM.bx 5 rfl); have p26 : 0 ≤ (t298 : Int) := of_decide_eq_true AS; have q26 : (t298 : Int) < ((t288.length : Int) : Int) := of_decide_eq_true AS; obtain ⟨hx26_0, hx26_1, hx26_2, hf26_0, hf26_1, hf26_2⟩ := HM.el3 2 rfl z67 (t298 : Int) p26 (by have h_ := (HM.CR 2 rfl).1; omega) (.string ((rd_T67 t288 t298).f0)) (.string ((rd_T67 t288 t298).f1)) (.int .i64 ((rd_T67 t288 t298).f2)) (fun _ _ h => k67_openM h); replace p26 := eq_true p26; replace q26 := eq_true q26) | ((with_reducible refine gS 28 rfl ?_); refine pPR 2 28 (t298 : Int) 2 [.int .i64 ji28] k67 67 t288 (⟨(rd_T67 t288 t298).f0, (rd_T67 t288 t298).f1, ji28⟩ : S67) z67 [.string ((rd_T67 t288 t298).f0), .string ((rd_T67 t288 t298).f1), .int .i64 ((rd_T67 t288 t298).f2)] HM rfl rfl (of_decide_eq_true AS) (by have h_ : (t298 : Int) < ((t288.length : Int) : Int) := of_decide_eq_true AS; have e_ := (HM.CR 2 rfl).1; omega) (fun _ _ h => k67_openM h) (k67_mkM _ _ _ (⟨(rd_T67 t288 t298).f0, (rd_T67 t288 t298).f1, ji28⟩ : S67)) ?_; clear HM; intro w29 HM; replace HM := HM.nm 2 rfl Ny299.out; have p30 : 0 ≤ (t298 : Int) := of_decide_eq_true AS; have q30 : (t298 : Int) < ((t288.length : Int) : Int) := of_decide_eq_true AS; obtain ⟨hx30_0, hx30_1, hx30_2, hf30_0, hf30_1, hf30_2⟩ := HM.el3 2 rfl z67 (t298 : Int) p30 (by have h_ := (HM.CR 2 rfl).1; omega) (.string ((rd_T67 y299 t298).f0)) (.string ((rd_T67 y299 t298).f1)) (.int .i64 ((rd_T67 y299 t298).f2)) (fun _ _ h => k67_openM h); replace p30 := eq_true p30; replace q30 := eq_true q30))
    have p300 : 0 ≤ (t298 : Int) := of_decide_eq_true AS
    have q300 : (t298 : Int) < (y299.length : Int) := (by have h_ : (t298 : Int) < ((t288.length : Int) : Int) := of_decide_eq_true AS; first | exact h_ | (simp only [Ny299.out, List.length_set] at h_ ⊢; exact h_))
    have ql300 : ((t298 : Int) < ((t288.length : Int) : Int)) = True := eq_true (of_decide_eq_true AS)
    obtain ⟨ad300, e300, hx300_0, hx300_1, hx300_2⟩ := at_T67 (HM.CR 2 rfl).2.2 t298 p300 q300
    obtain rfl := Option.some.inj e300
    (first | simp only [add_plain] at hx300_0 | simp only [add_at] at hx300_0 | simp only [Addr.add, Nat.zero_add] at hx300_0 | skip)
    (first | simp only [add_plain] at hx300_1 | simp only [add_at] at hx300_1 | simp only [Addr.add, Nat.zero_add] at hx300_1 | skip)
    (first | simp only [add_plain] at hx300_2 | simp only [add_at] at hx300_2 | simp only [Addr.add, Nat.zero_add] at hx300_2 | skip)
    replace p300 := eq_true p300
    replace q300 := eq_true q300
    refine RGN 8 [0, 1, 2, 3, 4, 5, 6, 7] (fun a0 b a w' => a = putSel a0 b [(0, 29, .agg #[.int .i64 t286, .int .i64 t287, .slice (some ⟨gof27, 0, none⟩) t288.length ko13, .slice Xo14 t291.length ko14, .slice Xo15 t294.length ko15]), (1, 30, .pointer (some ⟨gof27, (t298 : Int).toNat * 3, none⟩)), (2, 31, .pointer (some ⟨gof27, (t298 : Int).toNat * 3, none⟩)), (3, 32, .pointer (some ⟨gof27, (t298 : Int).toNat * 3 + 1, none⟩)), (4, 33, .string ((rd_T67 y299 t298).f1)), (6, 5, .string ((rd_T67 y299 t298).f1)), (7, 6, .bool true)] ∧ Mem w [] w' [box 71 gb283 [.int .i64 a0_0, .int .i64 a0_1, .slice A0_2 l0_2.length c0_2, .slice A0_3 l0_3.length c0_3, .slice A0_4 l0_4.length c0_4], sel (b 5) (box 71 gb284 [.int .i64 t286, .int .i64 t287, .slice (some ⟨gof27, 0, none⟩) t288.length ko13, .slice Xo14 t291.length ko14, .slice Xo15 t294.length ko15]) (box 71 gb284 [.int .i64 0, .int .i64 0, .slice none 0 0, .slice none 0 0, .slice none 0 0]), rowR k67 67 (.slice (some ⟨gof27, 0, none⟩) t288.length ko13) y299, rowR k67 67 (.slice Xo14 t291.length ko14) t291, rowR (Kd.int .i64) 3 (.slice Xo15 t294.length ko15) t294, box 71 gb297 [.int .i64 t286, .int .i64 t287, .slice (some ⟨gof27, 0, none⟩) t288.length ko13, .slice Xo14 t291.length ko14, .slice Xo15 t294.length ko15]]) impl_Get.tab8 impl_Get.bits8 ?_ ?_ ?_
    ·exact ⟨PS0' rfl _, (HM.drew).pick [0, 1, 2, 3, 4, 5]⟩
    ·clear HM
     refine SY ?_ ?_
     ·intro b a w ha HM hb hon hoff K hK
      obtain ⟨_,_,_,_,_,_,_,_,_,_⟩ := bk5 (HM.bx 5 rfl)
      have e7 := PG ha 7
      exact VL (.agg #[.int .i64 t286, .int .i64 t287, .slice (some ⟨gof27, 0, none⟩) t288.length ko13, .slice Xo14 t291.length ko14, .slice Xo15 t294.length ko15]) (hK.out _ _ ⟨PUT ha 0 hb, HM⟩)
     refine SY ?_ ?_
     ·intro b a w ha HM hb hon hoff K hK
      have e8 := PG ha 8
      exact VL (.pointer (some ⟨gof27, (t298 : Int).toNat * 3, none⟩)) (hK.out _ _ ⟨PUT ha 1 hb, HM⟩)
     refine SY ?_ ?_
     ·intro b a w ha HM hb hon hoff K hK
      have e30 := PE ha 1 hon
      exact VL (.pointer (some ⟨gof27, (t298 : Int).toNat * 3, none⟩)) (hK.out _ _ ⟨PUT ha 2 hb, HM⟩)
     refine SY ?_ ?_
     ·intro b a w ha HM hb hon hoff K hK
      have e31 := PE ha 2 hon
      exact VL (.pointer (some ⟨gof27, (t298 : Int).toNat * 3 + 1, none⟩)) (hK.out _ _ ⟨PUT ha 3 hb, HM⟩)
     refine SY ?_ ?_
     ·intro b a w ha HM hb hon hoff K hK
      have p300 : 0 ≤ (t298 : Int) := of_decide_eq_true AS
      have q300 : (t298 : Int) < (y299.length : Int) := (by have h_ : (t298 : Int) < ((t288.length : Int) : Int) := of_decide_eq_true AS; first | exact h_ | (simp only [Ny299.out, List.length_set] at h_ ⊢; exact h_))
      have ql300 : ((t298 : Int) < ((t288.length : Int) : Int)) = True := eq_true (of_decide_eq_true AS)
      obtain ⟨ad300, e300, hx300_0, hx300_1, hx300_2⟩ := at_T67 (HM.CR 2 rfl).2.2 t298 p300 q300
      obtain rfl := Option.some.inj e300
      (first | simp only [add_plain] at hx300_0 | simp only [add_at] at hx300_0 | simp only [Addr.add, Nat.zero_add] at hx300_0 | skip)
      (first | simp only [add_plain] at hx300_1 | simp only [add_at] at hx300_1 | simp only [Addr.add, Nat.zero_add] at hx300_1 | skip)
      (first | simp only [add_plain] at hx300_2 | simp only [add_at] at hx300_2 | simp only [Addr.add, Nat.zero_add] at hx300_2 | skip)
      replace p300 := eq_true p300
      replace q300 := eq_true q300
      have e32 := PE ha 3 hon
      exact VL (.string ((rd_T67 y299 t298).f1)) (hK.out _ _ ⟨PUT ha 4 hb, HM⟩)
     refine SY ?_ ?_
     ·intro b a w ha HM hb hon hoff K hK
      replace HM := HM.sF 1 rfl hb
      have e4 := PG ha 4
      have e29 := PE ha 0 hon
      refine ST (eS 1 4 0 [.int .i64 t286, .int .i64 t287, .slice (some ⟨gof27, 0, none⟩) t288.length ko13, .slice Xo14 t291.length ko14, .slice Xo15 t294.length ko15] HM rfl rfl ?_ (hp := (eval_of e4)) (hx := (by rw [eval_of e29]; rfl)))
      clear HM
      intro w34 HM
      exact hK.out _ _ ⟨PUS ha, (HM).pick [0, 1, 2, 3, 4, 5]⟩
     refine SY ?_ ?_
     ·intro b a w ha HM hb hon hoff K hK
      have e33 := PE ha 4 hon
      exact VL (.string ((rd_T67 y299 t298).f1)) (hK.out _ _ ⟨PUT ha 5 hb, HM⟩)
     refine SY ?_ ?_
     ·intro b a w ha HM hb hon hoff K hK
      exact VL (.bool true) (hK.out _ _ ⟨PUT ha 6 hb, HM⟩)
     exact steps_nil
    rintro _ w35 ⟨rfl, HM⟩
    replace HM := HM.sT 1 rfl rfl
    simp only [putSel, if_true, Act.put, List.setIfInBounds_toArray, List.set_cons_zero, List.set_cons_succ, gt_iff_lt, ge_iff_le]
    simp only [Option.some.injEq, Prod.mk.injEq] at H
    obtain ⟨rfl, rfl, rfl, rfl, rfl, rfl, rfl⟩ := H
    go_wp2
    refine bodyPost_ret (results_ctt rfl _ _ gb284 71 #[.int .i64 t286, .int .i64 t287, .slice (some ⟨gof27, 0, none⟩) t288.length ko13, .slice Xo14 t291.length ko14, .slice Xo15 t294.length ko15] (0, 0) _ rfl (HM.bx 1 rfl) Try.underlying71 rfl (by kernel_rfl)) rfl ?_
    exact ⟨_, _, _, ER, (MD HM).pick [2, 3, 4]⟩
   ·have c24b0 : decide (t298 < (t288.length : Int)) = false := decide_eq_false c24
    clear c24
    replace H := GD H; obtain ⟨c36, H⟩ := H
    have c36b0 : decide (0 ≤ (wrap64 (t298 - (t288.length : Int)))) = true := decide_eq_true c36
    clear c36
    replace H := GD H; obtain ⟨c37, H⟩ := H
    have c37b0 : decide ((wrap64 (t298 - (t288.length : Int))) < (t291.length : Int)) = true := decide_eq_true c37
    clear c37
    obtain ⟨ji40, hji40⟩ : ∃ j_ : Int, (mn 3 (wrap64 (((rd_T67 t291 (wrap64 (t298 - (t288.length : Int)))).f2) + 1))) = j_ := ⟨_, rfl⟩
    (first | rw [hji40] at H | simp only [hji40] at H | skip)
    have hji40_ : (if (wrap64 (((rd_T67 t291 (wrap64 (t298 - (t288.length : Int)))).f2) + 1)) < 3 then (wrap64 (((rd_T67 t291 (wrap64 (t298 - (t288.length : Int)))).f2) + 1)) else 3) = ji40 := hji40
    (try (have hji40h : ji40 ≤ 3 := by (rw [← hji40]; unfold mn; (repeat' split) <;> omega)))
    replace H := BLt H; obtain ⟨y301, Ny301, H⟩ := H
    replace Ny301 := Aside0.mk Ny301
    try go_wp2_with (first | ((with_reducible refine gN 2 rfl ?_); refine pB 2 71 [.int .i64 a0_0, .int .i64 a0_1, .slice A0_2 l0_2.length c0_2, .slice A0_3 l0_3.length c0_3, .slice A0_4 l0_4.length c0_4] HM rfl ?_; clear HM; intro gb283 w3 HM) | ((with_reducible refine gN 4 rfl ?_); refine pB 4 71 [.int .i64 0, .int .i64 0, .slice none 0 0, .slice none 0 0, .slice none 0 0] HM rfl ?_; clear HM; intro gb284 w4 HM; obtain ⟨_,_,_,_,_,_,_,_,_,_⟩ := bk5 (HM.bx 0 rfl)) | ((with_reducible refine gC 59 rfl ?_); refine pC (some 10) rfl #[.agg #[.int .i64 a0_0, .int .i64 a0_1, .slice A0_2 l0_2.length c0_2, .slice A0_3 l0_3.length c0_3, .slice A0_4 l0_4.length c0_4]] rfl Try.func59 (impl_ThreeOk.calls k a0_0 a0_1 _ _ l0_2 _ _ l0_3 _ _ l0_4 true _ (HM.came HR0_2.out) HC0_2.out (HM.came HR0_3.out) HC0_3.out (HM.came HR0_4.out) HC0_4.out A6.out) ?_; rintro e w7 ⟨rfl, hR⟩; refine ⟨_, rfl, ?_⟩; replace HM := HM.call hR; clear hR; obtain ⟨_,_,_,_,_,_,_,_,_,_⟩ := bk5 (HM.bx 0 rfl)) | ((with_reducible refine gC 79 rfl ?_); refine pC (some 14) rfl #[.agg #[.int .i64 a0_0, .int .i64 a0_1, .slice A0_2 l0_2.length c0_2, .slice A0_3 l0_3.length c0_3, .slice A0_4 l0_4.length c0_4]] rfl Try.func79 (impl_copyThree.calls a0_0 a0_1 _ _ l0_2 _ _ l0_3 _ _ l0_4 t286 t287 t288 t291 t294 _ (HM.came HR0_2.out) HC0_2.out (HM.came HR0_3.out) HC0_3.out (HM.came HR0_4.out) HC0_4.out A10.out) ?_; rintro e w11 ⟨v289, v292, v295, rfl, hR⟩; refine ⟨_, rfl, ?_⟩; replace HM := HM.call hR; clear hR) | ((with_reducible refine gN 7 rfl ?_); refine pB 7 71 [.int .i64 0, .int .i64 0, .slice none 0 0, .slice none 0 0, .slice none 0 0] HM rfl ?_; clear HM; intro gb297 w12 HM; obtain ⟨Xo13, ko13, rfl⟩ := HM.rdR 2 rfl; obtain ⟨Xo14, ko14, rfl⟩ := HM.rdR 3 rfl; obtain ⟨Xo15, ko15, rfl⟩ := HM.rdR 4 rfl) | ((with_reducible refine gS 7 rfl ?_); refine pS 5 7 0 [.int .i64 t286, .int .i64 t287, .slice Xo13 t288.length ko13, .slice Xo14 t291.length ko14, .slice Xo15 t294.length ko15] HM rfl rfl ?_; clear HM; intro w16 HM; obtain ⟨_,_,_,_,_,_,_,_,_,_⟩ := bk5 (HM.bx 5 rfl)) | ((with_reducible refine gC 80 rfl ?_); refine pC (some 16) rfl #[.pointer (some ⟨gb297, 0, none⟩), .string a1] rfl Try.func80 (impl_Three_item.calls gb297 t286 t287 (.slice Xo15 t294.length ko15) Xo13 ko13 t288 Xo14 ko14 t291 a1 t298 _ (HM.CR 2 rfl).2.2 (HM.CR 2 rfl).2.1 (HM.CR 3 rfl).2.2 (HM.CR 3 rfl).2.1 (HM.bx 5 rfl) A18.out) ?_; rintro e w19 ⟨rfl, hb⟩; refine ⟨_, rfl, ?_⟩; replace HM := HM.below hb; clear hb; have pf39 : 0 ≤ ((wrap64 (t298 - (t288.length : Int))) : Int) := of_decide_eq_true AS; have qf39 : ((wrap64 (t298 - (t288.length : Int))) : Int) < ((t291.length : Int) : Int) := of_decide_eq_true AS; obtain ⟨gof39, eff39⟩ := HM.form 3 rfl (by have h_ := (HM.CR 3 rfl).1; omega); subst eff39; clear pf39 qf39; (first | rw [impl_Three_item.ptr_nil (by assumption)] | rw [impl_Three_item.ptr_small (by assumption) (by assumption)] | rw [impl_Three_item.ptr_main (by assumption) (by assumption)] | rw [impl_Three_item.ptr_nil' (by assumption)] | rw [impl_Three_item.ptr_small' (by assumption) (by assumption)] | rw [impl_Three_item.ptr_main' (by assumption) (by assumption)]); obtain ⟨_,_,_,_,_,_,_,_,_,_⟩ := bk5 (HM.bx 5 rfl); have p38 : 0 ≤ ((wrap64 (t298 - (t288.length : Int))) : Int) := of_decide_eq_true AS; have q38 : ((wrap64 (t298 - (t288.length : Int))) : Int) < ((t291.length : Int) : Int) := of_decide_eq_true AS; obtain ⟨hx38_0, hx38_1, hx38_2, hf38_0, hf38_1, hf38_2⟩ := HM.el3 3 rfl z67 ((wrap64 (t298 - (t288.length : Int))) : Int) p38 (by have h_ := (HM.CR 3 rfl).1; omega) (.string ((rd_T67 t291 (wrap64 (t298 - (t288.length : Int)))).f0)) (.string ((rd_T67 t291 (wrap64 (t298 - (t288.length : Int)))).f1)) (.int .i64 ((rd_T67 t291 (wrap64 (t298 - (t288.length : Int)))).f2)) (fun _ _ h => k67_openM h); replace p38 := eq_true p38; replace q38 := eq_true q38) | ((with_reducible refine gS 28 rfl ?_); refine pPR 3 28 ((wrap64 (t298 - (t288.length : Int))) : Int) 2 [.int .i64 ji40] k67 67 t291 (⟨(rd_T67 t291 (wrap64 (t298 - (t288.length : Int)))).f0, (rd_T67 t291 (wrap64 (t298 - (t288.length : Int)))).f1, ji40⟩ : S67) z67 [.string ((rd_T67 t291 (wrap64 (t298 - (t288.length : Int)))).f0), .string ((rd_T67 t291 (wrap64 (t298 - (t288.length : Int)))).f1), .int .i64 ((rd_T67 t291 (wrap64 (t298 - (t288.length : Int)))).f2)] HM rfl rfl (of_decide_eq_true AS) (by have h_ : ((wrap64 (t298 - (t288.length : Int))) : Int) < ((t291.length : Int) : Int) := of_decide_eq_true AS; have e_ := (HM.CR 3 rfl).1; omega) (fun _ _ h => k67_openM h) (k67_mkM _ _ _ (⟨(rd_T67 t291 (wrap64 (t298 - (t288.length : Int)))).f0, (rd_T67 t291 (wrap64 (t298 - (t288.length : Int)))).f1, ji40⟩ : S67)) ?_; clear HM; intro w41 HM; replace HM := HM.nm 3 rfl Ny301.out; have p42 : 0 ≤ ((wrap64 (t298 - (t288.length : Int))) : Int) := of_decide_eq_true AS; have q42 : ((wrap64 (t298 - (t288.length : Int))) : Int) < ((t291.length : Int) : Int) := of_decide_eq_true AS; obtain ⟨hx42_0, hx42_1, hx42_2, hf42_0, hf42_1, hf42_2⟩ := HM.el3 3 rfl z67 ((wrap64 (t298 - (t288.length : Int))) : Int) p42 (by have h_ := (HM.CR 3 rfl).1; omega) (.string ((rd_T67 y301 (wrap64 (t298 - (t288.length : Int)))).f0)) (.string ((rd_T67 y301 (wrap64 (t298 - (t288.length : Int)))).f1)) (.int .i64 ((rd_T67 y301 (wrap64 (t298 - (t288.length : Int)))).f2)) (fun _ _ h => k67_openM h); replace p42 := eq_true p42; replace q42 := eq_true q42))
    have p302 : 0 ≤ ((wrap64 (t298 - (t288.length : Int))) : Int) := of_decide_eq_true AS
    have q302 : ((wrap64 (t298 - (t288.length : Int))) : Int) < (y301.length : Int) := (by have h_ : ((wrap64 (t298 - (t288.length : Int))) : Int) < ((t291.length : Int) : Int) := of_decide_eq_true AS; first | exact h_ | (simp only [Ny301.out, List.length_set] at h_ ⊢; exact h_))
    have ql302 : (((wrap64 (t298 - (t288.length : Int))) : Int) < ((t291.length : Int) : Int)) = True := eq_true (of_decide_eq_true AS)
    obtain ⟨ad302, e302, hx302_0, hx302_1, hx302_2⟩ := at_T67 (HM.CR 3 rfl).2.2 (wrap64 (t298 - (t288.length : Int))) p302 q302
    obtain rfl := Option.some.inj e302
    (first | simp only [add_plain] at hx302_0 | simp only [add_at] at hx302_0 | simp only [Addr.add, Nat.zero_add] at hx302_0 | skip)
    (first | simp only [add_plain] at hx302_1 | simp only [add_at] at hx302_1 | simp only [Addr.add, Nat.zero_add] at hx302_1 | skip)
    (first | simp only [add_plain] at hx302_2 | simp only [add_at] at hx302_2 | simp only [Addr.add, Nat.zero_add] at hx302_2 | skip)
    replace p302 := eq_true p302
    replace q302 := eq_true q302
    refine RGN 8 [0, 1, 2, 3, 4, 5, 6, 7] (fun a0 b a w' => a = putSel a0 b [(0, 29, .agg #[.int .i64 t286, .int .i64 t287, .slice Xo13 t288.length ko13, .slice (some ⟨gof39, 0, none⟩) t291.length ko14, .slice Xo15 t294.length ko15]), (1, 30, .pointer (some ⟨gof39, (wrap64 (t298 - (t288.length : Int)) : Int).toNat * 3, none⟩)), (2, 31, .pointer (some ⟨gof39, (wrap64 (t298 - (t288.length : Int)) : Int).toNat * 3, none⟩)), (3, 32, .pointer (some ⟨gof39, (wrap64 (t298 - (t288.length : Int)) : Int).toNat * 3 + 1, none⟩)), (4, 33, .string ((rd_T67 y301 (wrap64 (t298 - (t288.length : Int)))).f1)), (6, 5, .string ((rd_T67 y301 (wrap64 (t298 - (t288.length : Int)))).f1)), (7, 6, .bool true)] ∧ Mem w [] w' [box 71 gb283 [.int .i64 a0_0, .int .i64 a0_1, .slice A0_2 l0_2.length c0_2, .slice A0_3 l0_3.length c0_3, .slice A0_4 l0_4.length c0_4], sel (b 5) (box 71 gb284 [.int .i64 t286, .int .i64 t287, .slice Xo13 t288.length ko13, .slice (some ⟨gof39, 0, none⟩) t291.length ko14, .slice Xo15 t294.length ko15]) (box 71 gb284 [.int .i64 0, .int .i64 0, .slice none 0 0, .slice none 0 0, .slice none 0 0]), rowR k67 67 (.slice Xo13 t288.length ko13) t288, rowR k67 67 (.slice (some ⟨gof39, 0, none⟩) t291.length ko14) y301, rowR (Kd.int .i64) 3 (.slice Xo15 t294.length ko15) t294, box 71 gb297 [.int .i64 t286, .int .i64 t287, .slice Xo13 t288.length ko13, .slice (some ⟨gof39, 0, none⟩) t291.length ko14, .slice Xo15 t294.length ko15]]) impl_Get.tab8 impl_Get.bits8 ?_ ?_ ?_
    ·exact ⟨PS0' rfl _, (HM.drew).pick [0, 1, 2, 3, 4, 5]⟩
    ·clear HM
     refine SY ?_ ?_
     ·intro b a w ha HM hb hon hoff K hK
      obtain ⟨_,_,_,_,_,_,_,_,_,_⟩ := bk5 (HM.bx 5 rfl)
      have e7 := PG ha 7
      exact VL (.agg #[.int .i64 t286, .int .i64 t287, .slice Xo13 t288.length ko13, .slice (some ⟨gof39, 0, none⟩) t291.length ko14, .slice Xo15 t294.length ko15]) (hK.out _ _ ⟨PUT ha 0 hb, HM⟩)
     refine SY ?_ ?_
     ·intro b a w ha HM hb hon hoff K hK
      have e8 := PG ha 8
      exact VL (.pointer (some ⟨gof39, (wrap64 (t298 - (t288.length : Int)) : Int).toNat * 3, none⟩)) (hK.out _ _ ⟨PUT ha 1 hb, HM⟩)
     refine SY ?_ ?_
     ·intro b a w ha HM hb hon hoff K hK
      have e30 := PE ha 1 hon
      exact VL (.pointer (some ⟨gof39, (wrap64 (t298 - (t288.length : Int)) : Int).toNat * 3, none⟩)) (hK.out _ _ ⟨PUT ha 2 hb, HM⟩)
     refine SY ?_ ?_
     ·intro b a w ha HM hb hon hoff K hK
      have e31 := PE ha 2 hon
      exact VL (.pointer (some ⟨gof39, (wrap64 (t298 - (t288.length : Int)) : Int).toNat * 3 + 1, none⟩)) (hK.out _ _ ⟨PUT ha 3 hb, HM⟩)
     refine SY ?_ ?_
     ·intro b a w ha HM hb hon hoff K hK
      have p302 : 0 ≤ ((wrap64 (t298 - (t288.length : Int))) : Int) := of_decide_eq_true AS
      have q302 : ((wrap64 (t298 - (t288.length : Int))) : Int) < (y301.length : Int) := (by have h_ : ((wrap64 (t298 - (t288.length : Int))) : Int) < ((t291.length : Int) : Int) := of_decide_eq_true AS; first | exact h_ | (simp only [Ny301.out, List.length_set] at h_ ⊢; exact h_))
      have ql302 : (((wrap64 (t298 - (t288.length : Int))) : Int) < ((t291.length : Int) : Int)) = True := eq_true (of_decide_eq_true AS)
      obtain ⟨ad302, e302, hx302_0, hx302_1, hx302_2⟩ := at_T67 (HM.CR 3 rfl).2.2 (wrap64 (t298 - (t288.length : Int))) p302 q302
      obtain rfl := Option.some.inj e302
      (first | simp only [add_plain] at hx302_0 | simp only [add_at] at hx302_0 | simp only [Addr.add, Nat.zero_add] at hx302_0 | skip)
      (first | simp only [add_plain] at hx302_1 | simp only [add_at] at hx302_1 | simp only [Addr.add, Nat.zero_add] at hx302_1 | skip)
      (first | simp only [add_plain] at hx302_2 | simp only [add_at] at hx302_2 | simp only [Addr.add, Nat.zero_add] at hx302_2 | skip)
      replace p302 := eq_true p302
      replace q302 := eq_true q302
      have e32 := PE ha 3 hon
      exact VL (.string ((rd_T67 y301 (wrap64 (t298 - (t288.length : Int)))).f1)) (hK.out _ _ ⟨PUT ha 4 hb, HM⟩)
     refine SY ?_ ?_
     ·intro b a w ha HM hb hon hoff K hK
      replace HM := HM.sF 1 rfl hb
      have e4 := PG ha 4
      have e29 := PE ha 0 hon
      refine ST (eS 1 4 0 [.int .i64 t286, .int .i64 t287, .slice Xo13 t288.length ko13, .slice (some ⟨gof39, 0, none⟩) t291.length ko14, .slice Xo15 t294.length ko15] HM rfl rfl ?_ (hp := (eval_of e4)) (hx := (by rw [eval_of e29]; rfl)))
      clear HM
      intro w46 HM
      exact hK.out _ _ ⟨PUS ha, (HM).pick [0, 1, 2, 3, 4, 5]⟩
     refine SY ?_ ?_
     ·intro b a w ha HM hb hon hoff K hK
      have e33 := PE ha 4 hon
      exact VL (.string ((rd_T67 y301 (wrap64 (t298 - (t288.length : Int)))).f1)) (hK.out _ _ ⟨PUT ha 5 hb, HM⟩)
     refine SY ?_ ?_
     ·intro b a w ha HM hb hon hoff K hK
      exact VL (.bool true) (hK.out _ _ ⟨PUT ha 6 hb, HM⟩)
     exact steps_nil
    rintro _ w47 ⟨rfl, HM⟩
    replace HM := HM.sT 1 rfl rfl
    simp only [putSel, if_true, Act.put, List.setIfInBounds_toArray, List.set_cons_zero, List.set_cons_succ, gt_iff_lt, ge_iff_le]
    simp only [Option.some.injEq, Prod.mk.injEq] at H
    obtain ⟨rfl, rfl, rfl, rfl, rfl, rfl, rfl⟩ := H
    go_wp2
    refine bodyPost_ret (results_ctt rfl _ _ gb284 71 #[.int .i64 t286, .int .i64 t287, .slice Xo13 t288.length ko13, .slice (some ⟨gof39, 0, none⟩) t291.length ko14, .slice Xo15 t294.length ko15] (0, 0) _ rfl (HM.bx 1 rfl) Try.underlying71 rfl (by kernel_rfl)) rfl ?_
    exact ⟨_, _, _, ER, (MD HM).pick [2, 3, 4]⟩
 ·subst c8
  simp only [Option.some.injEq, Prod.mk.injEq] at H
  obtain ⟨rfl, rfl, rfl, rfl, rfl, rfl, rfl⟩ := H
  go_wp2_with (first | ((with_reducible refine gN 2 rfl ?_); refine pB 2 71 [.int .i64 a0_0, .int .i64 a0_1, .slice A0_2 l0_2.length c0_2, .slice A0_3 l0_3.length c0_3, .slice A0_4 l0_4.length c0_4] HM rfl ?_; clear HM; intro gb283 w3 HM) | ((with_reducible refine gN 4 rfl ?_); refine pB 4 71 [.int .i64 0, .int .i64 0, .slice none 0 0, .slice none 0 0, .slice none 0 0] HM rfl ?_; clear HM; intro gb284 w4 HM; obtain ⟨_,_,_,_,_,_,_,_,_,_⟩ := bk5 (HM.bx 0 rfl)) | ((with_reducible refine gC 59 rfl ?_); refine pC (some 10) rfl #[.agg #[.int .i64 a0_0, .int .i64 a0_1, .slice A0_2 l0_2.length c0_2, .slice A0_3 l0_3.length c0_3, .slice A0_4 l0_4.length c0_4]] rfl Try.func59 (impl_ThreeOk.calls k a0_0 a0_1 _ _ l0_2 _ _ l0_3 _ _ l0_4 false _ (HM.came HR0_2.out) HC0_2.out (HM.came HR0_3.out) HC0_3.out (HM.came HR0_4.out) HC0_4.out A6.out) ?_; rintro e w7 ⟨rfl, hR⟩; refine ⟨_, rfl, ?_⟩; replace HM := HM.call hR; clear hR) | ((with_reducible refine gS 4 rfl ?_); refine pS 1 4 0 [.int .i64 0, .int .i64 0, .slice none 0 0, .slice none 0 0, .slice none 0 0] HM rfl rfl ?_; clear HM; intro w48 HM; replace HM := HM.nl k67 67; replace HM := HM.nl k67 67; replace HM := HM.nl (Kd.int .i64) 3))
  refine bodyPost_ret (results_ctt rfl _ _ gb284 71 #[.int .i64 0, .int .i64 0, .slice none 0 0, .slice none 0 0, .slice none 0 0] (0, 0) _ rfl (HM.bx 1 rfl) Try.underlying71 rfl (by kernel_rfl)) rfl ?_
  exact ⟨_, _, _, ER, (MD HM).pick [2, 3, 4]⟩
end Go.Proofs.Ytlokjgngjgbpmaa.G

namespace Go.Proofs.Ytlokjgngjgbpmaa.G
open Go.RowKit Go.Proofs.YtlokjgngjgbpmaaW.PrintWords Go.Proofs.YtlokjgngjgbpmaaW.PrintLast Go.Proofs.YtlokjgngjgbpmaaW.PrintMore Go.Proofs.Ytlokjgngjgbpmaa.Sh
attribute [local go_sem] max2_int min2_int max_two min_two max_three min_three max_four min_four
set_option linter.unusedVariables false
set_option linter.unusedSimpArgs false
def impl_Hash.l0 : Nat → ByteArray → Int → Int → Option (Int)
 | 0, _, _, _ => none
 | k + 1, x0, x3, x4 => if x4 < (x0.size : Int) then (if 0 ≤ x4 then (impl_Hash.l0 k x0 (Int.tmod (wrap64 ((Go.bits .xor .i64 x3 (wrap64 (bt x0 x4))) * 16777619)) 4294967296) (wrap64 (x4 + 1))) else (none)) else (some x3)
def impl_Hash.f (k : Nat) (a0 : ByteArray) : Option (Int) := impl_Hash.l0 k a0 2166136261 0
theorem impl_Hash.calls (k : Nat) (a0 : ByteArray) (r : Int) (w : World) (h : impl_Hash.f k a0 = some r) :
  Calls Try.prog 82 #[.string a0] w fun e w' => e = .returned (.int .i64 r) ∧ Drawn0 w w' := by
 have H : (impl_Hash.l0 k a0 2166136261 0) = some r := h
 clear h
 have H' := Aside0.mk H
 clear H
 go_enter Try.func82, Try.ntmps82
 go_wp2
 go_loopg [3, 4] k (fun kq v3 v4 w' => ∃ (x3_1 : Int) (x4_1 : Int), v3 = .int .i64 x3_1 ∧ v4 = .int .i64 x4_1 ∧ Aside0 (impl_Hash.l0 kq a0 x3_1 x4_1 = some r) ∧ Aside0 (kq ≤ k) ∧ Drawn0 w w')
 case atStart => exact ⟨(2166136261), (0), RS, RS, H', ⟨Nat.le_refl _⟩, DR⟩
 case round =>
  clear H'
  obtain ⟨x3_1, x4_1, rfl, rfl, HA, HK1, ⟨m1, rfl⟩⟩ := hrel
  cases gk with
  | zero => exact absurd HA.out (by simp [impl_Hash.l0])
  | succ k1 =>
   have H := HA.out
   clear HA
   simp only [impl_Hash.l0] at H
   by_cases c2 : x4_1 < (a0.size : Int)
   ·rw [if_pos c2] at H
    have c2b0 : decide (x4_1 < (a0.size : Int)) = true := decide_eq_true c2
    clear c2
    by_cases c3 : 0 ≤ x4_1
    ·rw [if_pos c3] at H
     have c3b0 : decide (0 ≤ x4_1) = true := decide_eq_true c3
     clear c3
     have H' := Aside0.mk H
     clear H
     have p4 : 0 ≤ (x4_1 : Int) := of_decide_eq_true AS
     have q4 : x4_1 < (a0.size : Int) := of_decide_eq_true AS
     have hx4 := bt_at a0 x4_1
     replace p4 := eq_true p4
     replace q4 := eq_true q4
     go_wp2
     go_roundg k1
     case measure => have := HK1.out; omega
     case rel => exact ⟨(Int.tmod (wrap64 ((Go.bits .xor .i64 x3_1 (wrap64 (bt a0 x4_1))) * 16777619)) 4294967296), (wrap64 (x4_1 + 1)), RS, RS, H', ⟨by have := HK1.out; omega⟩, DR⟩
    ·rw [if_neg c3] at H
     exact absurd H (by simp)
   ·rw [if_neg c2] at H
    have c2b0 : decide (x4_1 < (a0.size : Int)) = false := decide_eq_false c2
    clear c2
    obtain rfl := Option.some.inj H
    go_wp2
    go_ret
    exact ⟨by first | rfl | (simp; done) | (simp [*]; done), DR⟩
end Go.Proofs.Ytlokjgngjgbpmaa.G

namespace Go.Proofs.Ytlokjgngjgbpmaa.G
open Go.RowKit Go.Proofs.YtlokjgngjgbpmaaW.PrintWords Go.Proofs.YtlokjgngjgbpmaaW.PrintLast Go.Proofs.YtlokjgngjgbpmaaW.PrintMore Go.Proofs.Ytlokjgngjgbpmaa.Sh
attribute [local go_sem] max2_int min2_int max_two min_two max_three min_three max_four min_four
set_option linter.unusedVariables false
set_option linter.unusedSimpArgs false
open Go.Proofs.Ytlokjgngjgbpmaa.Man
section
variable {P : Program}
/-- 'clear(s)' of what lies behind a queue of the call's own, in its spare room: the queue stays. -/
theorem Q_clear_run {α : Type} (d : Kd α) {W : World} (base : Nat) (t ty e : TypeId) (z : Value) (ht : P.underlying t = some (.slice e)) (hz : ∀ w, (zeroValue e).run P w = .ok z w) (hzs : z.cells.size = d.sz) (hz1 : ∀ u ∈ z.cells.toList, u.oneCell' = true)
  {g o n c m : Nat} {xs : List α} {ok : Nat → Prop} (HO : d.Q e W base ok (.slice (some ⟨g, o, none⟩) n c) xs) (hm : n + m ≤ c) (hm0 : 0 < m) (hn0 : 0 < c) (c2 : Nat) (hpos : 0 < d.sz) :
  ∃ w1, (Builtin.clear_ #[t] ty #[.slice (some ⟨g, o + n * d.sz, none⟩) m c2]).run P W = .ok (.tuple #[]) w1 ∧ d.Q e w1 base ok (.slice (some ⟨g, o, none⟩) n c) xs ∧ W.grownBy w1 (some g) := by
 obtain ⟨hn, hnc, _⟩ := Kd.Q_reads' HO
 obtain ⟨hok, inner, hown, hr⟩ := HO
 have hin : inner.length = n * d.sz := by rw [hr.1, hn]
 rcases hown.2 with ⟨h0, A, hv, _⟩ | ⟨g', off, cap', cur, hv, hb, hh, hcn, hcm, hcs, htake⟩
 ·injection hv with _ h1 h2
  omega
 injection hv with ha _ hc
 injection ha with ha
 injection ha with hg ho
 subst hg; subst hc; subst ho
 rw [← hn] at htake
 obtain ⟨news, hnews⟩ : ∃ news, news = (Builtin.zeroCells z.cells m).toList := ⟨_, rfl⟩
 have hnl : news.length = m * d.sz := by rw [hnews, cycle_len _ _ hm0, hzs]
 have hone : ∀ u ∈ news, u.oneCell' = true := by
  intro u hu
  rw [hnews] at hu
  have hp : 0 < z.cells.size := by omega
  simp only [Builtin.zeroCells, Array.toList_map, List.mem_map] at hu
  obtain ⟨i, _, rfl⟩ := hu
  have hi := Nat.mod_lt i hp
  rw [getElem!_pos z.cells _ hi]
  exact hz1 _ (by simp)
 have hnm : (n + m) * d.sz ≤ c * d.sz := Nat.mul_le_mul_right _ hm
 have hnm2 : (n + m) * d.sz = n * d.sz + m * d.sz := Nat.add_mul _ _ _
 have hoc : (off + c) * d.sz = off * d.sz + c * d.sz := Nat.add_mul _ _ _
 have hfit : off * d.sz + n * d.sz + news.length ≤ cur.size := by omega
 have hst := run_storeCells_cells (P := P) g (off * d.sz + n * d.sz) news 0 W (fun j hj => by rw [cell_of_row W g _ cur e (0, 0) hh]; simp; omega) (fun j _ => blk_frozen hh _) hone
 simp only [Nat.add_zero] at hst
 obtain ⟨cur', h3, h4, h5⟩ := setCells_row news (off * d.sz + n * d.sz) W cur hh hfit
 obtain ⟨s1, s2, s3, s4⟩ := setCells_same g news (off * d.sz + n * d.sz) W
 have hfar : ∀ k', k' ≠ g → (W.setCells g (off * d.sz + n * d.sz) news).heap[k']? = W.heap[k']? := fun k' hk' => setCells_far news _ k' hk'
 refine ⟨_, ?_, ⟨hok, inner, ⟨by rw [hin, hn], .inr ⟨g, off, c, cur', by rw [hn], hb, h3, by omega, hcm, by rw [h4, hcs], ?_⟩⟩, ?_⟩, ⟨s1, s2, s3, by rw [s4]; exact Nat.le_refl _, fun k' _ hk' => hfar k' (fun he => hk' (by rw [he]))⟩⟩
 ·obtain ⟨k, rfl⟩ : ∃ k, m = k + 1 := ⟨m - 1, by omega⟩
  have hzc : (Builtin.zeroCells z.cells (k + 1)).toList = news := hnews.symm
  simp [Builtin.clear_, run_underlying ht, hz, hzc, hst]
 ·rw [← hn, h5, List.append_assoc]
  have hl : (cur.toList.take (off * d.sz + n * d.sz)).drop (off * d.sz) = (cur.toList.drop (off * d.sz)).take (n * d.sz) := by
   rw [List.drop_take]
   congr 1
   omega
  have hlen : (cur.toList.take (off * d.sz + n * d.sz)).length = off * d.sz + n * d.sz := by
   rw [List.length_take, Array.length_toList]; omega
  rw [List.drop_append_of_le_length (by rw [hlen]; omega), hl, htake]
  exact List.take_left' hin
 ·exact hr.imp_ (fun p q hp => d.M_move (fun k' hk' => hfar k' (fun he => hk'.2 (by simp [Value.ownBlock, he]))) hp)
end
def delInt.idx (h : Int) : List Int → Nat → Int
 | [], _ => -1
 | x :: r, i => if x = h then (i : Int) else delInt.idx h r (i + 1)
theorem delInt.idx_at (h : Int) (l : List Int) (i : Nat) (hi : i < l.length) : delInt.idx h (l.drop i) i = if rd l (i : Int) = h then (i : Int) else delInt.idx h (l.drop (i + 1)) (i + 1) := by
 rw [List.drop_eq_getElem_cons hi, delInt.idx]
 have e : rd l (i : Int) = l[i] := by
  show l.getD (i : Int).toNat _ = _
  simp [List.getD_eq_getElem?_getD, hi]
 rw [e]
theorem delInt.idx_end (h : Int) (l : List Int) (i : Nat) (hi : ¬ i < l.length) : delInt.idx h (l.drop i) i = -1 := by
 rw [List.drop_of_length_le (by omega)]; rfl
/-- What is asked of a closure over one number: it tells whether it is handed just that one. -/
def delInt.Clo (M : Nat) (fnM : Func) (B : Nat) (h : Int) : Prop := Try.prog.funcs[M]? = some fnM ∧ (fnM.name == "runtime.NumGoroutine") = false ∧ fnM.body.isSome = true ∧ ∀ (y : Int) (W : World), W.heap[B]? = some (.cells #[.int .i64 h] 3 (0, 0)) →
 Calls Try.prog M #[.int .i64 y, .pointer (some ⟨B, 0, none⟩)] W fun e w' => e = .returned (.bool (y == h)) ∧ Below W.heap.size W w'
theorem delInt.index (M : Nat) (fnM : Func) (B : Nat) (h : Int) (hM : delInt.Clo M fnM B h) (A0 : Option Addr) (c0 : Nat) (l0 : List Int) (w : World) (hblk : w.heap[B]? = some (.cells #[.int .i64 h] 3 (0, 0))) (hr0 : Kd.C (Kd.int .i64) w A0 l0.length l0) (hc0 : l0.length ≤ c0) :
  Calls Try.prog 100 #[.slice A0 l0.length c0, .func (.func M) #[] #[.pointer (some ⟨B, 0, none⟩)]] w fun e w' => e = .returned (.int .i64 (delInt.idx h l0 0)) ∧ Below w.heap.size w w' := by
 obtain ⟨hfM, hnM, hbM, hcM⟩ := hM
 have HR0 := Aside0.mk hr0
 have HC0 := Aside0.mk hc0
 have HL := Aside0.mk (show l0.length ≤ 9223372036854775807 from hr0.2.1)
 have HX := Aside0.mk hblk
 have HF := Aside0.mk hfM
 have HN1 := Aside0.mk hnM
 have HB1 := Aside0.mk hbM
 have HCM := Aside0.mk hcM
 clear hr0 hc0 hblk hfM hnM hbM hcM
 have HB := Aside0.mk (Below.refl w.heap.size w)
 obtain ⟨R, hR⟩ : ∃ R, R = delInt.idx h l0 0 := ⟨_, rfl⟩
 rw [← hR]
 have HN := Aside0.mk (show delInt.idx h (l0.drop 0) 0 = R from hR.symm)
 clear hR
 go_enter Try.func100, Try.ntmps100
 go_wp2
 go_loopg [5, 8] l0.length (fun kq _ v8 w' => ∃ x : Int, v8 = .int .i64 x ∧ Aside0 (∃ n : Nat, x = (n : Int) ∧ delInt.idx h (l0.drop n) n = R ∧ n + kq = l0.length) ∧ Aside0 (Below w.heap.size w w'))
 case atStart => exact ⟨0, rfl, ⟨0, rfl, HN.out, Nat.zero_add _⟩, HB⟩
 case round =>
  clear HN
  obtain ⟨x, rfl, HN, HB⟩ := hrel
  by_cases hlt : x < (l0.length : Int)
  ·have hd : decide (x < (l0.length : Int)) = true := decide_eq_true hlt
   have hn0 : 0 ≤ x := by obtain ⟨n, rfl, _⟩ := HN.out; exact Int.natCast_nonneg n
   obtain ⟨ad, hA, hx0⟩ := Kd.at_int HR0.out x hn0 hlt
   subst hA
   replace hx0 := (HB.out.cell (World.block_lt_of_cell? w _ hx0)).trans hx0
   have H0 := Aside0.mk hn0
   have H1 := Aside0.mk hlt
   replace hn0 := eq_true hn0
   replace hlt := eq_true hlt
   obtain ⟨y, hy⟩ : ∃ y, rd l0 x = y := ⟨_, rfl⟩
   rw [hy] at hx0
   have HY := Aside0.mk hy
   clear hy
   by_cases c : y = h
   ·have C := Aside0.mk c
    have hbq : (y == h) = true := beq_iff_eq.mpr c
    clear c
    go_wp2_with fail
    rw [enters_ HF.out HN1.out HB1.out, Oper.upon_enter]
    refine (HCM.out y _ (blk_below HX.out HB.out)).mono ?_
    rintro e w' ⟨rfl, hb'⟩
    have HB' := Aside0.mk hb'
    clear hb'
    rw [hbq]
    go_wp2
    go_ret
    refine ⟨?_, below_step HB.out HB'.out⟩
    obtain ⟨n, rfl, hn, hk⟩ := HN.out
    have e := delInt.idx_at h l0 n (Int.ofNat_lt.mp H1.out)
    rw [HY.out, if_pos C.out, hn] at e
    rw [e]
    rfl
   ·have C := Aside0.mk c
    have hbq : (y == h) = false := beq_eq_false_iff_ne.mpr c
    clear c
    go_wp2_with fail
    rw [enters_ HF.out HN1.out HB1.out, Oper.upon_enter]
    refine (HCM.out y _ (blk_below HX.out HB.out)).mono ?_
    rintro e w' ⟨rfl, hb'⟩
    have HB' := Aside0.mk hb'
    clear hb'
    rw [hbq]
    go_wp2
    obtain ⟨n, rfl, hn, hk⟩ := HN.out
    have hlt' := Int.ofNat_lt.mp H1.out
    go_roundg (gk - 1)
    case measure => omega
    case rel =>
     have e := delInt.idx_at h l0 n hlt'
     rw [HY.out, if_neg C.out, hn] at e
     exact ⟨_, rfl, ⟨n + 1, wsucc_ (by have := HL.out; omega), e.symm, by omega⟩, ⟨below_step HB.out HB'.out⟩⟩
  ·have hd : decide (x < (l0.length : Int)) = false := decide_eq_false hlt
   have HLT := Aside0.mk hlt
   clear hlt
   go_wp2
   go_ret
   obtain ⟨n, rfl, hn, hk⟩ := HN.out
   have hlt' := HLT.out
   rw [delInt.idx_end h l0 n (by omega)] at hn
   exact ⟨by rw [← hn]; rfl, HB.out⟩
def slices_DeleteFunc_int_int.f (l0 : List Int) (a1 : Int) : Option (List Int) := some (l0.filter (fun y => !(y == a1)))
theorem delInt.idx_neg (h : Int) : ∀ (l : List Int) (i : Nat), delInt.idx h l i = -1 → l.filter (fun y => !(y == h)) = l
 | [], _, _ => rfl
 | x :: r, i, e => by
  rw [delInt.idx] at e
  by_cases c : x = h
  ·rw [if_pos c] at e; omega
  ·rw [if_neg c] at e
   rw [List.filter_cons, if_pos (by simp [c]), delInt.idx_neg h r (i + 1) e]
theorem delInt.idx_pos (h : Int) : ∀ (l : List Int) (i : Nat), delInt.idx h l i ≠ -1 → ∃ p, p < l.length ∧ delInt.idx h l i = ((i + p : Nat) : Int) ∧ (l.take p).filter (fun y => !(y == h)) = l.take p ∧ rd l (p : Int) = h
 | [], _, e => by simp [delInt.idx] at e
 | x :: r, i, e => by
  rw [delInt.idx] at e ⊢
  by_cases c : x = h
  ·exact ⟨0, by simp, by rw [if_pos c]; simp, rfl, c⟩
  ·rw [if_neg c] at e ⊢
   obtain ⟨p, h1, h2, h3, h4⟩ := delInt.idx_pos h r (i + 1) e
   refine ⟨p + 1, by simpa using h1, by rw [h2]; omega, ?_, ?_⟩
   ·rw [List.take_succ_cons, List.filter_cons, if_pos (by simp [c]), h3]
   ·have : rd (x :: r) ((p + 1 : Nat) : Int) = rd r (p : Int) := by
     show (x :: r).getD ((p + 1 : Nat) : Int).toNat _ = r.getD (p : Int).toNat _
     simp
    rw [this, h4]
/-- What the loop keeps: ahead of i what stays of the first j, from j on the rest. -/
structure delInt.Inv (h : Int) (l cur : List Int) (i j : Nat) : Prop where
 len : cur.length = l.length
 lt : i < j
 le : j ≤ l.length
 front : cur.take i = (l.take j).filter (fun y => !(y == h))
 back : cur.drop j = l.drop j
theorem delInt.Inv.read {h : Int} {l cur : List Int} {i j : Nat} (v : delInt.Inv h l cur i j) (hj : j < l.length) : rd cur (j : Int) = rd l (j : Int) := by
 have e := congrArg (fun z => z.head?) v.back
 simp only [List.head?_drop] at e
 show cur.getD (j : Int).toNat _ = l.getD (j : Int).toNat _
 simp [List.getD_eq_getElem?_getD, e]
theorem delInt.take_succ {l : List Int} {j : Nat} (hj : j < l.length) : l.take (j + 1) = l.take j ++ [rd l (j : Int)] := by
 have e : rd l (j : Int) = l[j] := by
  show l.getD (j : Int).toNat _ = _
  simp [List.getD_eq_getElem?_getD, hj]
 rw [e, List.take_succ_eq_append_getElem hj]
theorem delInt.Inv.skip {h : Int} {l cur : List Int} {i j : Nat} (v : delInt.Inv h l cur i j) (hj : j < l.length) (e : rd l (j : Int) = h) : delInt.Inv h l cur i (j + 1) := by
 refine ⟨v.len, by have := v.lt; omega, hj, ?_, ?_⟩
 ·rw [v.front, delInt.take_succ hj, List.filter_append]
  simp [e]
 ·rw [← List.drop_drop, ← List.drop_drop, v.back]
theorem delInt.Inv.put {h : Int} {l cur : List Int} {i j : Nat} (v : delInt.Inv h l cur i j) (hj : j < l.length) (e : rd l (j : Int) ≠ h) : delInt.Inv h l (cur.set i (rd l (j : Int))) (i + 1) (j + 1) := by
 have hi := v.lt
 have hl := v.len
 refine ⟨by rw [List.length_set]; exact hl, by omega, hj, ?_, ?_⟩
 ·rw [List.take_succ_eq_append_getElem (by rw [List.length_set]; omega), List.take_set_of_le (Nat.le_refl _), v.front, delInt.take_succ hj, List.filter_append]
  simp [e]
 ·rw [List.drop_set_of_lt (by omega), ← List.drop_drop, ← List.drop_drop, v.back]
theorem slices_DeleteFunc_int_int.calls (P0_ : Nat → Prop) (u9000_ : Value) (l0 : List Int) (M : Nat) (fnM : Func) (B : Nat) (a1 : Int) (r : List Int) (w0 w : World) (hB : Below w0.heap.size w0 w) (ho0 : Kd.Q (Kd.int .i64) 3 w w0.heap.size P0_ u9000_ l0) (hM : delInt.Clo M fnM B a1) (hblk : w.heap[B]? = some (.cells #[.int .i64 a1] 3 (0, 0))) (hPB : ∀ k_, P0_ k_ → k_ ≠ B) (h : slices_DeleteFunc_int_int.f l0 a1 = some r) :
  Calls Try.prog 83 #[u9000_, .func (.func M) #[] #[.pointer (some ⟨B, 0, none⟩)]] w fun e w' => ∃ v0_ : Value, e = .returned v0_ ∧ Kd.Q (Kd.int .i64) 3 w' w0.heap.size (fun k_ => P0_ k_ ∨ w.heap.size ≤ k_) v0_ r ∧ Below w0.heap.size w0 w' ∧ Kept w w' (fun k_ => P0_ k_) := by
 obtain rfl := Option.some.inj h
 clear h
 obtain ⟨A0, c0, rfl, hlc⟩ := Kd.Q_slice ho0
 obtain ⟨_, _, hC⟩ := Kd.Q_reads' ho0
 have hidx := delInt.index M fnM B a1 hM A0 c0 l0 w hblk hC hlc
 have hL : l0.length ≤ 9223372036854775807 := hC.2.1
 obtain ⟨hfM, hnM, hbM, hcM⟩ := hM
 have HF := Aside0.mk hfM
 have HN1 := Aside0.mk hnM
 have HB1 := Aside0.mk hbM
 have HCM := Aside0.mk hcM
 have HX := Aside0.mk hblk
 have HQ := Aside0.mk ho0
 have HBW := Aside0.mk hB
 have HPB := Aside0.mk hPB
 have HL := Aside0.mk hL
 have HLC := Aside0.mk hlc
 clear hfM hnM hbM hcM hblk ho0 hB hPB hL hC
 by_cases ci : delInt.idx a1 l0 0 = -1
 ·have e1 := delInt.idx_neg a1 l0 0 ci
  rw [e1]
  rw [ci] at hidx
  clear e1 ci
  go_enter Try.func83, Try.ntmps83
  go_wp2_with fail
  refine hidx.mono ?_
  rintro e w' ⟨rfl, hb⟩
  have HB := Aside0.mk hb
  clear hb hidx
  go_wp2
  go_ret
  exact ⟨_, rfl, Kd.Q_mono (Kd.Q_below HQ.out HB.out) (fun _ h => Or.inl h), below_step HBW.out HB.out, Kept.below (Kept.refl _ _) HB.out⟩
 ·obtain ⟨p, hp, e1, e2, e3⟩ := delInt.idx_pos a1 l0 0 ci
  rw [Nat.zero_add] at e1
  rw [e1] at hidx
  obtain ⟨g, o, cap, hv, hbg, hgl, cl, hgc⟩ := Kd.Q_form HQ.out (by omega)
  injection hv with ha _ hcap
  subst ha
  subst hcap
  have hP0 : P0_ g := HQ.out.1 g rfl
  have HG := Aside0.mk hbg
  have HGL := Aside0.mk hgl
  have HP0 := Aside0.mk hP0
  have I0 : delInt.Inv a1 l0 l0 p (p + 1) := by
   refine ⟨rfl, by omega, hp, ?_, rfl⟩
   rw [delInt.take_succ hp, List.filter_append, e2]
   simp [e3]
  have HI0 := Aside0.mk I0
  have HP := Aside0.mk hp
  have ew : IntKind.i64.wrap ((p : Int) + 1) = ((p + 1 : Nat) : Int) := by exact (i64_w _).trans (by have := HL.out; unfold wrap64; omega)
  have hne : ((p : Int) == -1) = false := by rw [beq_eq_false_iff_ne]; omega
  clear ci e1 e2 e3 hbg hgl hgc hP0 I0 hp
  go_enter Try.func83, Try.ntmps83
  go_wp2_with fail
  refine hidx.mono ?_
  rintro e w1 ⟨rfl, hb⟩
  have HB := Aside0.mk hb
  clear hb hidx
  go_wp2
  go_loopg [5, 6, 7] (l0.length - (p + 1)) (fun kq v5 v6 v7 w' => ∃ x5 x6 : Int, v5 = .int .i64 x5 ∧ v6 = .int .i64 x6 ∧ Aside0 (∃ (i j : Nat) (cur : List Int), x5 = (i : Int) ∧ x6 = (j : Int) ∧ j + kq = l0.length + 0 ∧ delInt.Inv a1 l0 cur i j ∧ Kd.Q (Kd.int .i64) 3 w' w0.heap.size (fun k_ => P0_ k_ ∨ w.heap.size ≤ k_) (.slice (some ⟨g, o, none⟩) l0.length c0) cur) ∧ Aside0 (Below w0.heap.size w0 w') ∧ Aside0 (Kept w w' (fun k_ => P0_ k_)))
  case atStart =>
   exact ⟨(p : Int), ((p + 1 : Nat) : Int), rfl, rfl, ⟨p, p + 1, l0, rfl, rfl, by have := HP.out; omega, HI0.out, Kd.Q_mono (Kd.Q_below HQ.out HB.out) (fun _ h => Or.inl h)⟩, ⟨below_step HBW.out HB.out⟩, ⟨Kept.below (Kept.refl _ _) HB.out⟩⟩
  case round =>
   clear HI0 HQ HB HBW HP ew hne
   obtain ⟨x5, x6, rfl, rfl, HI, HB, HK⟩ := hrel
   obtain ⟨i, j, cur, rfl, rfl, hq, hi, hQ⟩ := HI.out
   clear HI
   have HI := Aside0.mk hi
   have HQ := Aside0.mk hQ
   have HJ := Aside0.mk hq
   clear hi hQ hq
   by_cases hlt : (j : Int) < (l0.length : Int)
   ·have hd : decide ((j : Int) < (l0.length : Int)) = true := decide_eq_true hlt
    have hn0 : (0 : Int) ≤ (j : Int) := Int.natCast_nonneg j
    obtain ⟨hx0, hf0⟩ := Kd.Q_cell (0 : Int) HQ.out (j : Int) hn0 hlt
    obtain ⟨y, hy⟩ : ∃ y, rd l0 (j : Int) = y := ⟨_, rfl⟩
    have hyc : rdOf (0 : Int) cur (j : Int) = y := (HI.out.read (Int.ofNat_lt.mp hlt)).trans hy
    rw [hyc] at hx0
    simp only [Int.toNat_natCast] at hx0 hf0
    have HY := Aside0.mk hy
    have HLT := Aside0.mk (Int.ofNat_lt.mp hlt)
    replace hn0 := eq_true hn0
    replace hlt := eq_true hlt
    clear hy hyc hf0
    by_cases c : y = a1
    ·have C := Aside0.mk c
     have hbq : (y == a1) = true := beq_iff_eq.mpr c
     clear c
     go_wp2_with fail
     rw [enters_ HF.out HN1.out HB1.out, Oper.upon_enter]
     refine (HCM.out y _ (blk_kept HX.out HK.out (fun h => HPB.out B h rfl))).mono ?_
     rintro e w' ⟨rfl, hb'⟩
     have HB' := Aside0.mk hb'
     clear hb'
     rw [hbq]
     go_wp2
     go_roundg (gk - 1)
     case measure => have := HJ.out; have := HLT.out; omega
     case rel =>
      exact ⟨(i : Int), _, rfl, rfl, ⟨i, j + 1, cur, rfl, wsucc_ (by have := HL.out; have := HLT.out; omega), by have := HJ.out; have := HLT.out; omega, HI.out.skip HLT.out (HY.out.trans C.out), Kd.Q_below HQ.out HB'.out⟩, ⟨below_step HB.out HB'.out⟩, ⟨Kept.below HK.out HB'.out⟩⟩
    ·have C := Aside0.mk c
     have hbq : (y == a1) = false := beq_eq_false_iff_ne.mpr c
     clear c
     go_wp2_with fail
     rw [enters_ HF.out HN1.out HB1.out, Oper.upon_enter]
     refine (HCM.out y _ (blk_kept HX.out HK.out (fun h => HPB.out B h rfl))).mono ?_
     rintro e w' ⟨rfl, hb'⟩
     have HB' := Aside0.mk hb'
     have HQ' := Aside0.mk (Kd.Q_below HQ.out hb')
     have hi0 : (0 : Int) ≤ (i : Int) := Int.natCast_nonneg i
     have hil : (i : Int) < (l0.length : Int) := by have := HI.out.lt; have := HLT.out; omega
     obtain ⟨hxi, hfi⟩ := Kd.Q_cell (0 : Int) HQ'.out (i : Int) hi0 hil
     simp only [Int.toNat_natCast] at hxi hfi
     have HS := Aside0.mk (by have h := Kd.Q_putg HQ'.out (i : Int) hi0 hil y; simp only [Int.toNat_natCast] at h; exact h)
     have HBS := Aside0.mk (below_set (j := o + i) (v := .int .i64 y) (below_step HB.out hb') HG.out)
     have HKS := Aside0.mk (Kept.setCell (p := ⟨g, o + i, none⟩) (Kept.below HK.out hb') (.inl HP0.out) (.int .i64 y))
     replace hi0 := eq_true hi0
     replace hil := eq_true hil
     clear hb'
     rw [hbq]
     go_wp2
     go_roundg (gk - 1)
     case measure => have := HJ.out; have := HLT.out; omega
     case rel =>
      have e := HI.out.put HLT.out (fun e => C.out (HY.out.symm.trans e))
      rw [HY.out] at e
      exact ⟨_, _, rfl, rfl, ⟨i + 1, j + 1, cur.set i y, wsucc_ (by have := HL.out; have := HLT.out; have := HI.out.lt; omega), wsucc_ (by have := HL.out; have := HLT.out; omega), by have := HJ.out; have := HLT.out; omega, e, HS.out.1⟩, ⟨HBS.out⟩, ⟨HKS.out⟩⟩
   ·have hd : decide ((j : Int) < (l0.length : Int)) = false := decide_eq_false hlt
    have hj : j = l0.length := by have := HI.out.le; omega
    subst hj
    have hil : i < l0.length := HI.out.lt
    have hcl : cur.length = l0.length := HI.out.len
    have hft : cur.take i = l0.filter (fun y => !(y == a1)) := by
     have := HI.out.front
     rwa [List.take_length] at this
    have hQt := Kd.Q_take HQ.out (m := i) (by omega)
    rw [hft] at hQt
    have HQT := Aside0.mk hQt
    have hc0 : i ≤ c0 := by have := HLC.out; omega
    have hli : (List.filter (fun y => !(y == a1)) l0).length = i := by rw [← hft, List.length_take]; omega
    obtain ⟨w2, hrun, hr2, hg2⟩ := Q_clear_run (P := Try.prog) (Kd.int .i64) w0.heap.size 69 0 3 (.int .i64 0) Try.underlying69 Try.zeroValue3 rfl (by decide) hQt (m := l0.length - i) (by omega) (by omega) (by omega) (c0 - i) (by decide)
    have HR2 := Aside0.mk hr2
    have HG2 := Aside0.mk hg2
    have b1 : (i : Int) ≤ (l0.length : Int) := by omega
    have b2 : (l0.length : Int) ≤ (c0 : Int) := by have := HLC.out; omega
    have b3 : (i : Int) ≤ (c0 : Int) := by omega
    have b4 : (0 : Int) ≤ (i : Int) := by omega
    have b5 : (c0 = i) = False := eq_false (by omega)
    have HLI := Aside0.mk hli
    change Sem.run _ (Builtin.clear_ #[69] 0 #[.slice (some ⟨g, o + i * 1, none⟩) (l0.length - i) (c0 - i)]) _ = _ at hrun
    rw [Nat.mul_one] at hrun
    clear hr2 hg2 hQt hft hcl hil hli hlt
    go_wp2
    go_ret
    exact ⟨_, rfl, HR2.out, HB.out.grown HG2.out HB.out.size (fun k hk => by injection hk with hk; subst hk; exact HG.out), Kept.of_grown HG2.out HK.out (fun k hk => by injection hk with hk; subst hk; exact .inl HP0.out)⟩
end Go.Proofs.Ytlokjgngjgbpmaa.G

namespace Go.Proofs.Ytlokjgngjgbpmaa.G
open Go.RowKit Go.Proofs.YtlokjgngjgbpmaaW.PrintWords Go.Proofs.YtlokjgngjgbpmaaW.PrintLast Go.Proofs.YtlokjgngjgbpmaaW.PrintMore Go.Proofs.Ytlokjgngjgbpmaa.Sh
attribute [local go_sem] max2_int min2_int max_two min_two max_three min_three max_four min_four
set_option linter.unusedVariables false
set_option linter.unusedSimpArgs false
open Go.Proofs.Ytlokjgngjgbpmaa.Mm
theorem impl_Three_evictSmall.clo114 (B : Nat) (h : Int) : delInt.Clo 114 Try.f114 B h := by
 refine ⟨Try.func114, by kernel_rfl, by rfl, fun y W hb => ?_⟩
 have HB := Aside0.mk (Below.refl W.heap.size W)
 have hc : W.cell? ⟨B, 0, none⟩ = some (.int .i64 h) := (blk_cell hb 0).trans rfl
 clear hb
 go_enter Try.func114, Try.ntmps114
 go_wp2
 go_ret
 exact ⟨rfl, HB.out⟩
def impl_Three_evictSmall.l0 : Nat → Int → Int → List (S67) → List (S67) → List Int → Option (Int × Int × (List (S67)) × (List (S67)) × List Int × ByteArray × Bool)
 | 0, _, _, _, _, _ => none
 | k + 1, x307000, x307001, x307002, x307003, x307004 => if (x307002.length : Int) > 0 then (if 0 < (x307002.length : Int) then (if 1 ≤ (x307002.length : Int) then ((some (x307002.drop (1 : Int).toNat : List (S67))).bind fun y309 => (if ((rd_T67 x307002 0).f2) > 1 then (if x307003.length < 3518437208883 then (impl_Three_evictSmall.l0 k x307000 x307001 y309 (x307003 ++ [(⟨(rd_T67 x307002 0).f0, (rd_T67 x307002 0).f1, 0⟩ : S67)]) x307004) else (none)) else ((impl_Hash.f k ((rd_T67 x307002 0).f0)).bind fun t315 => ((slices_DeleteFunc_int_int.f x307004 t315).bind fun t317 => (if t317.length < 17592186044416 then ((some (t317 ++ [t315] : List Int)).bind fun y320 => ((impl_Three_ghosts.f x307000 x307001).bind fun t323 => (if (y320.length : Int) > t323 then (if 1 ≤ (y320.length : Int) then (some (x307000, x307001, y309, x307003, (y320.drop (1 : Int).toNat), (rd_T67 x307002 0).f0, true)) else (none)) else (some (x307000, x307001, y309, x307003, y320, (rd_T67 x307002 0).f0, true))))) else (none)))))) else (none)) else (none)) else (some (x307000, x307001, x307002, x307003, x307004, (⟨#[]⟩ : ByteArray), false))
def impl_Three_evictSmall.f (k : Nat) (a0_0 : Int) (a0_1 : Int) (l0_2 : List (S67)) (l0_3 : List (S67)) (l0_4 : List Int) : Option (Int × Int × (List (S67)) × (List (S67)) × List Int × ByteArray × Bool) := impl_Three_evictSmall.l0 k a0_0 a0_1 l0_2 l0_3 l0_4
def impl_Three_evictSmall.T6 : Bool × List (List Nat × List Nat) := (true, [([], []), ([], []), ([1], [1]), ([2], [2]), ([3], [3]), ([], []), ([5], [5]), ([4, 6], [4, 6]), ([0, 0, 1, 2, 3, 4, 5, 6, 7], [0]), ([8, 0, 1, 2, 3, 4, 5, 6, 7], [8]), ([9, 7, 7, 0, 1, 2, 3, 4, 5, 6, 7], [7, 9])])
def impl_Three_evictSmall.B6 : List Nat := [0, 0, 2, 6, 14, 0, 32, 126, 255, 511, 1023]
theorem impl_Three_evictSmall.tab6 : rtab .any (opsOf Try.f98 6) = impl_Three_evictSmall.T6 := by kernel_rfl
theorem impl_Three_evictSmall.bits6 : waitsOk impl_Three_evictSmall.T6.2 impl_Three_evictSmall.B6 = true := by kernel_rfl
def impl_Three_evictSmall.T8 : Bool × List (List Nat × List Nat) := (true, [([], []), ([], []), ([1], [1]), ([2], [2]), ([3], [3]), ([], []), ([4, 5], [4, 5]), ([], []), ([7], [7]), ([6, 8, 6], [6, 8]), ([0, 0, 1, 2, 3, 4, 5, 6, 7, 8, 9], [0]), ([10, 0, 1, 2, 3, 4, 5, 6, 7, 8, 9], [10]), ([11, 9, 9, 0, 1, 2, 3, 4, 5, 6, 7, 8, 9], [9, 11])])
def impl_Three_evictSmall.B8 : List Nat := [0, 0, 2, 6, 14, 0, 62, 0, 128, 510, 1023, 2047, 4095]
theorem impl_Three_evictSmall.tab8 : rtab .any (opsOf Try.f98 8) = impl_Three_evictSmall.T8 := by kernel_rfl
theorem impl_Three_evictSmall.bits8 : waitsOk impl_Three_evictSmall.T8.2 impl_Three_evictSmall.B8 = true := by kernel_rfl
def impl_Three_evictSmall.T9 : Bool × List (List Nat × List Nat) := (true, [([], []), ([0], [0]), ([1], [1]), ([2], [2]), ([3], [3]), ([], []), ([5], [5]), ([4, 6], [4, 6])])
def impl_Three_evictSmall.B9 : List Nat := [0, 1, 3, 7, 15, 0, 32, 127]
theorem impl_Three_evictSmall.tab9 : rtab .any (opsOf Try.f98 9) = impl_Three_evictSmall.T9 := by kernel_rfl
theorem impl_Three_evictSmall.bits9 : waitsOk impl_Three_evictSmall.T9.2 impl_Three_evictSmall.B9 = true := by kernel_rfl
theorem impl_Three_evictSmall.calls (k : Nat) (g : Nat) (a0_0 : Int) (a0_1 : Int) (u9000_ : Value) (l0_2 : List (S67)) (u9001_ : Value) (l0_3 : List (S67)) (u9002_ : Value) (l0_4 : List Int) (r1 : Int) (r2 : Int) (r3 : List (S67)) (r4 : List (S67)) (r5 : List Int) (r6 : ByteArray) (r7 : Bool) (w0 w : World) (F : List SP)  (hM : Mem w0 F w [row k67 67 u9000_ l0_2, row k67 67 u9001_ l0_3, row (Kd.int .i64) 3 u9002_ l0_4, box 71 g [.int .i64 a0_0, .int .i64 a0_1, u9000_, u9001_, u9002_]]) (h : impl_Three_evictSmall.f k a0_0 a0_1 l0_2 l0_3 l0_4 = some (r1, r2, r3, r4, r5, r6, r7)) :
  Calls Try.prog 98 #[.pointer (some ⟨g, 0, none⟩)] w fun e w' => ∃ v2_ v3_ v4_ : Value, e = .returned (.tuple #[.string r6, .bool r7]) ∧ Mem w0 F w' [row k67 67 v2_ r3, row k67 67 v3_ r4, row (Kd.int .i64) 3 v4_ r5, box 71 g [.int .i64 r1, .int .i64 r2, v2_, v3_, v4_]] := by
 have hu67 := Try.underlying67
 have HM := hM
 clear hM
 have H := h
 clear h
 unfold impl_Three_evictSmall.f at H
 go_enter Try.func98, Try.ntmps98
 have H' := Aside0.mk H
 clear H
 go_wp2
 go_loopg [] k (fun kq w' => ∃ (x307000_1 : Int) (x307001_1 : Int) (x307002_1 : List (S67)) (x307003_1 : List (S67)) (x307004_1 : List Int) (u307002 : Value) (u307003 : Value) (u307004 : Value), Aside0 (impl_Three_evictSmall.l0 kq x307000_1 x307001_1 x307002_1 x307003_1 x307004_1 = some (r1, r2, r3, r4, r5, r6, r7)) ∧ Aside0 (kq ≤ k) ∧ Mem w0 F w' [row k67 67 u307002 x307002_1, row k67 67 u307003 x307003_1, row (Kd.int .i64) 3 u307004 x307004_1, box 71 g [.int .i64 x307000_1, .int .i64 x307001_1, u307002, u307003, u307004]])
 case atStart => exact ⟨(a0_0), (a0_1), (l0_2), (l0_3), (l0_4), (u9000_), (u9001_), (u9002_), H', ⟨Nat.le_refl _⟩, (MD HM).pick [0, 1, 2, 3]⟩
 case round =>
  clear H' HM
  obtain ⟨x307000_1, x307001_1, x307002_1, x307003_1, x307004_1, u307002, u307003, u307004, HA, HK1, HM⟩ := hrel
  cases gk with
  | zero => exact absurd HA.out (by simp [impl_Three_evictSmall.l0])
  | succ k1 =>
   have H := HA.out
   clear HA
   simp only [impl_Three_evictSmall.l0] at H
   obtain ⟨_,_,_,_,_,_,_,_,_,_⟩ := bk5 (HM.bx 3 rfl)
   obtain ⟨Xo3, ko3, rfl⟩ := HM.rd 0 rfl
   go_upto_if 11 with (fail)
   replace H := IT H; rcases H with ⟨c4, H⟩ | ⟨c4, H⟩
   ·replace c4 : (x307002_1.length : Int) > 0 := c4
    have c4b0 : decide (0 < (x307002_1.length : Int)) = true := decide_eq_true c4
    have c4b1 : decide (0 < x307002_1.length) = true := decide_eq_true (by omega)
    have c4b9 : decide (0 < x307002_1.length) = true := decide_eq_true (by omega)
    clear c4
    first|rw [c4b0]|rw [c4b9]|(simp only [i64_w, i32_w]; rw [c4b0])|skip
    replace H := GD H; obtain ⟨c5, H⟩ := H
    replace c5 : 0 < (x307002_1.length : Int) := c5
    have c5b0 := decide_eq_true c5
    have c5b1 : decide (0 < x307002_1.length) = true := decide_eq_true (by omega)
    have c5b9 : decide (0 < x307002_1.length) = true := decide_eq_true (by omega)
    clear c5
    replace H := GD H; obtain ⟨c9, H⟩ := H
    have c9b0 := eq_true c9
    have c9b1 : decide (1 ≤ (x307002_1.length : Int)) = true := decide_eq_true c9
    clear c9
    replace H := BLt H; obtain ⟨y309, Ny309, H⟩ := H
    replace Ny309 := Aside0.mk Ny309
    have p307 : 0 ≤ (0 : Int) := (by omega)
    have q307 : (0 : Int) < (x307002_1.length : Int) := of_decide_eq_true AS
    obtain ⟨ad307, e307, hx307_0, hx307_1, hx307_2⟩ := at_T67 (HM.C 0 rfl).2.2 0 p307 q307
    cases e307
    have qi307 : (0 < x307002_1.length) = True := eq_true (by omega)
    (try rw [show ((0 : Int)).toNat = 0 from rfl] at hx307_0)
    (try rw [show 0 * 3 = 0 from rfl] at hx307_0)
    (try rw [Addr.add_zero'] at hx307_0)
    (try rw [show ((0 : Int)).toNat = 0 from rfl] at hx307_1)
    (try rw [show 0 * 3 = 0 from rfl] at hx307_1)
    (try rw [Addr.add_zero'] at hx307_1)
    (try rw [show ((0 : Int)).toNat = 0 from rfl] at hx307_2)
    (try rw [show 0 * 3 = 0 from rfl] at hx307_2)
    (try rw [Addr.add_zero'] at hx307_2)
    replace p307 := eq_true p307
    replace q307 := eq_true q307
    go_upto_if 28 with (first | ((with_reducible refine gN 4 rfl ?_); refine pB 4 67 [.string (⟨#[]⟩ : ByteArray), .string (⟨#[]⟩ : ByteArray), .int .i64 0] HM rfl ?_; clear HM; intro gb308 w6 HM) | ((with_reducible refine gS 4 rfl ?_); refine pS 4 4 0 [.string ((rd_T67 x307002_1 0).f0), .string ((rd_T67 x307002_1 0).f1), .int .i64 ((rd_T67 x307002_1 0).f2)] HM rfl rfl ?_; clear HM; intro w7 HM; obtain ⟨_,_,_,_,_,_,_,_,_,_⟩ := bk5 (HM.bx 3 rfl)) | ((with_reducible refine gate_sl (t := 68) rfl ?_); refine pD 0 68 67 k67 _ _ 1 x307002_1 (some ad307) ko3 HM rfl Try.underlying68 info67 rfl (fun _ _ h => h) (by omega) (by have h_ : (1 : Int) ≤ ((x307002_1.length : Int) : Int) := of_decide_eq_true AS; first | exact h_ | (have e_ := (HM.C 0 rfl).1; omega)) ?_; clear HM; intro v310 HM; replace HM := HM.nmQ 0 rfl Ny309.out; obtain ⟨Xo10, ko10, rfl⟩ := HM.rd 0 rfl) | ((with_reducible refine gS 25 rfl ?_); refine pS 3 25 2 [.slice Xo10 y309.length ko10] HM rfl rfl ?_; clear HM; intro w11 HM; obtain ⟨_,_,_,_,_,_⟩ := bk3 (HM.bx 4 rfl)))
    replace HM := nzM HM
    replace H := IT H; rcases H with ⟨c13, H⟩ | ⟨c13, H⟩
    ·have c13b0 : decide (1 < ((rd_T67 x307002_1 0).f2)) = true := decide_eq_true c13
     clear c13
     first|rw [c13b0]|(simp only [i64_w, i32_w]; rw [c13b0])|skip
     try go_wp2_with (first | ((with_reducible refine gS 29 rfl ?_); refine pS 4 29 2 [.int .i64 0] HM rfl rfl ?_; clear HM; intro w14 HM))
     replace H := GD H; obtain ⟨c15, H⟩ := H
     have LMc15 := Aside0.mk c15
     clear c15
     obtain ⟨Xo24, ko24, rfl⟩ := HM.rd 1 rfl
     refine RGN 11 [0, 1, 2, 3, 4, 5, 6, 7, 8, 9, 10] (fun a0 b a w' => ∃ (v19 : Value) (v313 : Value), a = putSel a0 b [(0, 30, .pointer (some ⟨g, 0, none⟩)), (1, 31, .pointer (some ⟨g, 0, none⟩)), (2, 32, .pointer (some ⟨g, 0, none⟩)), (3, 33, .pointer (some ⟨g, 3, none⟩)), (4, 34, .slice Xo24 x307003_1.length ko24), (5, 35, .agg #[.string ((rd_T67 x307002_1 0).f0), .string ((rd_T67 x307002_1 0).f1), .int .i64 0]), (6, 36, v19), (7, 37, v313), (8, 38, .pointer (some ⟨g, 0, none⟩)), (9, 39, .pointer (some ⟨g, 3, none⟩))] ∧ Mem w0 F w' [row k67 67 (.slice Xo10 y309.length ko10) y309, sel (b 7) (row k67 67 v313 (x307003_1 ++ [(⟨(rd_T67 x307002_1 0).f0, (rd_T67 x307002_1 0).f1, 0⟩ : S67)])) (row k67 67 (.slice Xo24 x307003_1.length ko24) x307003_1), row (Kd.int .i64) 3 u307004 x307004_1, sel (b 10) (box 71 g [.int .i64 x307000_1, .int .i64 x307001_1, .slice Xo10 y309.length ko10, v313, u307004]) (box 71 g [.int .i64 x307000_1, .int .i64 x307001_1, .slice Xo10 y309.length ko10, .slice Xo24 x307003_1.length ko24, u307004]), box 67 gb308 [.string ((rd_T67 x307002_1 0).f0), .string ((rd_T67 x307002_1 0).f1), .int .i64 0], sel (b 6) (rowR k67 67 v19 [(⟨(rd_T67 x307002_1 0).f0, (rd_T67 x307002_1 0).f1, 0⟩ : S67)]) (emp)]) impl_Three_evictSmall.tab6 impl_Three_evictSmall.bits6 ?_ ?_ ?_
     ·exact ⟨.bool false, .bool false, PS0' rfl _, (HM.drew.ems 1).pick [0, 1, 2, 3, 4, 5]⟩
     ·clear HM
      refine SZ ?_ ?_
      ·rintro b a w ⟨v19, v313, ha, HM⟩ hb hon hoff K hK
       replace ha := Aside0.mk ha
       have e0 := PG ha 0
       exact VL (.pointer (some ⟨g, 0, none⟩)) (hK.out _ _ ⟨v19, v313, PUT ha 0 hb, HM⟩)
      refine SZ ?_ ?_
      ·rintro b a w ⟨v19, v313, ha, HM⟩ hb hon hoff K hK
       replace ha := Aside0.mk ha
       have e0 := PG ha 0
       exact VL (.pointer (some ⟨g, 0, none⟩)) (hK.out _ _ ⟨v19, v313, PUT ha 1 hb, HM⟩)
      refine SZ ?_ ?_
      ·rintro b a w ⟨v19, v313, ha, HM⟩ hb hon hoff K hK
       replace ha := Aside0.mk ha
       have e31 := PE ha 1 hon
       exact VL (.pointer (some ⟨g, 0, none⟩)) (hK.out _ _ ⟨v19, v313, PUT ha 2 hb, HM⟩)
      refine SZ ?_ ?_
      ·rintro b a w ⟨v19, v313, ha, HM⟩ hb hon hoff K hK
       replace ha := Aside0.mk ha
       have e32 := PE ha 2 hon
       exact VL (.pointer (some ⟨g, 3, none⟩)) (hK.out _ _ ⟨v19, v313, PUT ha 3 hb, HM⟩)
      refine SZ ?_ ?_
      ·rintro b a w ⟨v19, v313, ha, HM⟩ hb hon hoff K hK
       replace ha := Aside0.mk ha
       have HZ := HM
       replace HM := HM.sF 3 rfl (hoff 10 rfl)
       obtain ⟨_,_,_,_,_,_,_,_,_,_⟩ := bk5 (HM.bx 3 rfl)
       have e33 := PE ha 3 hon
       exact VL (.slice Xo24 x307003_1.length ko24) (hK.out _ _ ⟨v19, v313, PUT ha 4 hb, HZ⟩)
      refine SZ ?_ ?_
      ·rintro b a w ⟨v19, v313, ha, HM⟩ hb hon hoff K hK
       replace ha := Aside0.mk ha
       obtain ⟨_,_,_,_,_,_⟩ := bk3 (HM.bx 4 rfl)
       have e4 := PG ha 4
       exact VL (.agg #[.string ((rd_T67 x307002_1 0).f0), .string ((rd_T67 x307002_1 0).f1), .int .i64 0]) (hK.out _ _ ⟨v19, v313, PUT ha 5 hb, HM⟩)
      refine SZ ?_ ?_
      ·rintro b a w ⟨v19, v313, ha, HM⟩ hb hon hoff K hK
       replace ha := Aside0.mk ha
       have e35 := PE ha 5 hon
       refine ST (eL 36 k67 67 [(⟨(rd_T67 x307002_1 0).f0, (rd_T67 x307002_1 0).f1, 0⟩ : S67)] [.string ((rd_T67 x307002_1 0).f0), .string ((rd_T67 x307002_1 0).f1), .int .i64 0] (Reps.c3 (show Kd.M k67 _ _ _ (⟨(rd_T67 x307002_1 0).f0, (rd_T67 x307002_1 0).f1, 0⟩ : S67) [.string ((rd_T67 x307002_1 0).f0), .string ((rd_T67 x307002_1 0).f1), .int .i64 0] from (k67_mkM _ _ _ (⟨(rd_T67 x307002_1 0).f0, (rd_T67 x307002_1 0).f1, 0⟩ : S67))) (Reps.none _ _)) HM rfl ?_)
       clear HM
       intro v19 w27 HM
       exact hK.out _ _ ⟨v19, v313, PUT ha 6 hb, (HM).pick [0, 1, 2, 3, 4, 6]⟩
      refine SZ ?_ ?_
      ·rintro b a w ⟨v19, v313, ha, HM⟩ hb hon hoff K hK
       replace ha := Aside0.mk ha
       replace HM := HM.sF 1 rfl hb
       replace HM := HM.sT 5 rfl (hon 6 rfl)
       obtain ⟨Xo28, ko28, rfl⟩ := HM.rdR 5 rfl
       have e34 := PE ha 4 hon
       have e36 := PE ha 6 hon
       refine ST (eAq 1 (.tmp 34) (.tmp 36) 68 67 k67 (.slice Xo24 x307003_1.length ko24) x307003_1 [(⟨(rd_T67 x307002_1 0).f0, (rd_T67 x307002_1 0).f1, 0⟩ : S67)] Xo28 ([(⟨(rd_T67 x307002_1 0).f0, (rd_T67 x307002_1 0).f1, 0⟩ : S67)].length) ko28 HM rfl Try.underlying68 info67 rfl (HM.CR 5 rfl).2.2 (by have h_ := LMc15.out; simp only [List.length_singleton]; omega) (by simp) ?_ (ops := #[]) (hw := by rfl) (hs := (eval_of e34)) (hx := (eval_of e36)))
       clear HM
       intro v313 w29 HM
       exact hK.out _ _ ⟨.slice Xo28 [(⟨(rd_T67 x307002_1 0).f0, (rd_T67 x307002_1 0).f1, 0⟩ : S67)].length ko28, v313, PUT ha 7 hb, (((HM.sF 3 rfl (hoff 10 rfl)).iF 3 rfl (hoff 10 rfl)).iT 5 rfl (hon 6 rfl)).pick [0, 1, 2, 3, 4, 5]⟩
      refine SZ ?_ ?_
      ·rintro b a w ⟨v19, v313, ha, HM⟩ hb hon hoff K hK
       replace ha := Aside0.mk ha
       have e30 := PE ha 0 hon
       exact VL (.pointer (some ⟨g, 0, none⟩)) (hK.out _ _ ⟨v19, v313, PUT ha 8 hb, HM⟩)
      refine SZ ?_ ?_
      ·rintro b a w ⟨v19, v313, ha, HM⟩ hb hon hoff K hK
       replace ha := Aside0.mk ha
       have e38 := PE ha 8 hon
       exact VL (.pointer (some ⟨g, 3, none⟩)) (hK.out _ _ ⟨v19, v313, PUT ha 9 hb, HM⟩)
      refine SZ ?_ ?_
      ·rintro b a w ⟨v19, v313, ha, HM⟩ hb hon hoff K hK
       replace ha := Aside0.mk ha
       replace HM := HM.sT 1 rfl (hon 7 rfl)
       replace HM := HM.sF 3 rfl hb
       obtain ⟨Xo30, ko30, rfl⟩ := HM.rd 1 rfl
       have e39 := PE ha 9 hon
       have e37 := PE ha 7 hon
       refine ST (eS 3 39 3 [.slice Xo30 (x307003_1 ++ [(⟨(rd_T67 x307002_1 0).f0, (rd_T67 x307002_1 0).f1, 0⟩ : S67)]).length ko30] HM rfl rfl ?_ (hp := (eval_of e39)) (hx := (by rw [eval_of e37]; rfl)))
       clear HM
       intro w31 HM
       exact hK.out _ _ ⟨v19, .slice Xo30 (x307003_1 ++ [(⟨(rd_T67 x307002_1 0).f0, (rd_T67 x307002_1 0).f1, 0⟩ : S67)]).length ko30, PUS ha, (HM.iT 1 rfl (hon 7 rfl)).pick [0, 1, 2, 3, 4, 5]⟩
      exact steps_nil
     rintro _ w32 ⟨v19, v313, rfl, HM⟩
     replace HM := HM.sT 1 rfl rfl
     replace HM := HM.sT 3 rfl rfl
     replace HM := HM.sT 5 rfl rfl
     simp only [putSel, if_true, Act.put, List.setIfInBounds_toArray, List.set_cons_zero, List.set_cons_succ, gt_iff_lt, ge_iff_le]
     have H' := Aside0.mk H
     clear H
     go_wp2
     go_roundg k1
     case measure => have := HK1.out; omega
     case rel => exact ⟨(x307000_1), (x307001_1), (y309), ((x307003_1 ++ [(⟨(rd_T67 x307002_1 0).f0, (rd_T67 x307002_1 0).f1, 0⟩ : S67)])), (x307004_1), (.slice Xo10 y309.length ko10), (v313), (u307004), H', ⟨by have := HK1.out; omega⟩, (MD HM).pick [0, 1, 2, 3]⟩
    ·have c13b0 : decide (1 < ((rd_T67 x307002_1 0).f2)) = false := decide_eq_false c13
     clear c13
     first|rw [c13b0]|(simp only [i64_w, i32_w]; rw [c13b0])|skip
     replace H := BN H; obtain ⟨t315, A33, H⟩ := H
     try go_wp2_with (first | ((with_reducible refine gC 82 rfl ?_); refine pC (some 42) rfl #[.string ((rd_T67 x307002_1 0).f0)] rfl Try.func82 (impl_Hash.calls k1 ((rd_T67 x307002_1 0).f0) t315 _ A33.out) ?_; rintro e w34 ⟨rfl, hd⟩; refine ⟨_, rfl, ?_⟩; replace HM := HM.drawn hd; clear hd) | ((with_reducible refine gN 5 rfl ?_); refine pB 5 3 [.int .i64 0] HM rfl ?_; clear HM; intro gb316 w35 HM) | ((with_reducible refine gS 5 rfl ?_); refine pS 5 5 0 [.int .i64 t315] HM rfl rfl ?_; clear HM; intro w36 HM))
     replace H := BN H; obtain ⟨t317, A37, H⟩ := H
     replace H := GD H; obtain ⟨c38, H⟩ := H
     have LMc38 := Aside0.mk c38
     clear c38
     replace H := BLt H; obtain ⟨y320, Ny320, H⟩ := H
     replace Ny320 := Aside0.mk Ny320
     obtain ⟨Xo48, ko48, rfl⟩ := HM.rd 2 rfl
     refine RGN 13 [0, 1, 2, 3, 4, 5, 6, 7, 8, 9, 10, 11, 12] (fun a0 b a w' => ∃ (v318 : Value) (v43 : Value) (v321 : Value), a = putSel a0 b [(0, 43, .pointer (some ⟨g, 0, none⟩)), (1, 44, .pointer (some ⟨g, 0, none⟩)), (2, 45, .pointer (some ⟨g, 0, none⟩)), (3, 46, .pointer (some ⟨g, 4, none⟩)), (4, 47, .slice Xo48 x307004_1.length ko48), (5, 48, .func (.func 114) #[] #[.pointer (some ⟨gb316, 0, none⟩)]), (6, 49, v318), (7, 50, .int .i64 t315), (8, 51, v43), (9, 52, v321), (10, 53, .pointer (some ⟨g, 0, none⟩)), (11, 54, .pointer (some ⟨g, 4, none⟩))] ∧ Mem w0 F w' [row k67 67 (.slice Xo10 y309.length ko10) y309, row k67 67 u307003 x307003_1, sel (b 9) (row (Kd.int .i64) 3 v321 y320) (sel (b 6) (row (Kd.int .i64) 3 v318 t317) (row (Kd.int .i64) 3 (.slice Xo48 x307004_1.length ko48) x307004_1)), sel (b 12) (box 71 g [.int .i64 x307000_1, .int .i64 x307001_1, .slice Xo10 y309.length ko10, u307003, v321]) (box 71 g [.int .i64 x307000_1, .int .i64 x307001_1, .slice Xo10 y309.length ko10, u307003, .slice Xo48 x307004_1.length ko48]), box 67 gb308 [.string ((rd_T67 x307002_1 0).f0), .string ((rd_T67 x307002_1 0).f1), .int .i64 ((rd_T67 x307002_1 0).f2)], box 3 gb316 [.int .i64 t315], sel (b 8) (rowR (Kd.int .i64) 3 v43 [t315]) (emp)]) impl_Three_evictSmall.tab8 impl_Three_evictSmall.bits8 ?_ ?_ ?_
     ·exact ⟨.bool false, .bool false, .bool false, PS0' rfl _, (HM.drew.ems 1).pick [0, 1, 2, 3, 4, 5, 6]⟩
     ·clear HM
      refine SZ ?_ ?_
      ·rintro b a w ⟨v318, v43, v321, ha, HM⟩ hb hon hoff K hK
       replace ha := Aside0.mk ha
       have e0 := PG ha 0
       exact VL (.pointer (some ⟨g, 0, none⟩)) (hK.out _ _ ⟨v318, v43, v321, PUT ha 0 hb, HM⟩)
      refine SZ ?_ ?_
      ·rintro b a w ⟨v318, v43, v321, ha, HM⟩ hb hon hoff K hK
       replace ha := Aside0.mk ha
       have e0 := PG ha 0
       exact VL (.pointer (some ⟨g, 0, none⟩)) (hK.out _ _ ⟨v318, v43, v321, PUT ha 1 hb, HM⟩)
      refine SZ ?_ ?_
      ·rintro b a w ⟨v318, v43, v321, ha, HM⟩ hb hon hoff K hK
       replace ha := Aside0.mk ha
       have e44 := PE ha 1 hon
       exact VL (.pointer (some ⟨g, 0, none⟩)) (hK.out _ _ ⟨v318, v43, v321, PUT ha 2 hb, HM⟩)
      refine SZ ?_ ?_
      ·rintro b a w ⟨v318, v43, v321, ha, HM⟩ hb hon hoff K hK
       replace ha := Aside0.mk ha
       have e45 := PE ha 2 hon
       exact VL (.pointer (some ⟨g, 4, none⟩)) (hK.out _ _ ⟨v318, v43, v321, PUT ha 3 hb, HM⟩)
      refine SZ ?_ ?_
      ·rintro b a w ⟨v318, v43, v321, ha, HM⟩ hb hon hoff K hK
       replace ha := Aside0.mk ha
       have HZ := HM
       replace HM := HM.sF 3 rfl (hoff 12 rfl)
       obtain ⟨_,_,_,_,_,_,_,_,_,_⟩ := bk5 (HM.bx 3 rfl)
       have e46 := PE ha 3 hon
       exact VL (.slice Xo48 x307004_1.length ko48) (hK.out _ _ ⟨v318, v43, v321, PUT ha 4 hb, HZ⟩)
      refine SZ ?_ ?_
      ·rintro b a w ⟨v318, v43, v321, ha, HM⟩ hb hon hoff K hK
       replace ha := Aside0.mk ha
       have e5 := PG ha 5
       exact VL (.func (.func 114) #[] #[.pointer (some ⟨gb316, 0, none⟩)]) (hK.out _ _ ⟨v318, v43, v321, PUT ha 5 hb, HM⟩)
      refine SZ ?_ ?_
      ·rintro b a w ⟨v318, v43, v321, ha, HM⟩ hb hon hoff K hK
       replace ha := Aside0.mk ha
       replace HM := (HM.sF 2 rfl (hoff 9 rfl)).sF 2 rfl hb
       obtain ⟨P_, hq_, hn_, fin_⟩ := HM.man 2 5 rfl rfl
       have e47 := PE ha 4 hon
       have e48 := PE ha 5 hon
       refine ST (eC (some 49) rfl #[.slice Xo48 x307004_1.length ko48, .func (.func 114) #[] #[.pointer (some ⟨gb316, 0, none⟩)]] rfl Try.func83 (slices_DeleteFunc_int_int.calls P_ (.slice Xo48 x307004_1.length ko48) x307004_1 114 Try.f114 gb316 t315 t317 (bare _) _ (bare_below _) hq_ (impl_Three_evictSmall.clo114 _ _) (HM.bx 5 rfl) hn_ A37.out) ?_ (hargs := by (simp only [List.map_toArray, List.map_cons, List.map_nil, evc, eval_of e47, eval_of e48]) <;> rfl))
       rintro e w50 ⟨v318, rfl, hQ_, hB_, hK_⟩
       refine ⟨_, rfl, ?_⟩
       replace HM := fin_ _ _ _ hQ_ hB_ hK_
       clear hQ_ hB_ hK_ hq_ hn_ fin_ P_
       exact hK.out _ _ ⟨v318, v43, v321, PUT ha 6 hb, (HM.iF 2 rfl (hoff 9 rfl)).pick [0, 1, 2, 3, 4, 5, 6]⟩
      refine SZ ?_ ?_
      ·rintro b a w ⟨v318, v43, v321, ha, HM⟩ hb hon hoff K hK
       replace ha := Aside0.mk ha
       obtain ⟨_,_⟩ := bk1 (HM.bx 5 rfl)
       have e5 := PG ha 5
       exact VL (.int .i64 t315) (hK.out _ _ ⟨v318, v43, v321, PUT ha 7 hb, HM⟩)
      refine SZ ?_ ?_
      ·rintro b a w ⟨v318, v43, v321, ha, HM⟩ hb hon hoff K hK
       replace ha := Aside0.mk ha
       have e50 := PE ha 7 hon
       refine ST (eL 51 (Kd.int .i64) 3 [t315] [.int .i64 t315] (Reps.one (show Kd.M (Kd.int .i64) _ _ _ t315 [.int .i64 t315] from rfl) (Reps.none _ _)) HM rfl ?_)
       clear HM
       intro v43 w52 HM
       exact hK.out _ _ ⟨v318, v43, v321, PUT ha 8 hb, (HM).pick [0, 1, 2, 3, 4, 5, 7]⟩
      refine SZ ?_ ?_
      ·rintro b a w ⟨v318, v43, v321, ha, HM⟩ hb hon hoff K hK
       replace ha := Aside0.mk ha
       replace HM := (HM.sF 2 rfl hb).sT 2 rfl (hon 6 rfl)
       replace HM := HM.sT 6 rfl (hon 8 rfl)
       obtain ⟨Xo53, ko53, rfl⟩ := HM.rdR 6 rfl
       have e49 := PE ha 6 hon
       have e51 := PE ha 8 hon
       refine ST (eAq 2 (.tmp 49) (.tmp 51) 69 3 (Kd.int .i64) v318 t317 [t315] Xo53 ([t315].length) ko53 HM rfl Try.underlying69 info3 rfl (HM.CR 6 rfl).2.2 (by have h_ := LMc38.out; simp only [List.length_singleton]; omega) (by simp) ?_ (ops := #[]) (hw := by rfl) (hs := (eval_of e49)) (hx := (eval_of e51)))
       clear HM
       intro v321 w54 HM
       replace HM := HM.nmQ 2 rfl Ny320.out
       exact hK.out _ _ ⟨v318, .slice Xo53 [t315].length ko53, v321, PUT ha 9 hb, (((HM.sF 3 rfl (hoff 12 rfl)).iF 3 rfl (hoff 12 rfl)).iT 6 rfl (hon 8 rfl)).pick [0, 1, 2, 3, 4, 5, 6]⟩
      refine SZ ?_ ?_
      ·rintro b a w ⟨v318, v43, v321, ha, HM⟩ hb hon hoff K hK
       replace ha := Aside0.mk ha
       have e43 := PE ha 0 hon
       exact VL (.pointer (some ⟨g, 0, none⟩)) (hK.out _ _ ⟨v318, v43, v321, PUT ha 10 hb, HM⟩)
      refine SZ ?_ ?_
      ·rintro b a w ⟨v318, v43, v321, ha, HM⟩ hb hon hoff K hK
       replace ha := Aside0.mk ha
       have e53 := PE ha 10 hon
       exact VL (.pointer (some ⟨g, 4, none⟩)) (hK.out _ _ ⟨v318, v43, v321, PUT ha 11 hb, HM⟩)
      refine SZ ?_ ?_
      ·rintro b a w ⟨v318, v43, v321, ha, HM⟩ hb hon hoff K hK
       replace ha := Aside0.mk ha
       replace HM := HM.sT 2 rfl (hon 9 rfl)
       replace HM := HM.sF 3 rfl hb
       obtain ⟨Xo55, ko55, rfl⟩ := HM.rd 2 rfl
       have e54 := PE ha 11 hon
       have e52 := PE ha 9 hon
       refine ST (eS 3 54 4 [.slice Xo55 y320.length ko55] HM rfl rfl ?_ (hp := (eval_of e54)) (hx := (by rw [eval_of e52]; rfl)))
       clear HM
       intro w56 HM
       exact hK.out _ _ ⟨v318, v43, .slice Xo55 y320.length ko55, PUS ha, (HM.iT 2 rfl (hon 9 rfl)).pick [0, 1, 2, 3, 4, 5, 6]⟩
      exact steps_nil
     rintro _ w57 ⟨v318, v43, v321, rfl, HM⟩
     replace HM := HM.sT 2 rfl rfl
     replace HM := HM.sT 3 rfl rfl
     replace HM := HM.sT 6 rfl rfl
     simp only [putSel, if_true, Act.put, List.setIfInBounds_toArray, List.set_cons_zero, List.set_cons_succ, gt_iff_lt, ge_iff_le]
     try go_wp2
     replace H := BN H; obtain ⟨t323, A58, H⟩ := H
     obtain ⟨Xo62, ko62, rfl⟩ := HM.rd 2 rfl
     refine RGN 8 [0, 1, 2, 3, 4, 5, 6, 7] (fun a0 b a w' => a = putSel a0 b [(0, 55, .pointer (some ⟨g, 0, none⟩)), (1, 56, .pointer (some ⟨g, 0, none⟩)), (2, 57, .pointer (some ⟨g, 4, none⟩)), (3, 58, .slice Xo62 y320.length ko62), (4, 59, .int .i64 (y320.length : Int)), (5, 60, .pointer (some ⟨g, 0, none⟩)), (6, 61, .int .i64 t323), (7, 62, .bool (decide ((y320.length : Int) > t323)))] ∧ Mem w0 F w' [row k67 67 (.slice Xo10 y309.length ko10) y309, row k67 67 u307003 x307003_1, row (Kd.int .i64) 3 (.slice Xo62 y320.length ko62) y320, box 71 g [.int .i64 x307000_1, .int .i64 x307001_1, .slice Xo10 y309.length ko10, u307003, .slice Xo62 y320.length ko62], box 67 gb308 [.string ((rd_T67 x307002_1 0).f0), .string ((rd_T67 x307002_1 0).f1), .int .i64 ((rd_T67 x307002_1 0).f2)], box 3 gb316 [.int .i64 t315], rowR (Kd.int .i64) 3 v43 [t315]]) impl_Three_evictSmall.tab9 impl_Three_evictSmall.bits9 ?_ ?_ ?_
     ·exact ⟨PS0' rfl _, (HM.drew).pick [0, 1, 2, 3, 4, 5, 6]⟩
     ·clear HM
      refine SY ?_ ?_
      ·intro b a w ha HM hb hon hoff K hK
       have e0 := PG ha 0
       exact VL (.pointer (some ⟨g, 0, none⟩)) (hK.out _ _ ⟨PUT ha 0 hb, HM⟩)
      refine SY ?_ ?_
      ·intro b a w ha HM hb hon hoff K hK
       have e55 := PE ha 0 hon
       exact VL (.pointer (some ⟨g, 0, none⟩)) (hK.out _ _ ⟨PUT ha 1 hb, HM⟩)
      refine SY ?_ ?_
      ·intro b a w ha HM hb hon hoff K hK
       have e56 := PE ha 1 hon
       exact VL (.pointer (some ⟨g, 4, none⟩)) (hK.out _ _ ⟨PUT ha 2 hb, HM⟩)
      refine SY ?_ ?_
      ·intro b a w ha HM hb hon hoff K hK
       obtain ⟨_,_,_,_,_,_,_,_,_,_⟩ := bk5 (HM.bx 3 rfl)
       have e57 := PE ha 2 hon
       exact VL (.slice Xo62 y320.length ko62) (hK.out _ _ ⟨PUT ha 3 hb, HM⟩)
      refine SY ?_ ?_
      ·intro b a w ha HM hb hon hoff K hK
       have e58 := PE ha 3 hon
       exact VL (.int .i64 (y320.length : Int)) (hK.out _ _ ⟨PUT ha 4 hb, HM⟩)
      refine SY ?_ ?_
      ·intro b a w ha HM hb hon hoff K hK
       have e0 := PG ha 0
       exact VL (.pointer (some ⟨g, 0, none⟩)) (hK.out _ _ ⟨PUT ha 5 hb, HM⟩)
      refine SY ?_ ?_
      ·intro b a w ha HM hb hon hoff K hK
       have e60 := PE ha 5 hon
       refine ST (eC (some 61) rfl #[.pointer (some ⟨g, 0, none⟩)] rfl Try.func75 (impl_Three_ghosts.calls g x307000_1 x307001_1 _ _ _ t323 _ (HM.bx 3 rfl) A58.out) ?_ (hargs := by (simp only [List.map_toArray, List.map_cons, List.map_nil, evc, eval_of e60]) <;> rfl))
       rintro e w64 ⟨rfl, nd_, rfl⟩
       refine ⟨_, rfl, ?_⟩
       replace HM := HM.drewN nd_
       exact hK.out _ _ ⟨PUT ha 6 hb, (HM).pick [0, 1, 2, 3, 4, 5, 6]⟩
      refine SY ?_ ?_
      ·intro b a w ha HM hb hon hoff K hK
       have e59 := PE ha 4 hon
       have e61 := PE ha 6 hon
       exact VL (.bool (decide ((y320.length : Int) > t323))) (hK.out _ _ ⟨PUT ha 7 hb, HM⟩)
      exact steps_nil
     rintro _ w65 ⟨rfl, HM⟩
     simp only [putSel, if_true, Act.put, List.setIfInBounds_toArray, List.set_cons_zero, List.set_cons_succ, gt_iff_lt, ge_iff_le]
     go_upto_if 62 with (fail)
     replace H := IT H; rcases H with ⟨c66, H⟩ | ⟨c66, H⟩
     ·have c66b0 : decide (t323 < (y320.length : Int)) = true := decide_eq_true c66
      clear c66
      first|rw [c66b0]|(simp only [i64_w, i32_w]; rw [c66b0])|skip
      replace H := GD H; obtain ⟨c68, H⟩ := H
      have c68b0 := eq_true c68
      have c68b1 : decide (1 ≤ (y320.length : Int)) = true := decide_eq_true c68
      clear c68
      simp only [Option.some.injEq, Prod.mk.injEq] at H
      obtain ⟨rfl, rfl, rfl, rfl, rfl, rfl, rfl⟩ := H
      obtain ⟨_,_,_,_,_,_,_,_,_,_⟩ := bk5 (HM.bx 3 rfl)
      go_wp2_with (first | ((with_reducible refine gate_sl (t := 69) rfl ?_); refine pD 2 69 3 (Kd.int .i64) _ _ 1 y320 Xo62 ko62 HM rfl Try.underlying69 info3 rfl (fun _ _ h => h) (by omega) (by have h_ : (1 : Int) ≤ ((y320.length : Int) : Int) := of_decide_eq_true AS; first | exact h_ | (have e_ := (HM.C 2 rfl).1; omega)) ?_; clear HM; intro v325 HM; obtain ⟨Xo69, ko69, rfl⟩ := HM.rd 2 rfl) | ((with_reducible refine gS 70 rfl ?_); refine pS 3 70 4 [.slice Xo69 (y320.drop (1 : Int).toNat).length ko69] HM rfl rfl ?_; clear HM; intro w70 HM; obtain ⟨_,_,_,_,_,_⟩ := bk3 (HM.bx 4 rfl)))
      go_ret2
      first | exact ⟨_, _, _, ER, (MD HM).pick [0, 1, 2, 3]⟩ | exact ⟨ER, _, _, _, (MD HM).pick [0, 1, 2, 3]⟩
     ·have c66b0 : decide (t323 < (y320.length : Int)) = false := decide_eq_false c66
      clear c66
      first|rw [c66b0]|(simp only [i64_w, i32_w]; rw [c66b0])|skip
      simp only [Option.some.injEq, Prod.mk.injEq] at H
      obtain ⟨rfl, rfl, rfl, rfl, rfl, rfl, rfl⟩ := H
      obtain ⟨_,_,_,_,_,_⟩ := bk3 (HM.bx 4 rfl)
      go_wp2
      go_ret2
      first | exact ⟨_, _, _, ER, (MD HM).pick [0, 1, 2, 3]⟩ | exact ⟨ER, _, _, _, (MD HM).pick [0, 1, 2, 3]⟩
   ·replace c4 : ¬ ((x307002_1.length : Int) > 0) := c4
    have c4b0 : decide (0 < (x307002_1.length : Int)) = false := decide_eq_false c4
    have c4b1 : decide (0 < x307002_1.length) = false := decide_eq_false (by omega)
    have c4b9 : decide (0 < x307002_1.length) = false := decide_eq_false (by omega)
    clear c4
    first|rw [c4b0]|rw [c4b9]|(simp only [i64_w, i32_w]; rw [c4b0])|skip
    simp only [Option.some.injEq, Prod.mk.injEq] at H
    obtain ⟨rfl, rfl, rfl, rfl, rfl, rfl, rfl⟩ := H
    go_wp2
    go_ret2
    first | exact ⟨_, _, _, ER, (MD HM).pick [0, 1, 2, 3]⟩ | exact ⟨ER, _, _, _, (MD HM).pick [0, 1, 2, 3]⟩
end Go.Proofs.Ytlokjgngjgbpmaa.G
