/- Part 3 of the claim FnRoom, merged by pack.py (this session's program) out of: the print's words, cut to what is needed; texts that gen.py printed (it runs the kit's print in place); texts of this session. -/
import Derived.Test.YtdeijmofaapgdaaKFnRoom1
import Derived.Test.YtdeijmofaapgdaaKFnRoom2
namespace Go.Proofs.Ytdeijmofaapgdaa.Mm
end Go.Proofs.Ytdeijmofaapgdaa.Mm
namespace Go.Proofs.Ytdeijmofaapgdaa.Sh
end Go.Proofs.Ytdeijmofaapgdaa.Sh
namespace Go.Proofs.Ytdeijmofaapgdaa.G
open Go.RowKit Go.Proofs.YtdeijmofaapgdaaW.PrintWords Go.Proofs.YtdeijmofaapgdaaW.PrintLast Go.Proofs.YtdeijmofaapgdaaW.PrintMore Go.Proofs.Ytdeijmofaapgdaa.Sh
attribute [local go_sem] max2_int min2_int max_two min_two max_three min_three max_four min_four
set_option linter.unusedVariables false
set_option linter.unusedSimpArgs false
open Go.Proofs.Ytdeijmofaapgdaa.Mm
def spec_l10At.l0 : Nat → ByteArray → List (S95) → Int → Int → Option (Int)
 | 0, _, _, _, _ => none
 | k + 1, x1, x7, x8, x9 => if x9 < x8 then (if 0 ≤ x9 then (if x9 < (x7.length : Int) then (if ((rd_T95 x7 x9).f0).toList = x1.toList then (some x9) else (spec_l10At.l0 k x1 x7 x8 (wrap64 (x9 + 1)))) else (none)) else (none)) else (some (-1))
def spec_l10At.f (k : Nat) (l0 : List (S95)) (a1 : ByteArray) : Option (Int) := spec_l10At.l0 k a1 l0 (l0.length : Int) 0
theorem spec_l10At.mono_l : ∀ k, (∀ y0 y1 y2 y3, LeO (spec_l10At.l0 k y0 y1 y2 y3) (spec_l10At.l0 (k + 1) y0 y1 y2 y3))
 | 0 => fun _ _ _ _ r h => by simp [spec_l10At.l0] at h
 | k + 1 => by
  have ih0 := spec_l10At.mono_l k
  ·intro y0 y1 y2 y3
   unfold spec_l10At.l0
   repeat' first | (with_reducible first | exact ih0 _ _ _ _ | exact LeO.refl _ | exact LeO.none _ | refine LeO.ite ?_ ?_ | refine LeO.bind ?_ (fun _ => ?_)) | exact ih0 _ _ _ _ | exact LeO.none _ | refine LeO.ite ?_ ?_ | refine LeO.bind ?_ (fun _ => ?_)
theorem spec_l10At.mono : ∀ a0 a1 k, LeO (spec_l10At.f k a0 a1) (spec_l10At.f (k + 1) a0 a1) := by
 intro a0 a1 k
 have ih0 := spec_l10At.mono_l k
 unfold spec_l10At.f
 repeat' first | (with_reducible first | exact ih0 _ _ _ _ | exact LeO.refl _ | exact LeO.none _ | refine LeO.ite ?_ ?_ | refine LeO.bind ?_ (fun _ => ?_)) | exact ih0 _ _ _ _ | exact LeO.none _ | refine LeO.ite ?_ ?_ | refine LeO.bind ?_ (fun _ => ?_)
set_option maxHeartbeats 8000000 in
set_option maxRecDepth 100000 in
theorem spec_l10At.calls (k : Nat) (A0 : Option Addr) (c0 : Nat) (l0 : List (S95)) (a1 : ByteArray) (r : Int) (w : World) (hr0 : Kd.C k95 w A0 l0.length l0) (hc0 : l0.length ≤ c0) (h : spec_l10At.f k l0 a1 = some r) :
  Calls Try.prog 66 #[.slice A0 l0.length c0, .string a1] w fun e w' => e = .returned (.int .i64 r) ∧ Mem w [] w' [] := by
 have hu95 := Try.underlying95
 have HR0 := Aside0.mk hr0
 have HC0 := Aside0.mk hc0
 clear hr0 hc0
 have HM := Mem.nil w
 have H := h
 clear h
 unfold spec_l10At.f at H
 go_enter Try.func66, Try.ntmps66
 have H' := Aside0.mk H
 clear H
 go_wp2
 go_loopg [9] k (fun kq v9 w' => ∃ (x9_1 : Int), v9 = .int .i64 x9_1 ∧ Aside0 (spec_l10At.l0 kq a1 l0 (l0.length : Int) x9_1 = some r) ∧ Aside0 (kq ≤ k) ∧ Mem w [] w' [])
 case atStart => exact ⟨(0), RS, H', ⟨Nat.le_refl _⟩, (MD HM).pick []⟩
 case round =>
  clear H' HM
  obtain ⟨x9_1, rfl, HA, HK1, HM⟩ := hrel
  cases gk with
  | zero => exact absurd HA.out (by simp [spec_l10At.l0])
  | succ k1 =>
   have H := HA.out
   clear HA
   simp only [spec_l10At.l0] at H
   go_upto_if 10 with (fail)
   replace H := IT H; rcases H with ⟨c3, H⟩ | ⟨c3, H⟩
   ·have c3b0 : decide (x9_1 < (l0.length : Int)) = true := decide_eq_true c3
    clear c3
    (first | rw [c3b0] | (simp only [i64_w, i32_w]; rw [c3b0]) | skip)
    replace H := GD H; obtain ⟨c4, H⟩ := H
    have c4b0 : decide (0 ≤ x9_1) = true := decide_eq_true c4
    clear c4
    replace H := GD H; obtain ⟨c5, H⟩ := H
    have c5b0 : decide (x9_1 < (l0.length : Int)) = true := decide_eq_true c5
    clear c5
    have p114 : 0 ≤ (x9_1 : Int) := of_decide_eq_true AS
    have q114 : (x9_1 : Int) < (l0.length : Int) := of_decide_eq_true AS
    obtain ⟨ad114, e114, hx114_0, hx114_1, hx114_2⟩ := at_T95 (HM.came HR0.out) x9_1 p114 q114
    cases e114
    replace p114 := eq_true p114
    replace q114 := eq_true q114
    go_upto_if 17 with (first | ((with_reducible refine gate_dst (N := 6) rfl ?_); refine pB 6 95 [.string (⟨#[]⟩ : ByteArray), .string (⟨#[]⟩ : ByteArray), .int .i64 0] HM rfl ?_; clear HM; intro gb115 w6 HM) | ((with_reducible refine gate_st (p := 6) rfl ?_); refine pS 0 6 0 [.string ((rd_T95 l0 x9_1).f0), .string ((rd_T95 l0 x9_1).f1), .int .i64 ((rd_T95 l0 x9_1).f2)] HM rfl rfl ?_; clear HM; intro w7 HM; obtain ⟨hcz8_0, hcz8_1, hcz8_2, hfz8_0, hfz8_1, hfz8_2⟩ := bk3 (HM.bx 0 rfl)))
    replace HM := nzM HM
    replace H := IT H; rcases H with ⟨c9, H⟩ | ⟨c9, H⟩
    ·have c9b0 : (((rd_T95 l0 x9_1).f0).toList == a1.toList) = true := beq_iff_eq.mpr c9
     have c9b1 : (((rd_T95 l0 x9_1).f0).toList != a1.toList) = false := bne_eq_false_iff_eq.mpr c9
     clear c9
     (first | rw [c9b0] | (simp only [i64_w, i32_w]; rw [c9b0]) | skip)
     obtain rfl := Option.some.inj H
     go_wp2
     go_ret
     exact ⟨ER, (MD HM).pick []⟩
    ·have c9b0 : (((rd_T95 l0 x9_1).f0).toList == a1.toList) = false := beq_eq_false_iff_ne.mpr c9
     have c9b1 : (((rd_T95 l0 x9_1).f0).toList != a1.toList) = true := bne_iff_ne.mpr c9
     (first | rw [c9b0] | (simp only [i64_w, i32_w]; rw [c9b0]) | skip)
     have H' := Aside0.mk H
     clear H
     go_wp2
     go_roundg k1
     case measure => have := HK1.out; omega
     case rel => exact ⟨(wrap64 (x9_1 + 1)), RS, H', ⟨by have := HK1.out; omega⟩, (MD HM).pick []⟩
   ·have c3b0 : decide (x9_1 < (l0.length : Int)) = false := decide_eq_false c3
    clear c3
    (first | rw [c3b0] | (simp only [i64_w, i32_w]; rw [c3b0]) | skip)
    obtain rfl := Option.some.inj H
    go_wp2
    go_ret
    exact ⟨ER, (MD HM).pick []⟩
end Go.Proofs.Ytdeijmofaapgdaa.G

namespace Go.Proofs.Ytdeijmofaapgdaa.G
open Go.RowKit Go.Proofs.YtdeijmofaapgdaaW.PrintWords Go.Proofs.YtdeijmofaapgdaaW.PrintLast Go.Proofs.YtdeijmofaapgdaaW.PrintMore Go.Proofs.Ytdeijmofaapgdaa.Sh
attribute [local go_sem] max2_int min2_int max_two min_two max_three min_three max_four min_four
set_option linter.unusedVariables false
set_option linter.unusedSimpArgs false
def spec_l01Num.f (a0 : Int) : Option (Bool) := if a0 ≥ 0 then (some (decide (a0 ≤ 4294967295))) else (some false)
set_option maxHeartbeats 8000000 in
set_option maxRecDepth 100000 in
theorem spec_l01Num.calls (a0 : Int) (r : Bool) (w : World) (h : spec_l01Num.f a0 = some r) :
  Calls Try.prog 67 #[.int .i64 a0] w fun e w' => e = .returned (.bool r) ∧ Drawn0 w w' := by
 have H : (if a0 ≥ 0 then (some (decide (a0 ≤ 4294967295))) else (some false)) = some r := h
 clear h
 by_cases c2 : a0 ≥ 0
 ·rw [if_pos c2] at H
  have c2b0 : decide (0 ≤ a0) = true := decide_eq_true c2
  clear c2
  obtain rfl := Option.some.inj H
  go_enter Try.func67, Try.ntmps67
  go_wp2
  go_ret
  exact ⟨by first | rfl | (simp; done) | (simp [*]; done), DR⟩
 ·rw [if_neg c2] at H
  have c2b0 : decide (0 ≤ a0) = false := decide_eq_false c2
  clear c2
  obtain rfl := Option.some.inj H
  go_enter Try.func67, Try.ntmps67
  go_wp2
  go_ret
  exact ⟨by first | rfl | (simp; done) | (simp [*]; done), DR⟩
def spec_l03Has.l0 : Nat → Int → List Int → Int → Int → Option (Bool)
 | 0, _, _, _, _ => none
 | k + 1, x1, x7, x8, x9 => if x9 < x8 then (if 0 ≤ x9 then (if x9 < (x7.length : Int) then (if (rd x7 x9) = x1 then (some true) else (spec_l03Has.l0 k x1 x7 x8 (wrap64 (x9 + 1)))) else (none)) else (none)) else (some false)
def spec_l03Has.f (k : Nat) (l0 : List Int) (a1 : Int) : Option (Bool) := spec_l03Has.l0 k a1 l0 (l0.length : Int) 0
theorem spec_l03Has.mono_l : ∀ k, (∀ y0 y1 y2 y3, LeO (spec_l03Has.l0 k y0 y1 y2 y3) (spec_l03Has.l0 (k + 1) y0 y1 y2 y3))
 | 0 => fun _ _ _ _ r h => by simp [spec_l03Has.l0] at h
 | k + 1 => by
  have ih0 := spec_l03Has.mono_l k
  ·intro y0 y1 y2 y3
   unfold spec_l03Has.l0
   repeat' first | (with_reducible first | exact ih0 _ _ _ _ | exact LeO.refl _ | exact LeO.none _ | refine LeO.ite ?_ ?_ | refine LeO.bind ?_ (fun _ => ?_)) | exact ih0 _ _ _ _ | exact LeO.none _ | refine LeO.ite ?_ ?_ | refine LeO.bind ?_ (fun _ => ?_)
theorem spec_l03Has.mono : ∀ a0 a1 k, LeO (spec_l03Has.f k a0 a1) (spec_l03Has.f (k + 1) a0 a1) := by
 intro a0 a1 k
 have ih0 := spec_l03Has.mono_l k
 unfold spec_l03Has.f
 repeat' first | (with_reducible first | exact ih0 _ _ _ _ | exact LeO.refl _ | exact LeO.none _ | refine LeO.ite ?_ ?_ | refine LeO.bind ?_ (fun _ => ?_)) | exact ih0 _ _ _ _ | exact LeO.none _ | refine LeO.ite ?_ ?_ | refine LeO.bind ?_ (fun _ => ?_)
set_option maxHeartbeats 8000000 in
set_option maxRecDepth 100000 in
theorem spec_l03Has.calls (k : Nat) (A0 : Option Addr) (c0 : Nat) (l0 : List Int) (a1 : Int) (r : Bool) (w : World) (hr0 : Kd.C (Kd.int .i64) w A0 l0.length l0) (hc0 : l0.length ≤ c0) (h : spec_l03Has.f k l0 a1 = some r) :
  Calls Try.prog 68 #[.slice A0 l0.length c0, .int .i64 a1] w fun e w' => e = .returned (.bool r) ∧ Drawn0 w w' := by
 have HR0 := Aside0.mk hr0
 have HC0 := Aside0.mk hc0
 clear hr0 hc0
 have H : (spec_l03Has.l0 k a1 l0 (l0.length : Int) 0) = some r := h
 clear h
 have H' := Aside0.mk H
 clear H
 go_enter Try.func68, Try.ntmps68
 go_wp2
 go_loopg [9] k (fun kq v9 w' => ∃ (x9_1 : Int), v9 = .int .i64 x9_1 ∧ Aside0 (spec_l03Has.l0 kq a1 l0 (l0.length : Int) x9_1 = some r) ∧ Aside0 (kq ≤ k) ∧ Drawn0 w w')
 case atStart => exact ⟨(0), RS, H', ⟨Nat.le_refl _⟩, DR⟩
 case round =>
  clear H'
  try clear p2
  obtain ⟨x9_1, rfl, HA, HK1, ⟨m1, rfl⟩⟩ := hrel
  cases gk with
  | zero => exact absurd HA.out (by simp [spec_l03Has.l0])
  | succ k1 =>
   have H := HA.out
   clear HA
   simp only [spec_l03Has.l0] at H
   by_cases c3 : x9_1 < (l0.length : Int)
   ·rw [if_pos c3] at H
    have c3b0 : decide (x9_1 < (l0.length : Int)) = true := decide_eq_true c3
    clear c3
    by_cases c4 : 0 ≤ x9_1
    ·rw [if_pos c4] at H
     have c4b0 : decide (0 ≤ x9_1) = true := decide_eq_true c4
     clear c4
     by_cases c5 : x9_1 < (l0.length : Int)
     ·rw [if_pos c5] at H
      have c5b0 : decide (x9_1 < (l0.length : Int)) = true := decide_eq_true c5
      clear c5
      by_cases c6 : (rd l0 x9_1) = a1
      ·rw [if_pos c6] at H
       have c6b0 : ((rd l0 x9_1) == a1) = true := beq_iff_eq.mpr c6
       have c6b1 : ((rd l0 x9_1) != a1) = false := bne_eq_false_iff_eq.mpr c6
       clear c6
       obtain rfl := Option.some.inj H
       have p117 : 0 ≤ (x9_1 : Int) := of_decide_eq_true AS
       have q117 : x9_1 < (l0.length : Int) := of_decide_eq_true AS
       obtain ⟨ad117, e117, hx117_0⟩ := Kd.at_int HR0.out x9_1 p117 q117
       cases e117
       replace p117 := eq_true p117
       replace q117 := eq_true q117
       go_wp2
       go_ret
       exact ⟨by first | rfl | (simp; done) | (simp [*]; done), DR⟩
      ·rw [if_neg c6] at H
       have c6b0 : ((rd l0 x9_1) == a1) = false := beq_eq_false_iff_ne.mpr c6
       have c6b1 : ((rd l0 x9_1) != a1) = true := bne_iff_ne.mpr c6
       have H' := Aside0.mk H
       clear H
       have p117 : 0 ≤ (x9_1 : Int) := of_decide_eq_true AS
       have q117 : x9_1 < (l0.length : Int) := of_decide_eq_true AS
       obtain ⟨ad117, e117, hx117_0⟩ := Kd.at_int HR0.out x9_1 p117 q117
       cases e117
       replace p117 := eq_true p117
       replace q117 := eq_true q117
       go_wp2
       go_roundg k1
       case measure => have := HK1.out; omega
       case rel => exact ⟨(wrap64 (x9_1 + 1)), RS, H', ⟨by have := HK1.out; omega⟩, DR⟩
     ·rw [if_neg c5] at H
      exact absurd H (by simp)
    ·rw [if_neg c4] at H
     exact absurd H (by simp)
   ·rw [if_neg c3] at H
    have c3b0 : decide (x9_1 < (l0.length : Int)) = false := decide_eq_false c3
    clear c3
    obtain rfl := Option.some.inj H
    go_wp2
    go_ret
    exact ⟨by first | rfl | (simp; done) | (simp [*]; done), DR⟩
end Go.Proofs.Ytdeijmofaapgdaa.G

namespace Go.Proofs.Ytdeijmofaapgdaa.G
open Go.RowKit Go.Proofs.YtdeijmofaapgdaaW.PrintWords Go.Proofs.YtdeijmofaapgdaaW.PrintLast Go.Proofs.YtdeijmofaapgdaaW.PrintMore Go.Proofs.Ytdeijmofaapgdaa.Sh
attribute [local go_sem] max2_int min2_int max_two min_two max_three min_three max_four min_four
set_option linter.unusedVariables false
set_option linter.unusedSimpArgs false
open Go.Proofs.Ytdeijmofaapgdaa.Mm
mutual
def spec_ThreeOk.j0 : Nat → Bool → Int → Int → List (S95) → List (S95) → List Int → Option (Bool)
 | 0, _, _, _, _, _, _ => none
 | k + 1, x39, x119000, x119001, x119002, x119003, x119004 => if x39 = true then (some false) else ((some (([] : List (S95)) : List (S95))).bind fun y122 => (if y122.length + x119002.length < 3518437208883 then ((some (y122 ++ x119002 : List (S95))).bind fun y125 => (if y125.length + x119003.length < 3518437208883 then ((some (y125 ++ x119003 : List (S95))).bind fun y128 => (spec_ThreeOk.l0 k y128 y128 (y128.length : Int) 0 x119000 x119001 x119002 x119003 x119004)) else (none))) else (none)))
def spec_ThreeOk.l0 : Nat → List (S95) → List (S95) → Int → Int → Int → Int → List (S95) → List (S95) → List Int → Option (Bool)
 | 0, _, _, _, _, _, _, _, _, _ => none
 | k + 1, x3, x47, x48, x49, x119000, x119001, x119002, x119003, x119004 => if x49 < x48 then (if 0 ≤ x49 then (if x49 < (x47.length : Int) then ((spec_ItemOk.f k ((rd_T95 x47 x49).f0) ((rd_T95 x47 x49).f1) ((rd_T95 x47 x49).f2)).bind fun t133 => (if t133 = true then ((spec_l10At.f k x3 ((rd_T95 x47 x49).f0)).bind fun t134 => (if t134 = x49 then (spec_ThreeOk.l0 k x3 x47 x48 (wrap64 (x49 + 1)) x119000 x119001 x119002 x119003 x119004) else (some false))) else (some false))) else (none)) else (none)) else (spec_ThreeOk.l1 k x119004 (x119004.length : Int) 0 x119000 x119001 x119002 x119003 x119004)
def spec_ThreeOk.l1 : Nat → List Int → Int → Int → Int → Int → List (S95) → List (S95) → List Int → Option (Bool)
 | 0, _, _, _, _, _, _, _, _ => none
 | k + 1, x67, x68, x69, x119000, x119001, x119002, x119003, x119004 => if x69 < x68 then (if 0 ≤ x69 then (if x69 < (x67.length : Int) then ((spec_l01Num.f (rd x67 x69)).bind fun t136 => (if t136 = true then (if x69 ≤ (x119004.length : Int) then ((spec_l03Has.f k (x119004.take (x69 : Int).toNat) (rd x67 x69)).bind fun t138 => (if t138 = true then (some false) else (spec_ThreeOk.l1 k x67 x68 (wrap64 (x69 + 1)) x119000 x119001 x119002 x119003 x119004))) else (none)) else (some false))) else (none)) else (none)) else (some true)
end
def spec_ThreeOk.f (k : Nat) (a0_0 : Int) (a0_1 : Int) (l0_2 : List (S95)) (l0_3 : List (S95)) (l0_4 : List Int) : Option (Bool) := (spec_l01In.f a0_0 1 60).bind fun t119 => (if t119 = true then ((spec_l01In.f a0_1 1 a0_0).bind fun t120 => (if t120 = true then (if (wrap64 ((l0_2.length : Int) + (l0_3.length : Int))) > a0_0 then (spec_ThreeOk.j0 k true a0_0 a0_1 l0_2 l0_3 l0_4) else ((spec_l10Ghosts.f a0_0 a0_1 l0_2 l0_3 l0_4).bind fun t121 => (spec_ThreeOk.j0 k (decide ((l0_4.length : Int) > t121)) a0_0 a0_1 l0_2 l0_3 l0_4))) else (spec_ThreeOk.j0 k true a0_0 a0_1 l0_2 l0_3 l0_4))) else (spec_ThreeOk.j0 k true a0_0 a0_1 l0_2 l0_3 l0_4))
theorem spec_ThreeOk.mono_l : ∀ k, (∀ y0 y1 y2 y3 y4 y5, LeO (spec_ThreeOk.j0 k y0 y1 y2 y3 y4 y5) (spec_ThreeOk.j0 (k + 1) y0 y1 y2 y3 y4 y5)) ∧ (∀ y0 y1 y2 y3 y4 y5 y6 y7 y8, LeO (spec_ThreeOk.l0 k y0 y1 y2 y3 y4 y5 y6 y7 y8) (spec_ThreeOk.l0 (k + 1) y0 y1 y2 y3 y4 y5 y6 y7 y8)) ∧ (∀ y0 y1 y2 y3 y4 y5 y6 y7, LeO (spec_ThreeOk.l1 k y0 y1 y2 y3 y4 y5 y6 y7) (spec_ThreeOk.l1 (k + 1) y0 y1 y2 y3 y4 y5 y6 y7))
 | 0 => ⟨fun _ _ _ _ _ _ r h => by simp [spec_ThreeOk.j0] at h, fun _ _ _ _ _ _ _ _ _ r h => by simp [spec_ThreeOk.l0] at h, fun _ _ _ _ _ _ _ _ r h => by simp [spec_ThreeOk.l1] at h⟩
 | k + 1 => by
  obtain ⟨ih0, ih1, ih2⟩ := spec_ThreeOk.mono_l k
  refine ⟨?_, ?_, ?_⟩
  ·intro y0 y1 y2 y3 y4 y5
   unfold spec_ThreeOk.j0
   repeat' first | (with_reducible first | exact ih0 _ _ _ _ _ _ | exact ih1 _ _ _ _ _ _ _ _ _ | exact ih2 _ _ _ _ _ _ _ _ | exact spec_ItemOk.mono _ _ _ _ | exact spec_l03Has.mono _ _ _ | exact spec_l10At.mono _ _ _ | exact LeO.refl _ | exact LeO.none _ | refine LeO.ite ?_ ?_ | refine LeO.bind ?_ (fun _ => ?_)) | exact ih0 _ _ _ _ _ _ | exact ih1 _ _ _ _ _ _ _ _ _ | exact ih2 _ _ _ _ _ _ _ _ | exact spec_ItemOk.mono _ _ _ _ | exact spec_l03Has.mono _ _ _ | exact spec_l10At.mono _ _ _ | exact LeO.none _ | refine LeO.ite ?_ ?_ | refine LeO.bind ?_ (fun _ => ?_)
  ·intro y0 y1 y2 y3 y4 y5 y6 y7 y8
   unfold spec_ThreeOk.l0
   repeat' first | (with_reducible first | exact ih0 _ _ _ _ _ _ | exact ih1 _ _ _ _ _ _ _ _ _ | exact ih2 _ _ _ _ _ _ _ _ | exact spec_ItemOk.mono _ _ _ _ | exact spec_l03Has.mono _ _ _ | exact spec_l10At.mono _ _ _ | exact LeO.refl _ | exact LeO.none _ | refine LeO.ite ?_ ?_ | refine LeO.bind ?_ (fun _ => ?_)) | exact ih0 _ _ _ _ _ _ | exact ih1 _ _ _ _ _ _ _ _ _ | exact ih2 _ _ _ _ _ _ _ _ | exact spec_ItemOk.mono _ _ _ _ | exact spec_l03Has.mono _ _ _ | exact spec_l10At.mono _ _ _ | exact LeO.none _ | refine LeO.ite ?_ ?_ | refine LeO.bind ?_ (fun _ => ?_)
  ·intro y0 y1 y2 y3 y4 y5 y6 y7
   unfold spec_ThreeOk.l1
   repeat' first | (with_reducible first | exact ih0 _ _ _ _ _ _ | exact ih1 _ _ _ _ _ _ _ _ _ | exact ih2 _ _ _ _ _ _ _ _ | exact spec_ItemOk.mono _ _ _ _ | exact spec_l03Has.mono _ _ _ | exact spec_l10At.mono _ _ _ | exact LeO.refl _ | exact LeO.none _ | refine LeO.ite ?_ ?_ | refine LeO.bind ?_ (fun _ => ?_)) | exact ih0 _ _ _ _ _ _ | exact ih1 _ _ _ _ _ _ _ _ _ | exact ih2 _ _ _ _ _ _ _ _ | exact spec_ItemOk.mono _ _ _ _ | exact spec_l03Has.mono _ _ _ | exact spec_l10At.mono _ _ _ | exact LeO.none _ | refine LeO.ite ?_ ?_ | refine LeO.bind ?_ (fun _ => ?_)
theorem spec_ThreeOk.mono : ∀ a0 a1 a2 a3 a4 k, LeO (spec_ThreeOk.f k a0 a1 a2 a3 a4) (spec_ThreeOk.f (k + 1) a0 a1 a2 a3 a4) := by
 intro a0 a1 a2 a3 a4 k
 obtain ⟨ih0, ih1, ih2⟩ := spec_ThreeOk.mono_l k
 unfold spec_ThreeOk.f
 repeat' first | (with_reducible first | exact ih0 _ _ _ _ _ _ | exact ih1 _ _ _ _ _ _ _ _ _ | exact ih2 _ _ _ _ _ _ _ _ | exact spec_ItemOk.mono _ _ _ _ | exact spec_l03Has.mono _ _ _ | exact spec_l10At.mono _ _ _ | exact LeO.refl _ | exact LeO.none _ | refine LeO.ite ?_ ?_ | refine LeO.bind ?_ (fun _ => ?_)) | exact ih0 _ _ _ _ _ _ | exact ih1 _ _ _ _ _ _ _ _ _ | exact ih2 _ _ _ _ _ _ _ _ | exact spec_ItemOk.mono _ _ _ _ | exact spec_l03Has.mono _ _ _ | exact spec_l10At.mono _ _ _ | exact LeO.none _ | refine LeO.ite ?_ ?_ | refine LeO.bind ?_ (fun _ => ?_)
def spec_ThreeOk.T1 : Bool × List (List Nat × List Nat) := (true, [([], []), ([0], [0]), ([1], [1]), ([2], [2]), ([3, 2], [3]), ([4], [4]), ([5, 4], [4, 5]), ([4], [4]), ([7, 4], [4, 7]), ([6, 8, 4, 4], [4, 6, 8]), ([9, 4], [4, 9]), ([4, 10], [4, 10]), ([11, 9], [11]), ([12], [12]), ([13, 12], [12, 13]), ([14, 12], [12, 14]), ([12], [12]), ([16, 12], [12, 16]), ([17, 12], [12, 17]), ([15, 18, 12], [12, 15, 18]), ([12], [12]), ([20, 12], [12, 20]), ([19, 21, 12], [12, 19, 21]), ([12, 22], [12, 22]), ([23, 12], [23]), ([24], [24]), ([25, 24], [24, 25]), ([26, 24], [24, 26]), ([24], [24]), ([28, 24, 24], [24, 28]), ([27, 29, 24], [24, 27, 29]), ([24, 30], [24, 30])])
def spec_ThreeOk.B1 : List Nat := [0, 1, 3, 7, 15, 31, 63, 31, 159, 511, 1023, 2047, 4095, 8191, 16383, 32767, 8191, 73727, 204799, 524287, 8191, 1056767, 4194303, 8388607, 16777215, 33554431, 67108863, 134217727, 33554431, 301989887, 1073741823, 2147483647]
theorem spec_ThreeOk.tab1 : rtab .any (opsOf Try.f32 1) = spec_ThreeOk.T1 := by kernel_rfl
theorem spec_ThreeOk.bits1 : waitsOk spec_ThreeOk.T1.2 spec_ThreeOk.B1 = true := by kernel_rfl
def spec_ThreeOk.T3 : Bool × List (List Nat × List Nat) := (true, [([], []), ([], []), ([1], [1]), ([0, 2], [0, 2]), ([], []), ([4], [4]), ([3, 5, 3], [3, 5]), ([6, 6, 0, 1, 2, 3, 4, 5, 6], [6])])
def spec_ThreeOk.B3 : List Nat := [0, 0, 2, 7, 0, 16, 63, 127]
theorem spec_ThreeOk.tab3 : rtab .any (opsOf Try.f32 3) = spec_ThreeOk.T3 := by kernel_rfl
theorem spec_ThreeOk.bits3 : waitsOk spec_ThreeOk.T3.2 spec_ThreeOk.B3 = true := by kernel_rfl
set_option maxHeartbeats 8000000 in
set_option maxRecDepth 100000 in
theorem spec_ThreeOk.calls (k : Nat) (a0_0 : Int) (a0_1 : Int) (A0_2 : Option Addr) (c0_2 : Nat) (l0_2 : List (S95)) (A0_3 : Option Addr) (c0_3 : Nat) (l0_3 : List (S95)) (A0_4 : Option Addr) (c0_4 : Nat) (l0_4 : List Int) (r : Bool) (w : World) (hr0_2 : Kd.C k95 w A0_2 l0_2.length l0_2) (hc0_2 : l0_2.length ≤ c0_2) (hr0_3 : Kd.C k95 w A0_3 l0_3.length l0_3) (hc0_3 : l0_3.length ≤ c0_3) (hr0_4 : Kd.C (Kd.int .i64) w A0_4 l0_4.length l0_4) (hc0_4 : l0_4.length ≤ c0_4) (h : spec_ThreeOk.f k a0_0 a0_1 l0_2 l0_3 l0_4 = some r) :
  Calls Try.prog 32 #[.agg #[.int .i64 a0_0, .int .i64 a0_1, .slice A0_2 l0_2.length c0_2, .slice A0_3 l0_3.length c0_3, .slice A0_4 l0_4.length c0_4]] w fun e w' => e = .returned (.bool r) ∧ Mem w [] w' [] := by
 have hu32 := Try.underlying32
 have hu95 := Try.underlying95
 have HR0_2 := Aside0.mk hr0_2
 have HC0_2 := Aside0.mk hc0_2
 clear hr0_2 hc0_2
 have HR0_3 := Aside0.mk hr0_3
 have HC0_3 := Aside0.mk hc0_3
 clear hr0_3 hc0_3
 have HR0_4 := Aside0.mk hr0_4
 have HC0_4 := Aside0.mk hc0_4
 clear hr0_4 hc0_4
 have HM := Mem.nil w
 have H := h
 clear h
 unfold spec_ThreeOk.f at H
 go_enter Try.func32, Try.ntmps32
 have HC3 := Aside0.mk H
 clear H
 go_upto_region 1 with (first | ((with_reducible refine gate_dst (N := 1) rfl ?_); refine pB 1 32 [.int .i64 a0_0, .int .i64 a0_1, .slice A0_2 l0_2.length c0_2, .slice A0_3 l0_3.length c0_3, .slice A0_4 l0_4.length c0_4] HM rfl ?_; clear HM; intro gb118 w2 HM))
 go_cut [39] (fun v39 wc => ∃ (kq : Nat) (x39_2 : Bool), v39 = .bool x39_2 ∧ Aside0 (spec_ThreeOk.j0 kq x39_2 a0_0 a0_1 l0_2 l0_3 l0_4 = some r) ∧ Aside0 (kq ≤ k) ∧ Mem w [] wc [box 32 gb118 [.int .i64 a0_0, .int .i64 a0_1, .slice A0_2 l0_2.length c0_2, .slice A0_3 l0_3.length c0_3, .slice A0_4 l0_4.length c0_4]])
 case first =>
  have H := HC3.out
  clear HC3
  try go_wp2
  replace H := BN H; obtain ⟨t119, A4, H⟩ := H
  replace H := IB H
  rcases H with ⟨c5, H⟩ | ⟨c5, H⟩
  ·subst c5
   replace H := BN H; obtain ⟨t120, A6, H⟩ := H
   replace H := IB H
   rcases H with ⟨c7, H⟩ | ⟨c7, H⟩
   ·subst c7
    replace H := IT H; rcases H with ⟨c8, H⟩ | ⟨c8, H⟩
    ·have c8b0 : decide (a0_0 < (wrap64 ((l0_2.length : Int) + (l0_3.length : Int)))) = true := decide_eq_true c8
     clear c8
     refine RGN 32 [0, 1, 2, 3, 4, 5, 6, 7, 8, 9, 10, 11, 12, 13, 14, 15, 16, 17, 18, 19, 20, 21, 22, 23, 24, 25, 26, 27, 28, 29, 30, 31] (fun a0 b a w' => a = putSel a0 b [(0, 8, .pointer (some ⟨gb118, 0, none⟩)), (1, 9, .int .i64 a0_0), (2, 10, .bool true), (3, 11, .bool (!true)), (4, 12, .bool (!true)), (5, 13, .pointer (some ⟨gb118, 1, none⟩)), (6, 14, .int .i64 a0_1), (7, 15, .pointer (some ⟨gb118, 0, none⟩)), (8, 16, .int .i64 a0_0), (9, 17, .bool true), (10, 18, .bool (!true)), (11, 19, .bool (!true)), (12, 20, .bool (!true)), (13, 21, .pointer (some ⟨gb118, 2, none⟩)), (14, 22, .slice A0_2 l0_2.length c0_2), (15, 23, .int .i64 (l0_2.length : Int)), (16, 24, .pointer (some ⟨gb118, 3, none⟩)), (17, 25, .slice A0_3 l0_3.length c0_3), (18, 26, .int .i64 (l0_3.length : Int)), (19, 27, .int .i64 (wrap64 ((l0_2.length : Int) + (l0_3.length : Int)))), (20, 28, .pointer (some ⟨gb118, 0, none⟩)), (21, 29, .int .i64 a0_0), (22, 30, .bool (decide ((wrap64 ((l0_2.length : Int) + (l0_3.length : Int))) > a0_0))), (23, 31, .bool (decide ((wrap64 ((l0_2.length : Int) + (l0_3.length : Int))) > a0_0))), (24, 32, .bool (decide ((wrap64 ((l0_2.length : Int) + (l0_3.length : Int))) > a0_0))), (25, 33, undef), (26, 34, undef), (27, 35, undef), (28, 36, undef), (29, 37, undef), (30, 38, undef), (31, 39, .bool true)] ∧ Mem w [] w' [box 32 gb118 [.int .i64 a0_0, .int .i64 a0_1, .slice A0_2 l0_2.length c0_2, .slice A0_3 l0_3.length c0_3, .slice A0_4 l0_4.length c0_4]]) spec_ThreeOk.tab1 spec_ThreeOk.bits1 ?_ ?_ ?_
     ·exact ⟨PS0' rfl _, (HM.drew).pick [0]⟩
     ·clear HM
      refine steps_cons ?_ ?_
      ·rintro b a w ⟨ha, HM⟩ hb hon hoff
       refine ⟨_, rfl, fun K hK => ?_⟩
       have e1 := POF ha 1
       replace ha := Aside0.mk ha
       exact VL (.pointer (some ⟨gb118, 0, none⟩)) (hK.out _ _ ⟨PUT ha 0 hb, HM⟩)
      refine steps_cons ?_ ?_
      ·rintro b a w ⟨ha, HM⟩ hb hon hoff
       refine ⟨_, rfl, fun K hK => ?_⟩
       obtain ⟨hcz17_0, hcz17_1, hcz17_2, hcz17_3, hcz17_4, hfz17_0, hfz17_1, hfz17_2, hfz17_3, hfz17_4⟩ := bk5 (HM.bx 0 rfl)
       have e8 := PON ha 0 (hon 0 (by kernel_rfl))
       replace ha := Aside0.mk ha
       exact VL (.int .i64 a0_0) (hK.out _ _ ⟨PUT ha 1 hb, HM⟩)
      refine steps_cons ?_ ?_
      ·rintro b a w ⟨ha, HM⟩ hb hon hoff
       refine ⟨_, rfl, fun K hK => ?_⟩
       have e9 := PON ha 1 (hon 1 (by kernel_rfl))
       replace ha := Aside0.mk ha
       refine ST (eC (some 10) rfl #[.int .i64 a0_0, .int .i64 1, .int .i64 60] rfl Try.func63 (spec_l01In.calls a0_0 1 60 true _ A4.out) ?_ (hargs := by (simp only [List.map_toArray, List.map_cons, List.map_nil, evc, eval_of e9]) <;> rfl))
       rintro e w18 ⟨rfl, hd⟩
       refine ⟨_, rfl, ?_⟩
       replace HM := HM.drawn hd
       clear hd
       exact hK.out _ _ ⟨PUT ha 2 hb, (HM).pick [0]⟩
      refine steps_cons ?_ ?_
      ·rintro b a w ⟨ha, HM⟩ hb hon hoff
       refine ⟨_, rfl, fun K hK => ?_⟩
       have e10 := PON ha 2 (hon 2 (by kernel_rfl))
       replace ha := Aside0.mk ha
       exact VL (.bool (!true)) (hK.out _ _ ⟨PUT ha 3 hb, HM⟩)
      refine steps_cons ?_ ?_
      ·rintro b a w ⟨ha, HM⟩ hb hon hoff
       refine ⟨_, rfl, fun K hK => ?_⟩
       have e11 := PON ha 3 (hon 3 (by kernel_rfl))
       replace ha := Aside0.mk ha
       exact VL (.bool (!true)) (hK.out _ _ ⟨PUT ha 4 hb, HM⟩)
      refine steps_cons ?_ ?_
      ·rintro b a w ⟨ha, HM⟩ hb hon hoff
       refine ⟨_, rfl, fun K hK => ?_⟩
       have e1 := POF ha 1
       have e12 := PON ha 4 (hon 4 (by kernel_rfl))
       replace ha := Aside0.mk ha
       exact VL (.pointer (some ⟨gb118, 1, none⟩)) (hK.out _ _ ⟨PUT ha 5 hb, HM⟩) (hw := wanted_on rfl rfl rfl (e12.trans (by first | rfl | (simp [*]; done))))
      refine steps_cons ?_ ?_
      ·rintro b a w ⟨ha, HM⟩ hb hon hoff
       refine ⟨_, rfl, fun K hK => ?_⟩
       obtain ⟨hcz19_0, hcz19_1, hcz19_2, hcz19_3, hcz19_4, hfz19_0, hfz19_1, hfz19_2, hfz19_3, hfz19_4⟩ := bk5 (HM.bx 0 rfl)
       have e13 := PON ha 5 (hon 5 (by kernel_rfl))
       have e12 := PON ha 4 (hon 4 (by kernel_rfl))
       replace ha := Aside0.mk ha
       exact VL (.int .i64 a0_1) (hK.out _ _ ⟨PUT ha 6 hb, HM⟩) (hw := wanted_on rfl rfl rfl (e12.trans (by first | rfl | (simp [*]; done))))
      refine steps_cons ?_ ?_
      ·rintro b a w ⟨ha, HM⟩ hb hon hoff
       refine ⟨_, rfl, fun K hK => ?_⟩
       have e1 := POF ha 1
       have e12 := PON ha 4 (hon 4 (by kernel_rfl))
       replace ha := Aside0.mk ha
       exact VL (.pointer (some ⟨gb118, 0, none⟩)) (hK.out _ _ ⟨PUT ha 7 hb, HM⟩) (hw := wanted_on rfl rfl rfl (e12.trans (by first | rfl | (simp [*]; done))))
      refine steps_cons ?_ ?_
      ·rintro b a w ⟨ha, HM⟩ hb hon hoff
       refine ⟨_, rfl, fun K hK => ?_⟩
       obtain ⟨hcz20_0, hcz20_1, hcz20_2, hcz20_3, hcz20_4, hfz20_0, hfz20_1, hfz20_2, hfz20_3, hfz20_4⟩ := bk5 (HM.bx 0 rfl)
       have e15 := PON ha 7 (hon 7 (by kernel_rfl))
       have e12 := PON ha 4 (hon 4 (by kernel_rfl))
       replace ha := Aside0.mk ha
       exact VL (.int .i64 a0_0) (hK.out _ _ ⟨PUT ha 8 hb, HM⟩) (hw := wanted_on rfl rfl rfl (e12.trans (by first | rfl | (simp [*]; done))))
      refine steps_cons ?_ ?_
      ·rintro b a w ⟨ha, HM⟩ hb hon hoff
       refine ⟨_, rfl, fun K hK => ?_⟩
       have e14 := PON ha 6 (hon 6 (by kernel_rfl))
       have e16 := PON ha 8 (hon 8 (by kernel_rfl))
       have e12 := PON ha 4 (hon 4 (by kernel_rfl))
       replace ha := Aside0.mk ha
       refine ST (eC (some 17) rfl #[.int .i64 a0_1, .int .i64 1, .int .i64 a0_0] rfl Try.func63 (spec_l01In.calls a0_1 1 a0_0 true _ A6.out) ?_ (hargs := by (simp only [List.map_toArray, List.map_cons, List.map_nil, evc, eval_of e14, eval_of e16]) <;> rfl)) (hw := wanted_on rfl rfl rfl (e12.trans (by first | rfl | (simp [*]; done))))
       rintro e w21 ⟨rfl, hd⟩
       refine ⟨_, rfl, ?_⟩
       replace HM := HM.drawn hd
       clear hd
       exact hK.out _ _ ⟨PUT ha 9 hb, (HM).pick [0]⟩
      refine steps_cons ?_ ?_
      ·rintro b a w ⟨ha, HM⟩ hb hon hoff
       refine ⟨_, rfl, fun K hK => ?_⟩
       have e17 := PON ha 9 (hon 9 (by kernel_rfl))
       have e12 := PON ha 4 (hon 4 (by kernel_rfl))
       replace ha := Aside0.mk ha
       exact VL (.bool (!true)) (hK.out _ _ ⟨PUT ha 10 hb, HM⟩) (hw := wanted_on rfl rfl rfl (e12.trans (by first | rfl | (simp [*]; done))))
      refine steps_cons ?_ ?_
      ·rintro b a w ⟨ha, HM⟩ hb hon hoff
       refine ⟨_, rfl, fun K hK => ?_⟩
       have e12 := PON ha 4 (hon 4 (by kernel_rfl))
       have e18 := PON ha 10 (hon 10 (by kernel_rfl))
       replace ha := Aside0.mk ha
       exact VL (.bool (!true)) (hK.out _ _ ⟨PUT ha 11 hb, HM⟩)
      refine steps_cons ?_ ?_
      ·rintro b a w ⟨ha, HM⟩ hb hon hoff
       refine ⟨_, rfl, fun K hK => ?_⟩
       have e19 := PON ha 11 (hon 11 (by kernel_rfl))
       replace ha := Aside0.mk ha
       exact VL (.bool (!true)) (hK.out _ _ ⟨PUT ha 12 hb, HM⟩)
      refine steps_cons ?_ ?_
      ·rintro b a w ⟨ha, HM⟩ hb hon hoff
       refine ⟨_, rfl, fun K hK => ?_⟩
       have e1 := POF ha 1
       have e20 := PON ha 12 (hon 12 (by kernel_rfl))
       replace ha := Aside0.mk ha
       exact VL (.pointer (some ⟨gb118, 2, none⟩)) (hK.out _ _ ⟨PUT ha 13 hb, HM⟩) (hw := wanted_on rfl rfl rfl (e20.trans (by first | rfl | (simp [*]; done))))
      refine steps_cons ?_ ?_
      ·rintro b a w ⟨ha, HM⟩ hb hon hoff
       refine ⟨_, rfl, fun K hK => ?_⟩
       obtain ⟨hcz22_0, hcz22_1, hcz22_2, hcz22_3, hcz22_4, hfz22_0, hfz22_1, hfz22_2, hfz22_3, hfz22_4⟩ := bk5 (HM.bx 0 rfl)
       have e21 := PON ha 13 (hon 13 (by kernel_rfl))
       have e20 := PON ha 12 (hon 12 (by kernel_rfl))
       replace ha := Aside0.mk ha
       exact VL (.slice A0_2 l0_2.length c0_2) (hK.out _ _ ⟨PUT ha 14 hb, HM⟩) (hw := wanted_on rfl rfl rfl (e20.trans (by first | rfl | (simp [*]; done))))
      refine steps_cons ?_ ?_
      ·rintro b a w ⟨ha, HM⟩ hb hon hoff
       refine ⟨_, rfl, fun K hK => ?_⟩
       have e22 := PON ha 14 (hon 14 (by kernel_rfl))
       have e20 := PON ha 12 (hon 12 (by kernel_rfl))
       replace ha := Aside0.mk ha
       exact VL (.int .i64 (l0_2.length : Int)) (hK.out _ _ ⟨PUT ha 15 hb, HM⟩) (hw := wanted_on rfl rfl rfl (e20.trans (by first | rfl | (simp [*]; done))))
      refine steps_cons ?_ ?_
      ·rintro b a w ⟨ha, HM⟩ hb hon hoff
       refine ⟨_, rfl, fun K hK => ?_⟩
       have e1 := POF ha 1
       have e20 := PON ha 12 (hon 12 (by kernel_rfl))
       replace ha := Aside0.mk ha
       exact VL (.pointer (some ⟨gb118, 3, none⟩)) (hK.out _ _ ⟨PUT ha 16 hb, HM⟩) (hw := wanted_on rfl rfl rfl (e20.trans (by first | rfl | (simp [*]; done))))
      refine steps_cons ?_ ?_
      ·rintro b a w ⟨ha, HM⟩ hb hon hoff
       refine ⟨_, rfl, fun K hK => ?_⟩
       obtain ⟨hcz23_0, hcz23_1, hcz23_2, hcz23_3, hcz23_4, hfz23_0, hfz23_1, hfz23_2, hfz23_3, hfz23_4⟩ := bk5 (HM.bx 0 rfl)
       have e24 := PON ha 16 (hon 16 (by kernel_rfl))
       have e20 := PON ha 12 (hon 12 (by kernel_rfl))
       replace ha := Aside0.mk ha
       exact VL (.slice A0_3 l0_3.length c0_3) (hK.out _ _ ⟨PUT ha 17 hb, HM⟩) (hw := wanted_on rfl rfl rfl (e20.trans (by first | rfl | (simp [*]; done))))
      refine steps_cons ?_ ?_
      ·rintro b a w ⟨ha, HM⟩ hb hon hoff
       refine ⟨_, rfl, fun K hK => ?_⟩
       have e25 := PON ha 17 (hon 17 (by kernel_rfl))
       have e20 := PON ha 12 (hon 12 (by kernel_rfl))
       replace ha := Aside0.mk ha
       exact VL (.int .i64 (l0_3.length : Int)) (hK.out _ _ ⟨PUT ha 18 hb, HM⟩) (hw := wanted_on rfl rfl rfl (e20.trans (by first | rfl | (simp [*]; done))))
      refine steps_cons ?_ ?_
      ·rintro b a w ⟨ha, HM⟩ hb hon hoff
       refine ⟨_, rfl, fun K hK => ?_⟩
       have e23 := PON ha 15 (hon 15 (by kernel_rfl))
       have e26 := PON ha 18 (hon 18 (by kernel_rfl))
       have e20 := PON ha 12 (hon 12 (by kernel_rfl))
       replace ha := Aside0.mk ha
       exact VL (.int .i64 (wrap64 ((l0_2.length : Int) + (l0_3.length : Int)))) (hK.out _ _ ⟨PUT ha 19 hb, HM⟩) (hw := wanted_on rfl rfl rfl (e20.trans (by first | rfl | (simp [*]; done))))
      refine steps_cons ?_ ?_
      ·rintro b a w ⟨ha, HM⟩ hb hon hoff
       refine ⟨_, rfl, fun K hK => ?_⟩
       have e1 := POF ha 1
       have e20 := PON ha 12 (hon 12 (by kernel_rfl))
       replace ha := Aside0.mk ha
       exact VL (.pointer (some ⟨gb118, 0, none⟩)) (hK.out _ _ ⟨PUT ha 20 hb, HM⟩) (hw := wanted_on rfl rfl rfl (e20.trans (by first | rfl | (simp [*]; done))))
      refine steps_cons ?_ ?_
      ·rintro b a w ⟨ha, HM⟩ hb hon hoff
       refine ⟨_, rfl, fun K hK => ?_⟩
       obtain ⟨hcz24_0, hcz24_1, hcz24_2, hcz24_3, hcz24_4, hfz24_0, hfz24_1, hfz24_2, hfz24_3, hfz24_4⟩ := bk5 (HM.bx 0 rfl)
       have e28 := PON ha 20 (hon 20 (by kernel_rfl))
       have e20 := PON ha 12 (hon 12 (by kernel_rfl))
       replace ha := Aside0.mk ha
       exact VL (.int .i64 a0_0) (hK.out _ _ ⟨PUT ha 21 hb, HM⟩) (hw := wanted_on rfl rfl rfl (e20.trans (by first | rfl | (simp [*]; done))))
      refine steps_cons ?_ ?_
      ·rintro b a w ⟨ha, HM⟩ hb hon hoff
       refine ⟨_, rfl, fun K hK => ?_⟩
       have e27 := PON ha 19 (hon 19 (by kernel_rfl))
       have e29 := PON ha 21 (hon 21 (by kernel_rfl))
       have e20 := PON ha 12 (hon 12 (by kernel_rfl))
       replace ha := Aside0.mk ha
       exact VL (.bool (decide ((wrap64 ((l0_2.length : Int) + (l0_3.length : Int))) > a0_0))) (hK.out _ _ ⟨PUT ha 22 hb, HM⟩) (hw := wanted_on rfl rfl rfl (e20.trans (by first | rfl | (simp [*]; done))))
      refine steps_cons ?_ ?_
      ·rintro b a w ⟨ha, HM⟩ hb hon hoff
       refine ⟨_, rfl, fun K hK => ?_⟩
       have e20 := PON ha 12 (hon 12 (by kernel_rfl))
       have e30 := PON ha 22 (hon 22 (by kernel_rfl))
       replace ha := Aside0.mk ha
       exact VL (.bool (decide ((wrap64 ((l0_2.length : Int) + (l0_3.length : Int))) > a0_0))) (hK.out _ _ ⟨PUT ha 23 hb, HM⟩)
      refine steps_cons ?_ ?_
      ·rintro b a w ⟨ha, HM⟩ hb hon hoff
       refine ⟨_, rfl, fun K hK => ?_⟩
       have e31 := PON ha 23 (hon 23 (by kernel_rfl))
       replace ha := Aside0.mk ha
       exact VL (.bool (decide ((wrap64 ((l0_2.length : Int) + (l0_3.length : Int))) > a0_0))) (hK.out _ _ ⟨PUT ha 24 hb, HM⟩)
      refine steps_cons ?_ ?_
      ·rintro b a w ⟨ha, HM⟩ hb hon hoff
       refine ⟨_, rfl, fun K hK => ?_⟩
       have e32 := PON ha 24 (hon 24 (by kernel_rfl))
       replace ha := Aside0.mk ha
       exact VN ( wanted_off rfl rfl rfl (e32.trans (by first | rfl | (simp [*]; done)))) (hK.out _ _ ⟨PUT ha 25 hb, HM⟩)
      refine steps_cons ?_ ?_
      ·rintro b a w ⟨ha, HM⟩ hb hon hoff
       refine ⟨_, rfl, fun K hK => ?_⟩
       have e32 := PON ha 24 (hon 24 (by kernel_rfl))
       replace ha := Aside0.mk ha
       exact VN ( wanted_off rfl rfl rfl (e32.trans (by first | rfl | (simp [*]; done)))) (hK.out _ _ ⟨PUT ha 26 hb, HM⟩)
      refine steps_cons ?_ ?_
      ·rintro b a w ⟨ha, HM⟩ hb hon hoff
       refine ⟨_, rfl, fun K hK => ?_⟩
       have e32 := PON ha 24 (hon 24 (by kernel_rfl))
       replace ha := Aside0.mk ha
       exact VN ( wanted_off rfl rfl rfl (e32.trans (by first | rfl | (simp [*]; done)))) (hK.out _ _ ⟨PUT ha 27 hb, HM⟩)
      refine steps_cons ?_ ?_
      ·rintro b a w ⟨ha, HM⟩ hb hon hoff
       refine ⟨_, rfl, fun K hK => ?_⟩
       have e32 := PON ha 24 (hon 24 (by kernel_rfl))
       replace ha := Aside0.mk ha
       exact VN ( wanted_off rfl rfl rfl (e32.trans (by first | rfl | (simp [*]; done)))) (hK.out _ _ ⟨PUT ha 28 hb, HM⟩)
      refine steps_cons ?_ ?_
      ·rintro b a w ⟨ha, HM⟩ hb hon hoff
       refine ⟨_, rfl, fun K hK => ?_⟩
       have e32 := PON ha 24 (hon 24 (by kernel_rfl))
       replace ha := Aside0.mk ha
       exact VN ( wanted_off rfl rfl rfl (e32.trans (by first | rfl | (simp [*]; done)))) (hK.out _ _ ⟨PUT ha 29 hb, HM⟩)
      refine steps_cons ?_ ?_
      ·rintro b a w ⟨ha, HM⟩ hb hon hoff
       refine ⟨_, rfl, fun K hK => ?_⟩
       have e32 := PON ha 24 (hon 24 (by kernel_rfl))
       replace ha := Aside0.mk ha
       exact VN ( wanted_off rfl rfl rfl (e32.trans (by first | rfl | (simp [*]; done)))) (hK.out _ _ ⟨PUT ha 30 hb, HM⟩)
      refine steps_cons ?_ ?_
      ·rintro b a w ⟨ha, HM⟩ hb hon hoff
       refine ⟨_, rfl, fun K hK => ?_⟩
       have e32 := PON ha 24 (hon 24 (by kernel_rfl))
       have e38 := PON ha 30 (hon 30 (by kernel_rfl))
       replace ha := Aside0.mk ha
       exact VL (.bool true) (hK.out _ _ ⟨PUT ha 31 hb, HM⟩)
      exact steps_nil
     rintro _ w25 ⟨rfl, HM⟩
     simp only [putSel, if_true, Act.put, List.setIfInBounds_toArray, List.set_cons_zero, List.set_cons_succ, gt_iff_lt, ge_iff_le]
     have H' := Aside0.mk H
     clear H
     go_wp2
     go_meet
     case rel => exact ⟨_, (true), RS, H', ⟨by first | omega | exact Nat.le_refl _⟩, (MD HM).pick [0]⟩
    ·have c8b0 : decide (a0_0 < (wrap64 ((l0_2.length : Int) + (l0_3.length : Int)))) = false := decide_eq_false c8
     clear c8
     replace H := BN H; obtain ⟨t121, A26, H⟩ := H
     refine RGN 32 [0, 1, 2, 3, 4, 5, 6, 7, 8, 9, 10, 11, 12, 13, 14, 15, 16, 17, 18, 19, 20, 21, 22, 23, 24, 25, 26, 27, 28, 29, 30, 31] (fun a0 b a w' => a = putSel a0 b [(0, 8, .pointer (some ⟨gb118, 0, none⟩)), (1, 9, .int .i64 a0_0), (2, 10, .bool true), (3, 11, .bool (!true)), (4, 12, .bool (!true)), (5, 13, .pointer (some ⟨gb118, 1, none⟩)), (6, 14, .int .i64 a0_1), (7, 15, .pointer (some ⟨gb118, 0, none⟩)), (8, 16, .int .i64 a0_0), (9, 17, .bool true), (10, 18, .bool (!true)), (11, 19, .bool (!true)), (12, 20, .bool (!true)), (13, 21, .pointer (some ⟨gb118, 2, none⟩)), (14, 22, .slice A0_2 l0_2.length c0_2), (15, 23, .int .i64 (l0_2.length : Int)), (16, 24, .pointer (some ⟨gb118, 3, none⟩)), (17, 25, .slice A0_3 l0_3.length c0_3), (18, 26, .int .i64 (l0_3.length : Int)), (19, 27, .int .i64 (wrap64 ((l0_2.length : Int) + (l0_3.length : Int)))), (20, 28, .pointer (some ⟨gb118, 0, none⟩)), (21, 29, .int .i64 a0_0), (22, 30, .bool (decide ((wrap64 ((l0_2.length : Int) + (l0_3.length : Int))) > a0_0))), (23, 31, .bool (decide ((wrap64 ((l0_2.length : Int) + (l0_3.length : Int))) > a0_0))), (24, 32, .bool (decide ((wrap64 ((l0_2.length : Int) + (l0_3.length : Int))) > a0_0))), (25, 33, .pointer (some ⟨gb118, 4, none⟩)), (26, 34, .slice A0_4 l0_4.length c0_4), (27, 35, .int .i64 (l0_4.length : Int)), (28, 36, .agg #[.int .i64 a0_0, .int .i64 a0_1, .slice A0_2 l0_2.length c0_2, .slice A0_3 l0_3.length c0_3, .slice A0_4 l0_4.length c0_4]), (29, 37, .int .i64 t121), (30, 38, .bool (decide ((l0_4.length : Int) > t121))), (31, 39, .bool (decide ((l0_4.length : Int) > t121)))] ∧ Mem w [] w' [box 32 gb118 [.int .i64 a0_0, .int .i64 a0_1, .slice A0_2 l0_2.length c0_2, .slice A0_3 l0_3.length c0_3, .slice A0_4 l0_4.length c0_4]]) spec_ThreeOk.tab1 spec_ThreeOk.bits1 ?_ ?_ ?_
     ·exact ⟨PS0' rfl _, (HM.drew).pick [0]⟩
     ·clear HM
      refine steps_cons ?_ ?_
      ·rintro b a w ⟨ha, HM⟩ hb hon hoff
       refine ⟨_, rfl, fun K hK => ?_⟩
       have e1 := POF ha 1
       replace ha := Aside0.mk ha
       exact VL (.pointer (some ⟨gb118, 0, none⟩)) (hK.out _ _ ⟨PUT ha 0 hb, HM⟩)
      refine steps_cons ?_ ?_
      ·rintro b a w ⟨ha, HM⟩ hb hon hoff
       refine ⟨_, rfl, fun K hK => ?_⟩
       obtain ⟨hcz38_0, hcz38_1, hcz38_2, hcz38_3, hcz38_4, hfz38_0, hfz38_1, hfz38_2, hfz38_3, hfz38_4⟩ := bk5 (HM.bx 0 rfl)
       have e8 := PON ha 0 (hon 0 (by kernel_rfl))
       replace ha := Aside0.mk ha
       exact VL (.int .i64 a0_0) (hK.out _ _ ⟨PUT ha 1 hb, HM⟩)
      refine steps_cons ?_ ?_
      ·rintro b a w ⟨ha, HM⟩ hb hon hoff
       refine ⟨_, rfl, fun K hK => ?_⟩
       have e9 := PON ha 1 (hon 1 (by kernel_rfl))
       replace ha := Aside0.mk ha
       refine ST (eC (some 10) rfl #[.int .i64 a0_0, .int .i64 1, .int .i64 60] rfl Try.func63 (spec_l01In.calls a0_0 1 60 true _ A4.out) ?_ (hargs := by (simp only [List.map_toArray, List.map_cons, List.map_nil, evc, eval_of e9]) <;> rfl))
       rintro e w39 ⟨rfl, hd⟩
       refine ⟨_, rfl, ?_⟩
       replace HM := HM.drawn hd
       clear hd
       exact hK.out _ _ ⟨PUT ha 2 hb, (HM).pick [0]⟩
      refine steps_cons ?_ ?_
      ·rintro b a w ⟨ha, HM⟩ hb hon hoff
       refine ⟨_, rfl, fun K hK => ?_⟩
       have e10 := PON ha 2 (hon 2 (by kernel_rfl))
       replace ha := Aside0.mk ha
       exact VL (.bool (!true)) (hK.out _ _ ⟨PUT ha 3 hb, HM⟩)
      refine steps_cons ?_ ?_
      ·rintro b a w ⟨ha, HM⟩ hb hon hoff
       refine ⟨_, rfl, fun K hK => ?_⟩
       have e11 := PON ha 3 (hon 3 (by kernel_rfl))
       replace ha := Aside0.mk ha
       exact VL (.bool (!true)) (hK.out _ _ ⟨PUT ha 4 hb, HM⟩)
      refine steps_cons ?_ ?_
      ·rintro b a w ⟨ha, HM⟩ hb hon hoff
       refine ⟨_, rfl, fun K hK => ?_⟩
       have e1 := POF ha 1
       have e12 := PON ha 4 (hon 4 (by kernel_rfl))
       replace ha := Aside0.mk ha
       exact VL (.pointer (some ⟨gb118, 1, none⟩)) (hK.out _ _ ⟨PUT ha 5 hb, HM⟩) (hw := wanted_on rfl rfl rfl (e12.trans (by first | rfl | (simp [*]; done))))
      refine steps_cons ?_ ?_
      ·rintro b a w ⟨ha, HM⟩ hb hon hoff
       refine ⟨_, rfl, fun K hK => ?_⟩
       obtain ⟨hcz40_0, hcz40_1, hcz40_2, hcz40_3, hcz40_4, hfz40_0, hfz40_1, hfz40_2, hfz40_3, hfz40_4⟩ := bk5 (HM.bx 0 rfl)
       have e13 := PON ha 5 (hon 5 (by kernel_rfl))
       have e12 := PON ha 4 (hon 4 (by kernel_rfl))
       replace ha := Aside0.mk ha
       exact VL (.int .i64 a0_1) (hK.out _ _ ⟨PUT ha 6 hb, HM⟩) (hw := wanted_on rfl rfl rfl (e12.trans (by first | rfl | (simp [*]; done))))
      refine steps_cons ?_ ?_
      ·rintro b a w ⟨ha, HM⟩ hb hon hoff
       refine ⟨_, rfl, fun K hK => ?_⟩
       have e1 := POF ha 1
       have e12 := PON ha 4 (hon 4 (by kernel_rfl))
       replace ha := Aside0.mk ha
       exact VL (.pointer (some ⟨gb118, 0, none⟩)) (hK.out _ _ ⟨PUT ha 7 hb, HM⟩) (hw := wanted_on rfl rfl rfl (e12.trans (by first | rfl | (simp [*]; done))))
      refine steps_cons ?_ ?_
      ·rintro b a w ⟨ha, HM⟩ hb hon hoff
       refine ⟨_, rfl, fun K hK => ?_⟩
       obtain ⟨hcz41_0, hcz41_1, hcz41_2, hcz41_3, hcz41_4, hfz41_0, hfz41_1, hfz41_2, hfz41_3, hfz41_4⟩ := bk5 (HM.bx 0 rfl)
       have e15 := PON ha 7 (hon 7 (by kernel_rfl))
       have e12 := PON ha 4 (hon 4 (by kernel_rfl))
       replace ha := Aside0.mk ha
       exact VL (.int .i64 a0_0) (hK.out _ _ ⟨PUT ha 8 hb, HM⟩) (hw := wanted_on rfl rfl rfl (e12.trans (by first | rfl | (simp [*]; done))))
      refine steps_cons ?_ ?_
      ·rintro b a w ⟨ha, HM⟩ hb hon hoff
       refine ⟨_, rfl, fun K hK => ?_⟩
       have e14 := PON ha 6 (hon 6 (by kernel_rfl))
       have e16 := PON ha 8 (hon 8 (by kernel_rfl))
       have e12 := PON ha 4 (hon 4 (by kernel_rfl))
       replace ha := Aside0.mk ha
       refine ST (eC (some 17) rfl #[.int .i64 a0_1, .int .i64 1, .int .i64 a0_0] rfl Try.func63 (spec_l01In.calls a0_1 1 a0_0 true _ A6.out) ?_ (hargs := by (simp only [List.map_toArray, List.map_cons, List.map_nil, evc, eval_of e14, eval_of e16]) <;> rfl)) (hw := wanted_on rfl rfl rfl (e12.trans (by first | rfl | (simp [*]; done))))
       rintro e w42 ⟨rfl, hd⟩
       refine ⟨_, rfl, ?_⟩
       replace HM := HM.drawn hd
       clear hd
       exact hK.out _ _ ⟨PUT ha 9 hb, (HM).pick [0]⟩
      refine steps_cons ?_ ?_
      ·rintro b a w ⟨ha, HM⟩ hb hon hoff
       refine ⟨_, rfl, fun K hK => ?_⟩
       have e17 := PON ha 9 (hon 9 (by kernel_rfl))
       have e12 := PON ha 4 (hon 4 (by kernel_rfl))
       replace ha := Aside0.mk ha
       exact VL (.bool (!true)) (hK.out _ _ ⟨PUT ha 10 hb, HM⟩) (hw := wanted_on rfl rfl rfl (e12.trans (by first | rfl | (simp [*]; done))))
      refine steps_cons ?_ ?_
      ·rintro b a w ⟨ha, HM⟩ hb hon hoff
       refine ⟨_, rfl, fun K hK => ?_⟩
       have e12 := PON ha 4 (hon 4 (by kernel_rfl))
       have e18 := PON ha 10 (hon 10 (by kernel_rfl))
       replace ha := Aside0.mk ha
       exact VL (.bool (!true)) (hK.out _ _ ⟨PUT ha 11 hb, HM⟩)
      refine steps_cons ?_ ?_
      ·rintro b a w ⟨ha, HM⟩ hb hon hoff
       refine ⟨_, rfl, fun K hK => ?_⟩
       have e19 := PON ha 11 (hon 11 (by kernel_rfl))
       replace ha := Aside0.mk ha
       exact VL (.bool (!true)) (hK.out _ _ ⟨PUT ha 12 hb, HM⟩)
      refine steps_cons ?_ ?_
      ·rintro b a w ⟨ha, HM⟩ hb hon hoff
       refine ⟨_, rfl, fun K hK => ?_⟩
       have e1 := POF ha 1
       have e20 := PON ha 12 (hon 12 (by kernel_rfl))
       replace ha := Aside0.mk ha
       exact VL (.pointer (some ⟨gb118, 2, none⟩)) (hK.out _ _ ⟨PUT ha 13 hb, HM⟩) (hw := wanted_on rfl rfl rfl (e20.trans (by first | rfl | (simp [*]; done))))
      refine steps_cons ?_ ?_
      ·rintro b a w ⟨ha, HM⟩ hb hon hoff
       refine ⟨_, rfl, fun K hK => ?_⟩
       obtain ⟨hcz43_0, hcz43_1, hcz43_2, hcz43_3, hcz43_4, hfz43_0, hfz43_1, hfz43_2, hfz43_3, hfz43_4⟩ := bk5 (HM.bx 0 rfl)
       have e21 := PON ha 13 (hon 13 (by kernel_rfl))
       have e20 := PON ha 12 (hon 12 (by kernel_rfl))
       replace ha := Aside0.mk ha
       exact VL (.slice A0_2 l0_2.length c0_2) (hK.out _ _ ⟨PUT ha 14 hb, HM⟩) (hw := wanted_on rfl rfl rfl (e20.trans (by first | rfl | (simp [*]; done))))
      refine steps_cons ?_ ?_
      ·rintro b a w ⟨ha, HM⟩ hb hon hoff
       refine ⟨_, rfl, fun K hK => ?_⟩
       have e22 := PON ha 14 (hon 14 (by kernel_rfl))
       have e20 := PON ha 12 (hon 12 (by kernel_rfl))
       replace ha := Aside0.mk ha
       exact VL (.int .i64 (l0_2.length : Int)) (hK.out _ _ ⟨PUT ha 15 hb, HM⟩) (hw := wanted_on rfl rfl rfl (e20.trans (by first | rfl | (simp [*]; done))))
      refine steps_cons ?_ ?_
      ·rintro b a w ⟨ha, HM⟩ hb hon hoff
       refine ⟨_, rfl, fun K hK => ?_⟩
       have e1 := POF ha 1
       have e20 := PON ha 12 (hon 12 (by kernel_rfl))
       replace ha := Aside0.mk ha
       exact VL (.pointer (some ⟨gb118, 3, none⟩)) (hK.out _ _ ⟨PUT ha 16 hb, HM⟩) (hw := wanted_on rfl rfl rfl (e20.trans (by first | rfl | (simp [*]; done))))
      refine steps_cons ?_ ?_
      ·rintro b a w ⟨ha, HM⟩ hb hon hoff
       refine ⟨_, rfl, fun K hK => ?_⟩
       obtain ⟨hcz44_0, hcz44_1, hcz44_2, hcz44_3, hcz44_4, hfz44_0, hfz44_1, hfz44_2, hfz44_3, hfz44_4⟩ := bk5 (HM.bx 0 rfl)
       have e24 := PON ha 16 (hon 16 (by kernel_rfl))
       have e20 := PON ha 12 (hon 12 (by kernel_rfl))
       replace ha := Aside0.mk ha
       exact VL (.slice A0_3 l0_3.length c0_3) (hK.out _ _ ⟨PUT ha 17 hb, HM⟩) (hw := wanted_on rfl rfl rfl (e20.trans (by first | rfl | (simp [*]; done))))
      refine steps_cons ?_ ?_
      ·rintro b a w ⟨ha, HM⟩ hb hon hoff
       refine ⟨_, rfl, fun K hK => ?_⟩
       have e25 := PON ha 17 (hon 17 (by kernel_rfl))
       have e20 := PON ha 12 (hon 12 (by kernel_rfl))
       replace ha := Aside0.mk ha
       exact VL (.int .i64 (l0_3.length : Int)) (hK.out _ _ ⟨PUT ha 18 hb, HM⟩) (hw := wanted_on rfl rfl rfl (e20.trans (by first | rfl | (simp [*]; done))))
      refine steps_cons ?_ ?_
      ·rintro b a w ⟨ha, HM⟩ hb hon hoff
       refine ⟨_, rfl, fun K hK => ?_⟩
       have e23 := PON ha 15 (hon 15 (by kernel_rfl))
       have e26 := PON ha 18 (hon 18 (by kernel_rfl))
       have e20 := PON ha 12 (hon 12 (by kernel_rfl))
       replace ha := Aside0.mk ha
       exact VL (.int .i64 (wrap64 ((l0_2.length : Int) + (l0_3.length : Int)))) (hK.out _ _ ⟨PUT ha 19 hb, HM⟩) (hw := wanted_on rfl rfl rfl (e20.trans (by first | rfl | (simp [*]; done))))
      refine steps_cons ?_ ?_
      ·rintro b a w ⟨ha, HM⟩ hb hon hoff
       refine ⟨_, rfl, fun K hK => ?_⟩
       have e1 := POF ha 1
       have e20 := PON ha 12 (hon 12 (by kernel_rfl))
       replace ha := Aside0.mk ha
       exact VL (.pointer (some ⟨gb118, 0, none⟩)) (hK.out _ _ ⟨PUT ha 20 hb, HM⟩) (hw := wanted_on rfl rfl rfl (e20.trans (by first | rfl | (simp [*]; done))))
      refine steps_cons ?_ ?_
      ·rintro b a w ⟨ha, HM⟩ hb hon hoff
       refine ⟨_, rfl, fun K hK => ?_⟩
       obtain ⟨hcz45_0, hcz45_1, hcz45_2, hcz45_3, hcz45_4, hfz45_0, hfz45_1, hfz45_2, hfz45_3, hfz45_4⟩ := bk5 (HM.bx 0 rfl)
       have e28 := PON ha 20 (hon 20 (by kernel_rfl))
       have e20 := PON ha 12 (hon 12 (by kernel_rfl))
       replace ha := Aside0.mk ha
       exact VL (.int .i64 a0_0) (hK.out _ _ ⟨PUT ha 21 hb, HM⟩) (hw := wanted_on rfl rfl rfl (e20.trans (by first | rfl | (simp [*]; done))))
      refine steps_cons ?_ ?_
      ·rintro b a w ⟨ha, HM⟩ hb hon hoff
       refine ⟨_, rfl, fun K hK => ?_⟩
       have e27 := PON ha 19 (hon 19 (by kernel_rfl))
       have e29 := PON ha 21 (hon 21 (by kernel_rfl))
       have e20 := PON ha 12 (hon 12 (by kernel_rfl))
       replace ha := Aside0.mk ha
       exact VL (.bool (decide ((wrap64 ((l0_2.length : Int) + (l0_3.length : Int))) > a0_0))) (hK.out _ _ ⟨PUT ha 22 hb, HM⟩) (hw := wanted_on rfl rfl rfl (e20.trans (by first | rfl | (simp [*]; done))))
      refine steps_cons ?_ ?_
      ·rintro b a w ⟨ha, HM⟩ hb hon hoff
       refine ⟨_, rfl, fun K hK => ?_⟩
       have e20 := PON ha 12 (hon 12 (by kernel_rfl))
       have e30 := PON ha 22 (hon 22 (by kernel_rfl))
       replace ha := Aside0.mk ha
       exact VL (.bool (decide ((wrap64 ((l0_2.length : Int) + (l0_3.length : Int))) > a0_0))) (hK.out _ _ ⟨PUT ha 23 hb, HM⟩)
      refine steps_cons ?_ ?_
      ·rintro b a w ⟨ha, HM⟩ hb hon hoff
       refine ⟨_, rfl, fun K hK => ?_⟩
       have e31 := PON ha 23 (hon 23 (by kernel_rfl))
       replace ha := Aside0.mk ha
       exact VL (.bool (decide ((wrap64 ((l0_2.length : Int) + (l0_3.length : Int))) > a0_0))) (hK.out _ _ ⟨PUT ha 24 hb, HM⟩)
      refine steps_cons ?_ ?_
      ·rintro b a w ⟨ha, HM⟩ hb hon hoff
       refine ⟨_, rfl, fun K hK => ?_⟩
       have e1 := POF ha 1
       have e32 := PON ha 24 (hon 24 (by kernel_rfl))
       replace ha := Aside0.mk ha
       exact VL (.pointer (some ⟨gb118, 4, none⟩)) (hK.out _ _ ⟨PUT ha 25 hb, HM⟩) (hw := wanted_on rfl rfl rfl (e32.trans (by first | rfl | (simp [*]; done))))
      refine steps_cons ?_ ?_
      ·rintro b a w ⟨ha, HM⟩ hb hon hoff
       refine ⟨_, rfl, fun K hK => ?_⟩
       obtain ⟨hcz46_0, hcz46_1, hcz46_2, hcz46_3, hcz46_4, hfz46_0, hfz46_1, hfz46_2, hfz46_3, hfz46_4⟩ := bk5 (HM.bx 0 rfl)
       have e33 := PON ha 25 (hon 25 (by kernel_rfl))
       have e32 := PON ha 24 (hon 24 (by kernel_rfl))
       replace ha := Aside0.mk ha
       exact VL (.slice A0_4 l0_4.length c0_4) (hK.out _ _ ⟨PUT ha 26 hb, HM⟩) (hw := wanted_on rfl rfl rfl (e32.trans (by first | rfl | (simp [*]; done))))
      refine steps_cons ?_ ?_
      ·rintro b a w ⟨ha, HM⟩ hb hon hoff
       refine ⟨_, rfl, fun K hK => ?_⟩
       have e34 := PON ha 26 (hon 26 (by kernel_rfl))
       have e32 := PON ha 24 (hon 24 (by kernel_rfl))
       replace ha := Aside0.mk ha
       exact VL (.int .i64 (l0_4.length : Int)) (hK.out _ _ ⟨PUT ha 27 hb, HM⟩) (hw := wanted_on rfl rfl rfl (e32.trans (by first | rfl | (simp [*]; done))))
      refine steps_cons ?_ ?_
      ·rintro b a w ⟨ha, HM⟩ hb hon hoff
       refine ⟨_, rfl, fun K hK => ?_⟩
       obtain ⟨hcz47_0, hcz47_1, hcz47_2, hcz47_3, hcz47_4, hfz47_0, hfz47_1, hfz47_2, hfz47_3, hfz47_4⟩ := bk5 (HM.bx 0 rfl)
       have e1 := POF ha 1
       have e32 := PON ha 24 (hon 24 (by kernel_rfl))
       replace ha := Aside0.mk ha
       exact VL (.agg #[.int .i64 a0_0, .int .i64 a0_1, .slice A0_2 l0_2.length c0_2, .slice A0_3 l0_3.length c0_3, .slice A0_4 l0_4.length c0_4]) (hK.out _ _ ⟨PUT ha 28 hb, HM⟩) (hw := wanted_on rfl rfl rfl (e32.trans (by first | rfl | (simp [*]; done))))
      refine steps_cons ?_ ?_
      ·rintro b a w ⟨ha, HM⟩ hb hon hoff
       refine ⟨_, rfl, fun K hK => ?_⟩
       have e36 := PON ha 28 (hon 28 (by kernel_rfl))
       have e32 := PON ha 24 (hon 24 (by kernel_rfl))
       replace ha := Aside0.mk ha
       refine ST (eC (some 37) rfl #[.agg #[.int .i64 a0_0, .int .i64 a0_1, .slice A0_2 l0_2.length c0_2, .slice A0_3 l0_3.length c0_3, .slice A0_4 l0_4.length c0_4]] rfl Try.func64 (spec_l10Ghosts.calls a0_0 a0_1 _ _ l0_2 _ _ l0_3 _ _ l0_4 t121 _ (HM.came HR0_2.out) HC0_2.out (HM.came HR0_3.out) HC0_3.out (HM.came HR0_4.out) HC0_4.out A26.out) ?_ (hargs := by (simp only [List.map_toArray, List.map_cons, List.map_nil, evc, eval_of e36]) <;> rfl)) (hw := wanted_on rfl rfl rfl (e32.trans (by first | rfl | (simp [*]; done))))
       rintro e w48 ⟨rfl, hR⟩
       refine ⟨_, rfl, ?_⟩
       replace HM := HM.call hR
       clear hR
       exact hK.out _ _ ⟨PUT ha 29 hb, (HM).pick [0]⟩
      refine steps_cons ?_ ?_
      ·rintro b a w ⟨ha, HM⟩ hb hon hoff
       refine ⟨_, rfl, fun K hK => ?_⟩
       have e35 := PON ha 27 (hon 27 (by kernel_rfl))
       have e37 := PON ha 29 (hon 29 (by kernel_rfl))
       have e32 := PON ha 24 (hon 24 (by kernel_rfl))
       replace ha := Aside0.mk ha
       exact VL (.bool (decide ((l0_4.length : Int) > t121))) (hK.out _ _ ⟨PUT ha 30 hb, HM⟩) (hw := wanted_on rfl rfl rfl (e32.trans (by first | rfl | (simp [*]; done))))
      refine steps_cons ?_ ?_
      ·rintro b a w ⟨ha, HM⟩ hb hon hoff
       refine ⟨_, rfl, fun K hK => ?_⟩
       have e32 := PON ha 24 (hon 24 (by kernel_rfl))
       have e38 := PON ha 30 (hon 30 (by kernel_rfl))
       replace ha := Aside0.mk ha
       exact VL (.bool (decide ((l0_4.length : Int) > t121))) (hK.out _ _ ⟨PUT ha 31 hb, HM⟩)
      exact steps_nil
     rintro _ w49 ⟨rfl, HM⟩
     simp only [putSel, if_true, Act.put, List.setIfInBounds_toArray, List.set_cons_zero, List.set_cons_succ, gt_iff_lt, ge_iff_le]
     have H' := Aside0.mk H
     clear H
     go_wp2
     go_meet
     case rel => exact ⟨_, (decide ((l0_4.length : Int) > t121)), RS, H', ⟨by first | omega | exact Nat.le_refl _⟩, (MD HM).pick [0]⟩
   ·subst c7
    refine RGN 32 [0, 1, 2, 3, 4, 5, 6, 7, 8, 9, 10, 11, 12, 13, 14, 15, 16, 17, 18, 19, 20, 21, 22, 23, 24, 25, 26, 27, 28, 29, 30, 31] (fun a0 b a w' => a = putSel a0 b [(0, 8, .pointer (some ⟨gb118, 0, none⟩)), (1, 9, .int .i64 a0_0), (2, 10, .bool true), (3, 11, .bool (!true)), (4, 12, .bool (!true)), (5, 13, .pointer (some ⟨gb118, 1, none⟩)), (6, 14, .int .i64 a0_1), (7, 15, .pointer (some ⟨gb118, 0, none⟩)), (8, 16, .int .i64 a0_0), (9, 17, .bool false), (10, 18, .bool (!false)), (11, 19, .bool (!false)), (12, 20, .bool (!false)), (13, 21, undef), (14, 22, undef), (15, 23, undef), (16, 24, undef), (17, 25, undef), (18, 26, undef), (19, 27, undef), (20, 28, undef), (21, 29, undef), (22, 30, undef), (23, 31, .bool true), (24, 32, .bool true), (25, 33, undef), (26, 34, undef), (27, 35, undef), (28, 36, undef), (29, 37, undef), (30, 38, undef), (31, 39, .bool true)] ∧ Mem w [] w' [box 32 gb118 [.int .i64 a0_0, .int .i64 a0_1, .slice A0_2 l0_2.length c0_2, .slice A0_3 l0_3.length c0_3, .slice A0_4 l0_4.length c0_4]]) spec_ThreeOk.tab1 spec_ThreeOk.bits1 ?_ ?_ ?_
    ·exact ⟨PS0' rfl _, (HM.drew).pick [0]⟩
    ·clear HM
     refine steps_cons ?_ ?_
     ·rintro b a w ⟨ha, HM⟩ hb hon hoff
      refine ⟨_, rfl, fun K hK => ?_⟩
      have e1 := POF ha 1
      replace ha := Aside0.mk ha
      exact VL (.pointer (some ⟨gb118, 0, none⟩)) (hK.out _ _ ⟨PUT ha 0 hb, HM⟩)
     refine steps_cons ?_ ?_
     ·rintro b a w ⟨ha, HM⟩ hb hon hoff
      refine ⟨_, rfl, fun K hK => ?_⟩
      obtain ⟨hcz55_0, hcz55_1, hcz55_2, hcz55_3, hcz55_4, hfz55_0, hfz55_1, hfz55_2, hfz55_3, hfz55_4⟩ := bk5 (HM.bx 0 rfl)
      have e8 := PON ha 0 (hon 0 (by kernel_rfl))
      replace ha := Aside0.mk ha
      exact VL (.int .i64 a0_0) (hK.out _ _ ⟨PUT ha 1 hb, HM⟩)
     refine steps_cons ?_ ?_
     ·rintro b a w ⟨ha, HM⟩ hb hon hoff
      refine ⟨_, rfl, fun K hK => ?_⟩
      have e9 := PON ha 1 (hon 1 (by kernel_rfl))
      replace ha := Aside0.mk ha
      refine ST (eC (some 10) rfl #[.int .i64 a0_0, .int .i64 1, .int .i64 60] rfl Try.func63 (spec_l01In.calls a0_0 1 60 true _ A4.out) ?_ (hargs := by (simp only [List.map_toArray, List.map_cons, List.map_nil, evc, eval_of e9]) <;> rfl))
      rintro e w56 ⟨rfl, hd⟩
      refine ⟨_, rfl, ?_⟩
      replace HM := HM.drawn hd
      clear hd
      exact hK.out _ _ ⟨PUT ha 2 hb, (HM).pick [0]⟩
     refine steps_cons ?_ ?_
     ·rintro b a w ⟨ha, HM⟩ hb hon hoff
      refine ⟨_, rfl, fun K hK => ?_⟩
      have e10 := PON ha 2 (hon 2 (by kernel_rfl))
      replace ha := Aside0.mk ha
      exact VL (.bool (!true)) (hK.out _ _ ⟨PUT ha 3 hb, HM⟩)
     refine steps_cons ?_ ?_
     ·rintro b a w ⟨ha, HM⟩ hb hon hoff
      refine ⟨_, rfl, fun K hK => ?_⟩
      have e11 := PON ha 3 (hon 3 (by kernel_rfl))
      replace ha := Aside0.mk ha
      exact VL (.bool (!true)) (hK.out _ _ ⟨PUT ha 4 hb, HM⟩)
     refine steps_cons ?_ ?_
     ·rintro b a w ⟨ha, HM⟩ hb hon hoff
      refine ⟨_, rfl, fun K hK => ?_⟩
      have e1 := POF ha 1
      have e12 := PON ha 4 (hon 4 (by kernel_rfl))
      replace ha := Aside0.mk ha
      exact VL (.pointer (some ⟨gb118, 1, none⟩)) (hK.out _ _ ⟨PUT ha 5 hb, HM⟩) (hw := wanted_on rfl rfl rfl (e12.trans (by first | rfl | (simp [*]; done))))
     refine steps_cons ?_ ?_
     ·rintro b a w ⟨ha, HM⟩ hb hon hoff
      refine ⟨_, rfl, fun K hK => ?_⟩
      obtain ⟨hcz57_0, hcz57_1, hcz57_2, hcz57_3, hcz57_4, hfz57_0, hfz57_1, hfz57_2, hfz57_3, hfz57_4⟩ := bk5 (HM.bx 0 rfl)
      have e13 := PON ha 5 (hon 5 (by kernel_rfl))
      have e12 := PON ha 4 (hon 4 (by kernel_rfl))
      replace ha := Aside0.mk ha
      exact VL (.int .i64 a0_1) (hK.out _ _ ⟨PUT ha 6 hb, HM⟩) (hw := wanted_on rfl rfl rfl (e12.trans (by first | rfl | (simp [*]; done))))
     refine steps_cons ?_ ?_
     ·rintro b a w ⟨ha, HM⟩ hb hon hoff
      refine ⟨_, rfl, fun K hK => ?_⟩
      have e1 := POF ha 1
      have e12 := PON ha 4 (hon 4 (by kernel_rfl))
      replace ha := Aside0.mk ha
      exact VL (.pointer (some ⟨gb118, 0, none⟩)) (hK.out _ _ ⟨PUT ha 7 hb, HM⟩) (hw := wanted_on rfl rfl rfl (e12.trans (by first | rfl | (simp [*]; done))))
     refine steps_cons ?_ ?_
     ·rintro b a w ⟨ha, HM⟩ hb hon hoff
      refine ⟨_, rfl, fun K hK => ?_⟩
      obtain ⟨hcz58_0, hcz58_1, hcz58_2, hcz58_3, hcz58_4, hfz58_0, hfz58_1, hfz58_2, hfz58_3, hfz58_4⟩ := bk5 (HM.bx 0 rfl)
      have e15 := PON ha 7 (hon 7 (by kernel_rfl))
      have e12 := PON ha 4 (hon 4 (by kernel_rfl))
      replace ha := Aside0.mk ha
      exact VL (.int .i64 a0_0) (hK.out _ _ ⟨PUT ha 8 hb, HM⟩) (hw := wanted_on rfl rfl rfl (e12.trans (by first | rfl | (simp [*]; done))))
     refine steps_cons ?_ ?_
     ·rintro b a w ⟨ha, HM⟩ hb hon hoff
      refine ⟨_, rfl, fun K hK => ?_⟩
      have e14 := PON ha 6 (hon 6 (by kernel_rfl))
      have e16 := PON ha 8 (hon 8 (by kernel_rfl))
      have e12 := PON ha 4 (hon 4 (by kernel_rfl))
      replace ha := Aside0.mk ha
      refine ST (eC (some 17) rfl #[.int .i64 a0_1, .int .i64 1, .int .i64 a0_0] rfl Try.func63 (spec_l01In.calls a0_1 1 a0_0 false _ A6.out) ?_ (hargs := by (simp only [List.map_toArray, List.map_cons, List.map_nil, evc, eval_of e14, eval_of e16]) <;> rfl)) (hw := wanted_on rfl rfl rfl (e12.trans (by first | rfl | (simp [*]; done))))
      rintro e w59 ⟨rfl, hd⟩
      refine ⟨_, rfl, ?_⟩
      replace HM := HM.drawn hd
      clear hd
      exact hK.out _ _ ⟨PUT ha 9 hb, (HM).pick [0]⟩
     refine steps_cons ?_ ?_
     ·rintro b a w ⟨ha, HM⟩ hb hon hoff
      refine ⟨_, rfl, fun K hK => ?_⟩
      have e17 := PON ha 9 (hon 9 (by kernel_rfl))
      have e12 := PON ha 4 (hon 4 (by kernel_rfl))
      replace ha := Aside0.mk ha
      exact VL (.bool (!false)) (hK.out _ _ ⟨PUT ha 10 hb, HM⟩) (hw := wanted_on rfl rfl rfl (e12.trans (by first | rfl | (simp [*]; done))))
     refine steps_cons ?_ ?_
     ·rintro b a w ⟨ha, HM⟩ hb hon hoff
      refine ⟨_, rfl, fun K hK => ?_⟩
      have e12 := PON ha 4 (hon 4 (by kernel_rfl))
      have e18 := PON ha 10 (hon 10 (by kernel_rfl))
      replace ha := Aside0.mk ha
      exact VL (.bool (!false)) (hK.out _ _ ⟨PUT ha 11 hb, HM⟩)
     refine steps_cons ?_ ?_
     ·rintro b a w ⟨ha, HM⟩ hb hon hoff
      refine ⟨_, rfl, fun K hK => ?_⟩
      have e19 := PON ha 11 (hon 11 (by kernel_rfl))
      replace ha := Aside0.mk ha
      exact VL (.bool (!false)) (hK.out _ _ ⟨PUT ha 12 hb, HM⟩)
     refine steps_cons ?_ ?_
     ·rintro b a w ⟨ha, HM⟩ hb hon hoff
      refine ⟨_, rfl, fun K hK => ?_⟩
      have e20 := PON ha 12 (hon 12 (by kernel_rfl))
      replace ha := Aside0.mk ha
      exact VN ( wanted_off rfl rfl rfl (e20.trans (by first | rfl | (simp [*]; done)))) (hK.out _ _ ⟨PUT ha 13 hb, HM⟩)
     refine steps_cons ?_ ?_
     ·rintro b a w ⟨ha, HM⟩ hb hon hoff
      refine ⟨_, rfl, fun K hK => ?_⟩
      have e20 := PON ha 12 (hon 12 (by kernel_rfl))
      replace ha := Aside0.mk ha
      exact VN ( wanted_off rfl rfl rfl (e20.trans (by first | rfl | (simp [*]; done)))) (hK.out _ _ ⟨PUT ha 14 hb, HM⟩)
     refine steps_cons ?_ ?_
     ·rintro b a w ⟨ha, HM⟩ hb hon hoff
      refine ⟨_, rfl, fun K hK => ?_⟩
      have e20 := PON ha 12 (hon 12 (by kernel_rfl))
      replace ha := Aside0.mk ha
      exact VN ( wanted_off rfl rfl rfl (e20.trans (by first | rfl | (simp [*]; done)))) (hK.out _ _ ⟨PUT ha 15 hb, HM⟩)
     refine steps_cons ?_ ?_
     ·rintro b a w ⟨ha, HM⟩ hb hon hoff
      refine ⟨_, rfl, fun K hK => ?_⟩
      have e20 := PON ha 12 (hon 12 (by kernel_rfl))
      replace ha := Aside0.mk ha
      exact VN ( wanted_off rfl rfl rfl (e20.trans (by first | rfl | (simp [*]; done)))) (hK.out _ _ ⟨PUT ha 16 hb, HM⟩)
     refine steps_cons ?_ ?_
     ·rintro b a w ⟨ha, HM⟩ hb hon hoff
      refine ⟨_, rfl, fun K hK => ?_⟩
      have e20 := PON ha 12 (hon 12 (by kernel_rfl))
      replace ha := Aside0.mk ha
      exact VN ( wanted_off rfl rfl rfl (e20.trans (by first | rfl | (simp [*]; done)))) (hK.out _ _ ⟨PUT ha 17 hb, HM⟩)
     refine steps_cons ?_ ?_
     ·rintro b a w ⟨ha, HM⟩ hb hon hoff
      refine ⟨_, rfl, fun K hK => ?_⟩
      have e20 := PON ha 12 (hon 12 (by kernel_rfl))
      replace ha := Aside0.mk ha
      exact VN ( wanted_off rfl rfl rfl (e20.trans (by first | rfl | (simp [*]; done)))) (hK.out _ _ ⟨PUT ha 18 hb, HM⟩)
     refine steps_cons ?_ ?_
     ·rintro b a w ⟨ha, HM⟩ hb hon hoff
      refine ⟨_, rfl, fun K hK => ?_⟩
      have e20 := PON ha 12 (hon 12 (by kernel_rfl))
      replace ha := Aside0.mk ha
      exact VN ( wanted_off rfl rfl rfl (e20.trans (by first | rfl | (simp [*]; done)))) (hK.out _ _ ⟨PUT ha 19 hb, HM⟩)
     refine steps_cons ?_ ?_
     ·rintro b a w ⟨ha, HM⟩ hb hon hoff
      refine ⟨_, rfl, fun K hK => ?_⟩
      have e20 := PON ha 12 (hon 12 (by kernel_rfl))
      replace ha := Aside0.mk ha
      exact VN ( wanted_off rfl rfl rfl (e20.trans (by first | rfl | (simp [*]; done)))) (hK.out _ _ ⟨PUT ha 20 hb, HM⟩)
     refine steps_cons ?_ ?_
     ·rintro b a w ⟨ha, HM⟩ hb hon hoff
      refine ⟨_, rfl, fun K hK => ?_⟩
      have e20 := PON ha 12 (hon 12 (by kernel_rfl))
      replace ha := Aside0.mk ha
      exact VN ( wanted_off rfl rfl rfl (e20.trans (by first | rfl | (simp [*]; done)))) (hK.out _ _ ⟨PUT ha 21 hb, HM⟩)
     refine steps_cons ?_ ?_
     ·rintro b a w ⟨ha, HM⟩ hb hon hoff
      refine ⟨_, rfl, fun K hK => ?_⟩
      have e20 := PON ha 12 (hon 12 (by kernel_rfl))
      replace ha := Aside0.mk ha
      exact VN ( wanted_off rfl rfl rfl (e20.trans (by first | rfl | (simp [*]; done)))) (hK.out _ _ ⟨PUT ha 22 hb, HM⟩)
     refine steps_cons ?_ ?_
     ·rintro b a w ⟨ha, HM⟩ hb hon hoff
      refine ⟨_, rfl, fun K hK => ?_⟩
      have e20 := PON ha 12 (hon 12 (by kernel_rfl))
      have e30 := PON ha 22 (hon 22 (by kernel_rfl))
      replace ha := Aside0.mk ha
      exact VL (.bool true) (hK.out _ _ ⟨PUT ha 23 hb, HM⟩)
     refine steps_cons ?_ ?_
     ·rintro b a w ⟨ha, HM⟩ hb hon hoff
      refine ⟨_, rfl, fun K hK => ?_⟩
      have e31 := PON ha 23 (hon 23 (by kernel_rfl))
      replace ha := Aside0.mk ha
      exact VL (.bool true) (hK.out _ _ ⟨PUT ha 24 hb, HM⟩)
     refine steps_cons ?_ ?_
     ·rintro b a w ⟨ha, HM⟩ hb hon hoff
      refine ⟨_, rfl, fun K hK => ?_⟩
      have e32 := PON ha 24 (hon 24 (by kernel_rfl))
      replace ha := Aside0.mk ha
      exact VN ( wanted_off rfl rfl rfl (e32.trans (by first | rfl | (simp [*]; done)))) (hK.out _ _ ⟨PUT ha 25 hb, HM⟩)
     refine steps_cons ?_ ?_
     ·rintro b a w ⟨ha, HM⟩ hb hon hoff
      refine ⟨_, rfl, fun K hK => ?_⟩
      have e32 := PON ha 24 (hon 24 (by kernel_rfl))
      replace ha := Aside0.mk ha
      exact VN ( wanted_off rfl rfl rfl (e32.trans (by first | rfl | (simp [*]; done)))) (hK.out _ _ ⟨PUT ha 26 hb, HM⟩)
     refine steps_cons ?_ ?_
     ·rintro b a w ⟨ha, HM⟩ hb hon hoff
      refine ⟨_, rfl, fun K hK => ?_⟩
      have e32 := PON ha 24 (hon 24 (by kernel_rfl))
      replace ha := Aside0.mk ha
      exact VN ( wanted_off rfl rfl rfl (e32.trans (by first | rfl | (simp [*]; done)))) (hK.out _ _ ⟨PUT ha 27 hb, HM⟩)
     refine steps_cons ?_ ?_
     ·rintro b a w ⟨ha, HM⟩ hb hon hoff
      refine ⟨_, rfl, fun K hK => ?_⟩
      have e32 := PON ha 24 (hon 24 (by kernel_rfl))
      replace ha := Aside0.mk ha
      exact VN ( wanted_off rfl rfl rfl (e32.trans (by first | rfl | (simp [*]; done)))) (hK.out _ _ ⟨PUT ha 28 hb, HM⟩)
     refine steps_cons ?_ ?_
     ·rintro b a w ⟨ha, HM⟩ hb hon hoff
      refine ⟨_, rfl, fun K hK => ?_⟩
      have e32 := PON ha 24 (hon 24 (by kernel_rfl))
      replace ha := Aside0.mk ha
      exact VN ( wanted_off rfl rfl rfl (e32.trans (by first | rfl | (simp [*]; done)))) (hK.out _ _ ⟨PUT ha 29 hb, HM⟩)
     refine steps_cons ?_ ?_
     ·rintro b a w ⟨ha, HM⟩ hb hon hoff
      refine ⟨_, rfl, fun K hK => ?_⟩
      have e32 := PON ha 24 (hon 24 (by kernel_rfl))
      replace ha := Aside0.mk ha
      exact VN ( wanted_off rfl rfl rfl (e32.trans (by first | rfl | (simp [*]; done)))) (hK.out _ _ ⟨PUT ha 30 hb, HM⟩)
     refine steps_cons ?_ ?_
     ·rintro b a w ⟨ha, HM⟩ hb hon hoff
      refine ⟨_, rfl, fun K hK => ?_⟩
      have e32 := PON ha 24 (hon 24 (by kernel_rfl))
      have e38 := PON ha 30 (hon 30 (by kernel_rfl))
      replace ha := Aside0.mk ha
      exact VL (.bool true) (hK.out _ _ ⟨PUT ha 31 hb, HM⟩)
     exact steps_nil
    rintro _ w60 ⟨rfl, HM⟩
    simp only [putSel, if_true, Act.put, List.setIfInBounds_toArray, List.set_cons_zero, List.set_cons_succ, gt_iff_lt, ge_iff_le]
    have H' := Aside0.mk H
    clear H
    go_wp2
    go_meet
    case rel => exact ⟨_, (true), RS, H', ⟨by first | omega | exact Nat.le_refl _⟩, (MD HM).pick [0]⟩
  ·subst c5
   refine RGN 32 [0, 1, 2, 3, 4, 5, 6, 7, 8, 9, 10, 11, 12, 13, 14, 15, 16, 17, 18, 19, 20, 21, 22, 23, 24, 25, 26, 27, 28, 29, 30, 31] (fun a0 b a w' => a = putSel a0 b [(0, 8, .pointer (some ⟨gb118, 0, none⟩)), (1, 9, .int .i64 a0_0), (2, 10, .bool false), (3, 11, .bool (!false)), (4, 12, .bool (!false)), (5, 13, undef), (6, 14, undef), (7, 15, undef), (8, 16, undef), (9, 17, undef), (10, 18, undef), (11, 19, .bool true), (12, 20, .bool true), (13, 21, undef), (14, 22, undef), (15, 23, undef), (16, 24, undef), (17, 25, undef), (18, 26, undef), (19, 27, undef), (20, 28, undef), (21, 29, undef), (22, 30, undef), (23, 31, .bool true), (24, 32, .bool true), (25, 33, undef), (26, 34, undef), (27, 35, undef), (28, 36, undef), (29, 37, undef), (30, 38, undef), (31, 39, .bool true)] ∧ Mem w [] w' [box 32 gb118 [.int .i64 a0_0, .int .i64 a0_1, .slice A0_2 l0_2.length c0_2, .slice A0_3 l0_3.length c0_3, .slice A0_4 l0_4.length c0_4]]) spec_ThreeOk.tab1 spec_ThreeOk.bits1 ?_ ?_ ?_
   ·exact ⟨PS0' rfl _, (HM.drew).pick [0]⟩
   ·clear HM
    refine steps_cons ?_ ?_
    ·rintro b a w ⟨ha, HM⟩ hb hon hoff
     refine ⟨_, rfl, fun K hK => ?_⟩
     have e1 := POF ha 1
     replace ha := Aside0.mk ha
     exact VL (.pointer (some ⟨gb118, 0, none⟩)) (hK.out _ _ ⟨PUT ha 0 hb, HM⟩)
    refine steps_cons ?_ ?_
    ·rintro b a w ⟨ha, HM⟩ hb hon hoff
     refine ⟨_, rfl, fun K hK => ?_⟩
     obtain ⟨hcz63_0, hcz63_1, hcz63_2, hcz63_3, hcz63_4, hfz63_0, hfz63_1, hfz63_2, hfz63_3, hfz63_4⟩ := bk5 (HM.bx 0 rfl)
     have e8 := PON ha 0 (hon 0 (by kernel_rfl))
     replace ha := Aside0.mk ha
     exact VL (.int .i64 a0_0) (hK.out _ _ ⟨PUT ha 1 hb, HM⟩)
    refine steps_cons ?_ ?_
    ·rintro b a w ⟨ha, HM⟩ hb hon hoff
     refine ⟨_, rfl, fun K hK => ?_⟩
     have e9 := PON ha 1 (hon 1 (by kernel_rfl))
     replace ha := Aside0.mk ha
     refine ST (eC (some 10) rfl #[.int .i64 a0_0, .int .i64 1, .int .i64 60] rfl Try.func63 (spec_l01In.calls a0_0 1 60 false _ A4.out) ?_ (hargs := by (simp only [List.map_toArray, List.map_cons, List.map_nil, evc, eval_of e9]) <;> rfl))
     rintro e w64 ⟨rfl, hd⟩
     refine ⟨_, rfl, ?_⟩
     replace HM := HM.drawn hd
     clear hd
     exact hK.out _ _ ⟨PUT ha 2 hb, (HM).pick [0]⟩
    refine steps_cons ?_ ?_
    ·rintro b a w ⟨ha, HM⟩ hb hon hoff
     refine ⟨_, rfl, fun K hK => ?_⟩
     have e10 := PON ha 2 (hon 2 (by kernel_rfl))
     replace ha := Aside0.mk ha
     exact VL (.bool (!false)) (hK.out _ _ ⟨PUT ha 3 hb, HM⟩)
    refine steps_cons ?_ ?_
    ·rintro b a w ⟨ha, HM⟩ hb hon hoff
     refine ⟨_, rfl, fun K hK => ?_⟩
     have e11 := PON ha 3 (hon 3 (by kernel_rfl))
     replace ha := Aside0.mk ha
     exact VL (.bool (!false)) (hK.out _ _ ⟨PUT ha 4 hb, HM⟩)
    refine steps_cons ?_ ?_
    ·rintro b a w ⟨ha, HM⟩ hb hon hoff
     refine ⟨_, rfl, fun K hK => ?_⟩
     have e12 := PON ha 4 (hon 4 (by kernel_rfl))
     replace ha := Aside0.mk ha
     exact VN ( wanted_off rfl rfl rfl (e12.trans (by first | rfl | (simp [*]; done)))) (hK.out _ _ ⟨PUT ha 5 hb, HM⟩)
    refine steps_cons ?_ ?_
    ·rintro b a w ⟨ha, HM⟩ hb hon hoff
     refine ⟨_, rfl, fun K hK => ?_⟩
     have e12 := PON ha 4 (hon 4 (by kernel_rfl))
     replace ha := Aside0.mk ha
     exact VN ( wanted_off rfl rfl rfl (e12.trans (by first | rfl | (simp [*]; done)))) (hK.out _ _ ⟨PUT ha 6 hb, HM⟩)
    refine steps_cons ?_ ?_
    ·rintro b a w ⟨ha, HM⟩ hb hon hoff
     refine ⟨_, rfl, fun K hK => ?_⟩
     have e12 := PON ha 4 (hon 4 (by kernel_rfl))
     replace ha := Aside0.mk ha
     exact VN ( wanted_off rfl rfl rfl (e12.trans (by first | rfl | (simp [*]; done)))) (hK.out _ _ ⟨PUT ha 7 hb, HM⟩)
    refine steps_cons ?_ ?_
    ·rintro b a w ⟨ha, HM⟩ hb hon hoff
     refine ⟨_, rfl, fun K hK => ?_⟩
     have e12 := PON ha 4 (hon 4 (by kernel_rfl))
     replace ha := Aside0.mk ha
     exact VN ( wanted_off rfl rfl rfl (e12.trans (by first | rfl | (simp [*]; done)))) (hK.out _ _ ⟨PUT ha 8 hb, HM⟩)
    refine steps_cons ?_ ?_
    ·rintro b a w ⟨ha, HM⟩ hb hon hoff
     refine ⟨_, rfl, fun K hK => ?_⟩
     have e12 := PON ha 4 (hon 4 (by kernel_rfl))
     replace ha := Aside0.mk ha
     exact VN ( wanted_off rfl rfl rfl (e12.trans (by first | rfl | (simp [*]; done)))) (hK.out _ _ ⟨PUT ha 9 hb, HM⟩)
    refine steps_cons ?_ ?_
    ·rintro b a w ⟨ha, HM⟩ hb hon hoff
     refine ⟨_, rfl, fun K hK => ?_⟩
     have e12 := PON ha 4 (hon 4 (by kernel_rfl))
     replace ha := Aside0.mk ha
     exact VN ( wanted_off rfl rfl rfl (e12.trans (by first | rfl | (simp [*]; done)))) (hK.out _ _ ⟨PUT ha 10 hb, HM⟩)
    refine steps_cons ?_ ?_
    ·rintro b a w ⟨ha, HM⟩ hb hon hoff
     refine ⟨_, rfl, fun K hK => ?_⟩
     have e12 := PON ha 4 (hon 4 (by kernel_rfl))
     have e18 := PON ha 10 (hon 10 (by kernel_rfl))
     replace ha := Aside0.mk ha
     exact VL (.bool true) (hK.out _ _ ⟨PUT ha 11 hb, HM⟩)
    refine steps_cons ?_ ?_
    ·rintro b a w ⟨ha, HM⟩ hb hon hoff
     refine ⟨_, rfl, fun K hK => ?_⟩
     have e19 := PON ha 11 (hon 11 (by kernel_rfl))
     replace ha := Aside0.mk ha
     exact VL (.bool true) (hK.out _ _ ⟨PUT ha 12 hb, HM⟩)
    refine steps_cons ?_ ?_
    ·rintro b a w ⟨ha, HM⟩ hb hon hoff
     refine ⟨_, rfl, fun K hK => ?_⟩
     have e20 := PON ha 12 (hon 12 (by kernel_rfl))
     replace ha := Aside0.mk ha
     exact VN ( wanted_off rfl rfl rfl (e20.trans (by first | rfl | (simp [*]; done)))) (hK.out _ _ ⟨PUT ha 13 hb, HM⟩)
    refine steps_cons ?_ ?_
    ·rintro b a w ⟨ha, HM⟩ hb hon hoff
     refine ⟨_, rfl, fun K hK => ?_⟩
     have e20 := PON ha 12 (hon 12 (by kernel_rfl))
     replace ha := Aside0.mk ha
     exact VN ( wanted_off rfl rfl rfl (e20.trans (by first | rfl | (simp [*]; done)))) (hK.out _ _ ⟨PUT ha 14 hb, HM⟩)
    refine steps_cons ?_ ?_
    ·rintro b a w ⟨ha, HM⟩ hb hon hoff
     refine ⟨_, rfl, fun K hK => ?_⟩
     have e20 := PON ha 12 (hon 12 (by kernel_rfl))
     replace ha := Aside0.mk ha
     exact VN ( wanted_off rfl rfl rfl (e20.trans (by first | rfl | (simp [*]; done)))) (hK.out _ _ ⟨PUT ha 15 hb, HM⟩)
    refine steps_cons ?_ ?_
    ·rintro b a w ⟨ha, HM⟩ hb hon hoff
     refine ⟨_, rfl, fun K hK => ?_⟩
     have e20 := PON ha 12 (hon 12 (by kernel_rfl))
     replace ha := Aside0.mk ha
     exact VN ( wanted_off rfl rfl rfl (e20.trans (by first | rfl | (simp [*]; done)))) (hK.out _ _ ⟨PUT ha 16 hb, HM⟩)
    refine steps_cons ?_ ?_
    ·rintro b a w ⟨ha, HM⟩ hb hon hoff
     refine ⟨_, rfl, fun K hK => ?_⟩
     have e20 := PON ha 12 (hon 12 (by kernel_rfl))
     replace ha := Aside0.mk ha
     exact VN ( wanted_off rfl rfl rfl (e20.trans (by first | rfl | (simp [*]; done)))) (hK.out _ _ ⟨PUT ha 17 hb, HM⟩)
    refine steps_cons ?_ ?_
    ·rintro b a w ⟨ha, HM⟩ hb hon hoff
     refine ⟨_, rfl, fun K hK => ?_⟩
     have e20 := PON ha 12 (hon 12 (by kernel_rfl))
     replace ha := Aside0.mk ha
     exact VN ( wanted_off rfl rfl rfl (e20.trans (by first | rfl | (simp [*]; done)))) (hK.out _ _ ⟨PUT ha 18 hb, HM⟩)
    refine steps_cons ?_ ?_
    ·rintro b a w ⟨ha, HM⟩ hb hon hoff
     refine ⟨_, rfl, fun K hK => ?_⟩
     have e20 := PON ha 12 (hon 12 (by kernel_rfl))
     replace ha := Aside0.mk ha
     exact VN ( wanted_off rfl rfl rfl (e20.trans (by first | rfl | (simp [*]; done)))) (hK.out _ _ ⟨PUT ha 19 hb, HM⟩)
    refine steps_cons ?_ ?_
    ·rintro b a w ⟨ha, HM⟩ hb hon hoff
     refine ⟨_, rfl, fun K hK => ?_⟩
     have e20 := PON ha 12 (hon 12 (by kernel_rfl))
     replace ha := Aside0.mk ha
     exact VN ( wanted_off rfl rfl rfl (e20.trans (by first | rfl | (simp [*]; done)))) (hK.out _ _ ⟨PUT ha 20 hb, HM⟩)
    refine steps_cons ?_ ?_
    ·rintro b a w ⟨ha, HM⟩ hb hon hoff
     refine ⟨_, rfl, fun K hK => ?_⟩
     have e20 := PON ha 12 (hon 12 (by kernel_rfl))
     replace ha := Aside0.mk ha
     exact VN ( wanted_off rfl rfl rfl (e20.trans (by first | rfl | (simp [*]; done)))) (hK.out _ _ ⟨PUT ha 21 hb, HM⟩)
    refine steps_cons ?_ ?_
    ·rintro b a w ⟨ha, HM⟩ hb hon hoff
     refine ⟨_, rfl, fun K hK => ?_⟩
     have e20 := PON ha 12 (hon 12 (by kernel_rfl))
     replace ha := Aside0.mk ha
     exact VN ( wanted_off rfl rfl rfl (e20.trans (by first | rfl | (simp [*]; done)))) (hK.out _ _ ⟨PUT ha 22 hb, HM⟩)
    refine steps_cons ?_ ?_
    ·rintro b a w ⟨ha, HM⟩ hb hon hoff
     refine ⟨_, rfl, fun K hK => ?_⟩
     have e20 := PON ha 12 (hon 12 (by kernel_rfl))
     have e30 := PON ha 22 (hon 22 (by kernel_rfl))
     replace ha := Aside0.mk ha
     exact VL (.bool true) (hK.out _ _ ⟨PUT ha 23 hb, HM⟩)
    refine steps_cons ?_ ?_
    ·rintro b a w ⟨ha, HM⟩ hb hon hoff
     refine ⟨_, rfl, fun K hK => ?_⟩
     have e31 := PON ha 23 (hon 23 (by kernel_rfl))
     replace ha := Aside0.mk ha
     exact VL (.bool true) (hK.out _ _ ⟨PUT ha 24 hb, HM⟩)
    refine steps_cons ?_ ?_
    ·rintro b a w ⟨ha, HM⟩ hb hon hoff
     refine ⟨_, rfl, fun K hK => ?_⟩
     have e32 := PON ha 24 (hon 24 (by kernel_rfl))
     replace ha := Aside0.mk ha
     exact VN ( wanted_off rfl rfl rfl (e32.trans (by first | rfl | (simp [*]; done)))) (hK.out _ _ ⟨PUT ha 25 hb, HM⟩)
    refine steps_cons ?_ ?_
    ·rintro b a w ⟨ha, HM⟩ hb hon hoff
     refine ⟨_, rfl, fun K hK => ?_⟩
     have e32 := PON ha 24 (hon 24 (by kernel_rfl))
     replace ha := Aside0.mk ha
     exact VN ( wanted_off rfl rfl rfl (e32.trans (by first | rfl | (simp [*]; done)))) (hK.out _ _ ⟨PUT ha 26 hb, HM⟩)
    refine steps_cons ?_ ?_
    ·rintro b a w ⟨ha, HM⟩ hb hon hoff
     refine ⟨_, rfl, fun K hK => ?_⟩
     have e32 := PON ha 24 (hon 24 (by kernel_rfl))
     replace ha := Aside0.mk ha
     exact VN ( wanted_off rfl rfl rfl (e32.trans (by first | rfl | (simp [*]; done)))) (hK.out _ _ ⟨PUT ha 27 hb, HM⟩)
    refine steps_cons ?_ ?_
    ·rintro b a w ⟨ha, HM⟩ hb hon hoff
     refine ⟨_, rfl, fun K hK => ?_⟩
     have e32 := PON ha 24 (hon 24 (by kernel_rfl))
     replace ha := Aside0.mk ha
     exact VN ( wanted_off rfl rfl rfl (e32.trans (by first | rfl | (simp [*]; done)))) (hK.out _ _ ⟨PUT ha 28 hb, HM⟩)
    refine steps_cons ?_ ?_
    ·rintro b a w ⟨ha, HM⟩ hb hon hoff
     refine ⟨_, rfl, fun K hK => ?_⟩
     have e32 := PON ha 24 (hon 24 (by kernel_rfl))
     replace ha := Aside0.mk ha
     exact VN ( wanted_off rfl rfl rfl (e32.trans (by first | rfl | (simp [*]; done)))) (hK.out _ _ ⟨PUT ha 29 hb, HM⟩)
    refine steps_cons ?_ ?_
    ·rintro b a w ⟨ha, HM⟩ hb hon hoff
     refine ⟨_, rfl, fun K hK => ?_⟩
     have e32 := PON ha 24 (hon 24 (by kernel_rfl))
     replace ha := Aside0.mk ha
     exact VN ( wanted_off rfl rfl rfl (e32.trans (by first | rfl | (simp [*]; done)))) (hK.out _ _ ⟨PUT ha 30 hb, HM⟩)
    refine steps_cons ?_ ?_
    ·rintro b a w ⟨ha, HM⟩ hb hon hoff
     refine ⟨_, rfl, fun K hK => ?_⟩
     have e32 := PON ha 24 (hon 24 (by kernel_rfl))
     have e38 := PON ha 30 (hon 30 (by kernel_rfl))
     replace ha := Aside0.mk ha
     exact VL (.bool true) (hK.out _ _ ⟨PUT ha 31 hb, HM⟩)
    exact steps_nil
   rintro _ w65 ⟨rfl, HM⟩
   simp only [putSel, if_true, Act.put, List.setIfInBounds_toArray, List.set_cons_zero, List.set_cons_succ, gt_iff_lt, ge_iff_le]
   have H' := Aside0.mk H
   clear H
   go_wp2
   go_meet
   case rel => exact ⟨_, (true), RS, H', ⟨by first | omega | exact Nat.le_refl _⟩, (MD HM).pick [0]⟩
 case rest =>
  clear HC3 HM
  obtain ⟨kq, x39_2, rfl, HA, HJ2, HM⟩ := hcut
  cases kq with
  | zero => exact absurd HA.out (by simp [spec_ThreeOk.j0])
  | succ kj2 =>
   have H := HA.out
   clear HA
   simp only [spec_ThreeOk.j0] at H
   go_upto_if 39 with (fail)
   replace H := IB H
   rcases H with ⟨c66, H⟩ | ⟨c66, H⟩
   ·subst c66
    obtain rfl := Option.some.inj H
    go_wp2
    go_ret
    exact ⟨ER, (MD HM).pick []⟩
   ·subst c66
    try go_wp2
    replace H := BLt H; obtain ⟨y122, Ny122, H⟩ := H
    replace Ny122 := Aside0.mk Ny122
    replace H := GD H; obtain ⟨c67, H⟩ := H
    have LMc67 := Aside0.mk c67
    clear c67
    replace H := BLt H; obtain ⟨y125, Ny125, H⟩ := H
    replace Ny125 := Aside0.mk Ny125
    replace H := GD H; obtain ⟨c68, H⟩ := H
    have LMc68 := Aside0.mk c68
    clear c68
    replace H := BLt H; obtain ⟨y128, Ny128, H⟩ := H
    replace Ny128 := Aside0.mk Ny128
    refine RGN 8 [0, 1, 2, 3, 4, 5, 6, 7] (fun a0 b a w' => ∃ (v123 : Value) (v126 : Value) (v129 : Value), a = putSel a0 b [(0, 40, v123), (1, 41, .pointer (some ⟨gb118, 2, none⟩)), (2, 42, .slice A0_2 l0_2.length c0_2), (3, 43, v126), (4, 44, .pointer (some ⟨gb118, 3, none⟩)), (5, 45, .slice A0_3 l0_3.length c0_3), (6, 46, v129), (7, 3, v129)] ∧ Mem w [] w' [box 32 gb118 [.int .i64 a0_0, .int .i64 a0_1, .slice A0_2 l0_2.length c0_2, .slice A0_3 l0_3.length c0_3, .slice A0_4 l0_4.length c0_4], sel (b 6) (rowR k95 95 v129 y128) (sel (b 3) (rowR k95 95 v126 y125) (sel (b 0) (rowR k95 95 v123 y122) (emp)))]) spec_ThreeOk.tab3 spec_ThreeOk.bits3 ?_ ?_ ?_
    ·exact ⟨.bool false, .bool false, .bool false, PS0' rfl _, (HM.drew.ems 1).pick [0, 1]⟩
    ·clear HM
     refine steps_cons ?_ ?_
     ·rintro b a w ⟨v123, v126, v129, ha, HM⟩ hb hon hoff
      refine ⟨_, rfl, fun K hK => ?_⟩
      replace ha := Aside0.mk ha
      refine ST (eL 40 k95 95 ([] : List (S95)) [] (Reps.none _ _) HM rfl ?_)
      clear HM
      intro v123 w74 HM
      replace HM := HM.nm 2 rfl Ny122.out
      exact hK.out _ _ ⟨v123, v126, v129, PUT ha 0 hb, ((HM.iF 2 rfl (hoff 3 (by kernel_rfl))).iF 2 rfl (hoff 6 (by kernel_rfl))).pick [0, 2]⟩
     refine steps_cons ?_ ?_
     ·rintro b a w ⟨v123, v126, v129, ha, HM⟩ hb hon hoff
      refine ⟨_, rfl, fun K hK => ?_⟩
      have e1 := POF ha 1
      replace ha := Aside0.mk ha
      exact VL (.pointer (some ⟨gb118, 2, none⟩)) (hK.out _ _ ⟨v123, v126, v129, PUT ha 1 hb, HM⟩)
     refine steps_cons ?_ ?_
     ·rintro b a w ⟨v123, v126, v129, ha, HM⟩ hb hon hoff
      refine ⟨_, rfl, fun K hK => ?_⟩
      obtain ⟨hcz75_0, hcz75_1, hcz75_2, hcz75_3, hcz75_4, hfz75_0, hfz75_1, hfz75_2, hfz75_3, hfz75_4⟩ := bk5 (HM.bx 0 rfl)
      have e41 := PON ha 1 (hon 1 (by kernel_rfl))
      replace ha := Aside0.mk ha
      exact VL (.slice A0_2 l0_2.length c0_2) (hK.out _ _ ⟨v123, v126, v129, PUT ha 2 hb, HM⟩)
     refine steps_cons ?_ ?_
     ·rintro b a w ⟨v123, v126, v129, ha, HM⟩ hb hon hoff
      refine ⟨_, rfl, fun K hK => ?_⟩
      replace HM := ((HM.sF 1 rfl (hoff 6 (by kernel_rfl))).sF 1 rfl hb).sT 1 rfl (hon 0 (by kernel_rfl))
      have e40 := PON ha 0 (hon 0 (by kernel_rfl))
      have e42 := PON ha 2 (hon 2 (by kernel_rfl))
      replace ha := Aside0.mk ha
      refine ST (eA 1 (.tmp 40) (.tmp 42) 30 95 k95 v123 y122 l0_2 A0_2 l0_2.length c0_2 HM rfl Try.underlying30 info95 rfl (HM.came HR0_2.out) (by have h_ := LMc67.out; omega) ?_ (ops := #[]) (hw := by rfl) (hs := (eval_of e40)) (hx := (eval_of e42)))
      clear HM
      intro v126 w76 HM
      replace HM := HM.nm 1 rfl Ny125.out
      exact hK.out _ _ ⟨v123, v126, v129, PUT ha 3 hb, (HM.iF 1 rfl (hoff 6 (by kernel_rfl))).pick [0, 1]⟩
     refine steps_cons ?_ ?_
     ·rintro b a w ⟨v123, v126, v129, ha, HM⟩ hb hon hoff
      refine ⟨_, rfl, fun K hK => ?_⟩
      have e1 := POF ha 1
      replace ha := Aside0.mk ha
      exact VL (.pointer (some ⟨gb118, 3, none⟩)) (hK.out _ _ ⟨v123, v126, v129, PUT ha 4 hb, HM⟩)
     refine steps_cons ?_ ?_
     ·rintro b a w ⟨v123, v126, v129, ha, HM⟩ hb hon hoff
      refine ⟨_, rfl, fun K hK => ?_⟩
      obtain ⟨hcz77_0, hcz77_1, hcz77_2, hcz77_3, hcz77_4, hfz77_0, hfz77_1, hfz77_2, hfz77_3, hfz77_4⟩ := bk5 (HM.bx 0 rfl)
      have e44 := PON ha 4 (hon 4 (by kernel_rfl))
      replace ha := Aside0.mk ha
      exact VL (.slice A0_3 l0_3.length c0_3) (hK.out _ _ ⟨v123, v126, v129, PUT ha 5 hb, HM⟩)
     refine steps_cons ?_ ?_
     ·rintro b a w ⟨v123, v126, v129, ha, HM⟩ hb hon hoff
      refine ⟨_, rfl, fun K hK => ?_⟩
      replace HM := (HM.sF 1 rfl hb).sT 1 rfl (hon 3 (by kernel_rfl))
      have e43 := PON ha 3 (hon 3 (by kernel_rfl))
      have e45 := PON ha 5 (hon 5 (by kernel_rfl))
      replace ha := Aside0.mk ha
      refine ST (eA 1 (.tmp 43) (.tmp 45) 30 95 k95 v126 y125 l0_3 A0_3 l0_3.length c0_3 HM rfl Try.underlying30 info95 rfl (HM.came HR0_3.out) (by have h_ := LMc68.out; omega) ?_ (ops := #[]) (hw := by rfl) (hs := (eval_of e43)) (hx := (eval_of e45)))
      clear HM
      intro v129 w78 HM
      replace HM := HM.nm 1 rfl Ny128.out
      exact hK.out _ _ ⟨v123, v126, v129, PUT (PCH ha 7 (hoff 7 (by kernel_rfl))) 6 hb, (HM).pick [0, 1]⟩
     refine steps_cons ?_ ?_
     ·rintro b a w ⟨v123, v126, v129, ha, HM⟩ hb hon hoff
      refine ⟨_, rfl, fun K hK => ?_⟩
      have e46 := PON ha 6 (hon 6 (by kernel_rfl))
      replace ha := Aside0.mk ha
      exact VL (v129) (hK.out _ _ ⟨v123, v126, v129, PUT ha 7 hb, HM⟩)
     exact steps_nil
    rintro _ w79 ⟨v123, v126, v129, rfl, HM⟩
    replace HM := HM.sT 1 rfl rfl
    simp only [putSel, if_true, Act.put, List.setIfInBounds_toArray, List.set_cons_zero, List.set_cons_succ, gt_iff_lt, ge_iff_le]
    have H' := Aside0.mk H
    clear H
    obtain ⟨Xo80, ko80, eo80⟩ := HM.rdR 1 rfl
    subst eo80
    go_wp2
    go_loopg [49] kj2 (fun kq v49 w' => ∃ (x49_2 : Int), v49 = .int .i64 x49_2 ∧ Aside0 (spec_ThreeOk.l0 kq y128 y128 (y128.length : Int) x49_2 a0_0 a0_1 l0_2 l0_3 l0_4 = some r) ∧ Aside0 (kq ≤ kj2) ∧ Mem w [] w' [rowR k95 95 (.slice Xo80 y128.length ko80) y128, box 32 gb118 [.int .i64 a0_0, .int .i64 a0_1, .slice A0_2 l0_2.length c0_2, .slice A0_3 l0_3.length c0_3, .slice A0_4 l0_4.length c0_4]])
    case atStart => exact ⟨(0), RS, H', ⟨Nat.le_refl _⟩, (MD HM).pick [1, 0]⟩
    case round =>
     clear H' HM
     obtain ⟨x49_2, rfl, HA, HK2, HM⟩ := hrel
     cases gk with
     | zero => exact absurd HA.out (by simp [spec_ThreeOk.l0])
     | succ k2 =>
      have H := HA.out
      clear HA
      simp only [spec_ThreeOk.l0] at H
      go_upto_if 50 with (fail)
      replace H := IT H; rcases H with ⟨c81, H⟩ | ⟨c81, H⟩
      ·have c81b0 : decide (x49_2 < (y128.length : Int)) = true := decide_eq_true c81
       clear c81
       (first | rw [c81b0] | (simp only [i64_w, i32_w]; rw [c81b0]) | skip)
       replace H := GD H; obtain ⟨c82, H⟩ := H
       have c82b0 : decide (0 ≤ x49_2) = true := decide_eq_true c82
       clear c82
       replace H := GD H; obtain ⟨c83, H⟩ := H
       have c83b0 : decide (x49_2 < (y128.length : Int)) = true := decide_eq_true c83
       clear c83
       replace H := BN H; obtain ⟨t133, A87, H⟩ := H
       replace H := IB H
       rcases H with ⟨c89, H⟩ | ⟨c89, H⟩
       ·subst c89
        replace H := BN H; obtain ⟨t134, A91, H⟩ := H
        have p131 : 0 ≤ (x49_2 : Int) := of_decide_eq_true AS
        have q131 : (x49_2 : Int) < (y128.length : Int) := of_decide_eq_true AS
        obtain ⟨ad131, e131, hx131_0, hx131_1, hx131_2⟩ := at_T95 (HM.CR 0 rfl).2.2 x49_2 p131 q131
        cases e131
        replace p131 := eq_true p131
        replace q131 := eq_true q131
        go_upto_if 64 with (first | ((with_reducible refine gate_dst (N := 5) rfl ?_); refine pB 5 95 [.string (⟨#[]⟩ : ByteArray), .string (⟨#[]⟩ : ByteArray), .int .i64 0] HM rfl ?_; clear HM; intro gb132 w84 HM) | ((with_reducible refine gate_st (p := 5) rfl ?_); refine pS 2 5 0 [.string ((rd_T95 y128 x49_2).f0), .string ((rd_T95 y128 x49_2).f1), .int .i64 ((rd_T95 y128 x49_2).f2)] HM rfl rfl ?_; clear HM; intro w85 HM; obtain ⟨hcz86_0, hcz86_1, hcz86_2, hfz86_0, hfz86_1, hfz86_2⟩ := bk3 (HM.bx 2 rfl)) | ((with_reducible refine gate_callee (f := 65) rfl ?_); refine pC (some 55) rfl #[.agg #[.string ((rd_T95 y128 x49_2).f0), .string ((rd_T95 y128 x49_2).f1), .int .i64 ((rd_T95 y128 x49_2).f2)]] rfl Try.func65 (spec_ItemOk.calls k2 ((rd_T95 y128 x49_2).f0) ((rd_T95 y128 x49_2).f1) ((rd_T95 y128 x49_2).f2) true _ A87.out) ?_; rintro e w88 ⟨rfl, hR⟩; refine ⟨_, rfl, ?_⟩; replace HM := HM.call hR; clear hR; obtain ⟨hcz90_0, hcz90_1, hcz90_2, hfz90_0, hfz90_1, hfz90_2⟩ := bk3 (HM.bx 2 rfl)) | ((with_reducible refine gate_callee (f := 66) rfl ?_); refine pC (some 61) rfl #[.slice (some ad131) y128.length ko80, .string ((rd_T95 y128 x49_2).f0)] rfl Try.func66 (spec_l10At.calls k2 _ _ y128 ((rd_T95 y128 x49_2).f0) t134 _ (HM.CR 0 rfl).2.2 (HM.CR 0 rfl).2.1 A91.out) ?_; rintro e w92 ⟨rfl, hR⟩; refine ⟨_, rfl, ?_⟩; replace HM := HM.call hR; clear hR))
        replace HM := nzM HM
        replace H := IT H; rcases H with ⟨c93, H⟩ | ⟨c93, H⟩
        ·have c93b0 : (t134 == x49_2) = true := beq_iff_eq.mpr c93
         have c93b1 : (t134 != x49_2) = false := bne_eq_false_iff_eq.mpr c93
         clear c93
         (first | rw [c93b0] | (simp only [i64_w, i32_w]; rw [c93b0]) | skip)
         have H' := Aside0.mk H
         clear H
         go_wp2
         go_roundg k2
         case measure => have := HJ2.out; have := HK2.out; omega
         case rel => exact ⟨(wrap64 (x49_2 + 1)), RS, H', ⟨by have := HJ2.out; have := HK2.out; omega⟩, (MD HM).pick [0, 1]⟩
        ·have c93b0 : (t134 == x49_2) = false := beq_eq_false_iff_ne.mpr c93
         have c93b1 : (t134 != x49_2) = true := bne_iff_ne.mpr c93
         (first | rw [c93b0] | (simp only [i64_w, i32_w]; rw [c93b0]) | skip)
         obtain rfl := Option.some.inj H
         go_wp2
         go_ret
         exact ⟨ER, (MD HM).pick []⟩
       ·subst c89
        obtain rfl := Option.some.inj H
        have p131 : 0 ≤ (x49_2 : Int) := of_decide_eq_true AS
        have q131 : (x49_2 : Int) < (y128.length : Int) := of_decide_eq_true AS
        obtain ⟨ad131, e131, hx131_0, hx131_1, hx131_2⟩ := at_T95 (HM.CR 0 rfl).2.2 x49_2 p131 q131
        cases e131
        replace p131 := eq_true p131
        replace q131 := eq_true q131
        go_wp2_with (first | ((with_reducible refine gate_dst (N := 5) rfl ?_); refine pB 5 95 [.string (⟨#[]⟩ : ByteArray), .string (⟨#[]⟩ : ByteArray), .int .i64 0] HM rfl ?_; clear HM; intro gb132 w84 HM) | ((with_reducible refine gate_st (p := 5) rfl ?_); refine pS 2 5 0 [.string ((rd_T95 y128 x49_2).f0), .string ((rd_T95 y128 x49_2).f1), .int .i64 ((rd_T95 y128 x49_2).f2)] HM rfl rfl ?_; clear HM; intro w85 HM; obtain ⟨hcz86_0, hcz86_1, hcz86_2, hfz86_0, hfz86_1, hfz86_2⟩ := bk3 (HM.bx 2 rfl)) | ((with_reducible refine gate_callee (f := 65) rfl ?_); refine pC (some 55) rfl #[.agg #[.string ((rd_T95 y128 x49_2).f0), .string ((rd_T95 y128 x49_2).f1), .int .i64 ((rd_T95 y128 x49_2).f2)]] rfl Try.func65 (spec_ItemOk.calls k2 ((rd_T95 y128 x49_2).f0) ((rd_T95 y128 x49_2).f1) ((rd_T95 y128 x49_2).f2) false _ A87.out) ?_; rintro e w88 ⟨rfl, hR⟩; refine ⟨_, rfl, ?_⟩; replace HM := HM.call hR; clear hR))
        go_ret
        exact ⟨ER, (MD HM).pick []⟩
      ·have c81b0 : decide (x49_2 < (y128.length : Int)) = false := decide_eq_false c81
       clear c81
       (first | rw [c81b0] | (simp only [i64_w, i32_w]; rw [c81b0]) | skip)
       have H' := Aside0.mk H
       clear H
       obtain ⟨hcz94_0, hcz94_1, hcz94_2, hcz94_3, hcz94_4, hfz94_0, hfz94_1, hfz94_2, hfz94_3, hfz94_4⟩ := bk5 (HM.bx 1 rfl)
       go_wp2
       go_loopg [69] k2 (fun kq v69 w' => ∃ (x69_3 : Int), v69 = .int .i64 x69_3 ∧ Aside0 (spec_ThreeOk.l1 kq l0_4 (l0_4.length : Int) x69_3 a0_0 a0_1 l0_2 l0_3 l0_4 = some r) ∧ Aside0 (kq ≤ k2) ∧ Mem w [] w' [box 32 gb118 [.int .i64 a0_0, .int .i64 a0_1, .slice A0_2 l0_2.length c0_2, .slice A0_3 l0_3.length c0_3, .slice A0_4 l0_4.length c0_4]])
       case atStart => exact ⟨(0), RS, H', ⟨Nat.le_refl _⟩, (MD HM).pick [1]⟩
       case round =>
        clear H' HM
        obtain ⟨x69_3, rfl, HA, HK3, HM⟩ := hrel
        cases gk with
        | zero => exact absurd HA.out (by simp [spec_ThreeOk.l1])
        | succ k3 =>
         have H := HA.out
         clear HA
         simp only [spec_ThreeOk.l1] at H
         go_upto_if 70 with (fail)
         replace H := IT H; rcases H with ⟨c95, H⟩ | ⟨c95, H⟩
         ·have c95b0 : decide (x69_3 < (l0_4.length : Int)) = true := decide_eq_true c95
          clear c95
          (first | rw [c95b0] | (simp only [i64_w, i32_w]; rw [c95b0]) | skip)
          replace H := GD H; obtain ⟨c96, H⟩ := H
          have c96b0 : decide (0 ≤ x69_3) = true := decide_eq_true c96
          clear c96
          replace H := GD H; obtain ⟨c97, H⟩ := H
          have c97b0 : decide (x69_3 < (l0_4.length : Int)) = true := decide_eq_true c97
          clear c97
          replace H := BN H; obtain ⟨t136, A98, H⟩ := H
          replace H := IB H
          rcases H with ⟨c100, H⟩ | ⟨c100, H⟩
          ·subst c100
           have c102b0 := eq_true (of_decide_eq_true AS : 0 ≤ x69_3)
           replace H := GD H; obtain ⟨c103, H⟩ := H
           have c103b0 := eq_true c103
           have c103b1 : decide (x69_3 ≤ (l0_4.length : Int)) = true := decide_eq_true c103
           clear c103
           replace H := BN H; obtain ⟨t138, A105, H⟩ := H
           have p135 : 0 ≤ (x69_3 : Int) := of_decide_eq_true AS
           have q135 : (x69_3 : Int) < (l0_4.length : Int) := of_decide_eq_true AS
           obtain ⟨ad135, e135, hx135_0⟩ := Kd.at_int (HM.came HR0_4.out) x69_3 p135 q135
           cases e135
           replace p135 := eq_true p135
           replace q135 := eq_true q135
           go_upto_if 84 with (first | ((with_reducible refine gate_callee (f := 67) rfl ?_); refine pC (some 75) rfl #[.int .i64 (rd l0_4 x69_3)] rfl Try.func67 (spec_l01Num.calls (rd l0_4 x69_3) true _ A98.out) ?_; rintro e w99 ⟨rfl, hd⟩; refine ⟨_, rfl, ?_⟩; replace HM := HM.drawn hd; clear hd; obtain ⟨hcz101_0, hcz101_1, hcz101_2, hcz101_3, hcz101_4, hfz101_0, hfz101_1, hfz101_2, hfz101_3, hfz101_4⟩ := bk5 (HM.bx 0 rfl)) | ((with_reducible refine gate_sl (t := 23) rfl ?_); refine pRt 23 3 (Kd.int .i64) _ _ x69_3 l0_4 (some ad135) c0_4 rfl Try.underlying23 info3 (HM.came HR0_4.out) HC0_4.out (of_decide_eq_true AS) (of_decide_eq_true AS) ?_; intro Yx104 bx104 hYx104 hbx104; have HYx104 := Aside0.mk hYx104; have HBx104 := Aside0.mk hbx104; clear hYx104 hbx104; have hlx104 : (l0_4.take (x69_3 : Int).toNat).length = (x69_3 : Int).toNat := by rw [List.length_take]; have h_ : (x69_3 : Int) ≤ ((l0_4.length : Int) : Int) := of_decide_eq_true AS; omega) | ((with_reducible refine gate_callee (f := 68) rfl ?_); refine pC (some 83) rfl #[.slice Yx104 (l0_4.take (x69_3 : Int).toNat).length bx104, .int .i64 (rd l0_4 x69_3)] rfl Try.func68 (spec_l03Has.calls k3 _ _ (l0_4.take (x69_3 : Int).toNat) (rd l0_4 x69_3) t138 _ HYx104.out HBx104.out A105.out) ?_ (hargs := by (try simp only [List.map_toArray, List.map_cons, List.map_nil]); first | done | rfl | (rw [hlx104]; rfl) | (simp only [List.length_take]; rfl)); rintro e w106 ⟨rfl, hd⟩; refine ⟨_, rfl, ?_⟩; replace HM := HM.drawn hd; clear hd))
           replace H := IB H
           rcases H with ⟨c107, H⟩ | ⟨c107, H⟩
           ·subst c107
            obtain rfl := Option.some.inj H
            go_wp2
            go_ret
            exact ⟨ER, (MD HM).pick []⟩
           ·subst c107
            have H' := Aside0.mk H
            clear H
            go_wp2
            go_roundg k3
            case measure => have := HJ2.out; have := HK2.out; have := HK3.out; omega
            case rel => exact ⟨(wrap64 (x69_3 + 1)), RS, H', ⟨by have := HJ2.out; have := HK2.out; have := HK3.out; omega⟩, (MD HM).pick [0]⟩
          ·subst c100
           obtain rfl := Option.some.inj H
           have p135 : 0 ≤ (x69_3 : Int) := of_decide_eq_true AS
           have q135 : (x69_3 : Int) < (l0_4.length : Int) := of_decide_eq_true AS
           obtain ⟨ad135, e135, hx135_0⟩ := Kd.at_int (HM.came HR0_4.out) x69_3 p135 q135
           cases e135
           replace p135 := eq_true p135
           replace q135 := eq_true q135
           go_wp2_with (first | ((with_reducible refine gate_callee (f := 67) rfl ?_); refine pC (some 75) rfl #[.int .i64 (rd l0_4 x69_3)] rfl Try.func67 (spec_l01Num.calls (rd l0_4 x69_3) false _ A98.out) ?_; rintro e w99 ⟨rfl, hd⟩; refine ⟨_, rfl, ?_⟩; replace HM := HM.drawn hd; clear hd))
           go_ret
           exact ⟨ER, (MD HM).pick []⟩
         ·have c95b0 : decide (x69_3 < (l0_4.length : Int)) = false := decide_eq_false c95
          clear c95
          (first | rw [c95b0] | (simp only [i64_w, i32_w]; rw [c95b0]) | skip)
          obtain rfl := Option.some.inj H
          go_wp2
          go_ret
          exact ⟨ER, (MD HM).pick []⟩
def spec_ThreeNew.f (k : Nat) (a0 : Int) (a1 : Int) : Option (Int × Int × (List (S95)) × (List (S95)) × List Int × Bool) := (spec_ThreeOk.f k a0 a1 ([] : List (S95)) ([] : List (S95)) ([] : List Int)).bind fun t1270 => (if t1270 = true then (some (a0, a1, ([] : List (S95)), ([] : List (S95)), ([] : List Int), true)) else (some (0, 0, ([] : List (S95)), ([] : List (S95)), ([] : List Int), false)))
theorem spec_ThreeNew.mono : ∀ a0 a1 k, LeO (spec_ThreeNew.f k a0 a1) (spec_ThreeNew.f (k + 1) a0 a1) := by
 intro a0 a1 k
 unfold spec_ThreeNew.f
 repeat' first | (with_reducible first | exact spec_ThreeOk.mono _ _ _ _ _ _ | exact LeO.refl _ | exact LeO.none _ | refine LeO.ite ?_ ?_ | refine LeO.bind ?_ (fun _ => ?_)) | exact spec_ThreeOk.mono _ _ _ _ _ _ | exact LeO.none _ | refine LeO.ite ?_ ?_ | refine LeO.bind ?_ (fun _ => ?_)
set_option maxHeartbeats 8000000 in
set_option maxRecDepth 100000 in
theorem spec_ThreeNew.calls (k : Nat) (a0 : Int) (a1 : Int) (r1 : Int) (r2 : Int) (r3 : List (S95)) (r4 : List (S95)) (r5 : List Int) (r6 : Bool) (w : World)  (h : spec_ThreeNew.f k a0 a1 = some (r1, r2, r3, r4, r5, r6)) :
  Calls Try.prog 85 #[.int .i64 a0, .int .i64 a1] w fun e w' => ∃ v2_ v3_ v4_ : Value, e = .returned (.tuple #[.agg #[.int .i64 r1, .int .i64 r2, v2_, v3_, v4_], .bool r6]) ∧ Mem w [] w' [rowR k95 95 v2_ r3, rowR k95 95 v3_ r4, rowR (Kd.int .i64) 3 v4_ r5] := by
 have hu32 := Try.underlying32
 have HM := Mem.nil w
 have H := h
 clear h
 unfold spec_ThreeNew.f at H
 go_enter Try.func85, Try.ntmps85
 replace H := BN H; obtain ⟨t1270, A7, H⟩ := H
 go_upto_if 12 with (first | ((with_reducible refine gate_dst (N := 4) rfl ?_); refine pB 4 32 [.int .i64 0, .int .i64 0, .slice none 0 0, .slice none 0 0, .slice none 0 0] HM rfl ?_; clear HM; intro gb1268 w3 HM) | ((with_reducible refine gate_dst (N := 6) rfl ?_); refine pB 6 32 [.int .i64 0, .int .i64 0, .slice none 0 0, .slice none 0 0, .slice none 0 0] HM rfl ?_; clear HM; intro gb1269 w4 HM) | ((with_reducible refine gate_st (p := 6) rfl ?_); refine pS 1 6 0 [.int .i64 a0, .int .i64 a1, .slice none 0 0, .slice none 0 0, .slice none 0 0] HM rfl rfl ?_; clear HM; intro w5 HM; obtain ⟨hcz6_0, hcz6_1, hcz6_2, hcz6_3, hcz6_4, hfz6_0, hfz6_1, hfz6_2, hfz6_3, hfz6_4⟩ := bk5 (HM.bx 1 rfl)) | ((with_reducible refine gate_callee (f := 32) rfl ?_); refine pC (some 11) rfl #[.agg #[.int .i64 a0, .int .i64 a1, .slice none 0 0, .slice none 0 0, .slice none 0 0]] rfl Try.func32 (spec_ThreeOk.calls k a0 a1 _ _ ([] : List (S95)) _ _ ([] : List (S95)) _ _ ([] : List Int) t1270 _ (Kd.C_nil _ _) (Nat.le_refl _) (Kd.C_nil _ _) (Nat.le_refl _) (Kd.C_nil _ _) (Nat.le_refl _) A7.out) ?_; rintro e w8 ⟨rfl, hR⟩; refine ⟨_, rfl, ?_⟩; replace HM := HM.call hR; clear hR))
 replace HM := nzM HM
 replace H := IB H
 rcases H with ⟨c9, H⟩ | ⟨c9, H⟩
 ·subst c9
  simp only [Option.some.injEq, Prod.mk.injEq] at H
  obtain ⟨rfl, rfl, rfl, rfl, rfl, rfl⟩ := H
  obtain ⟨hcz10_0, hcz10_1, hcz10_2, hcz10_3, hcz10_4, hfz10_0, hfz10_1, hfz10_2, hfz10_3, hfz10_4⟩ := bk5 (HM.bx 1 rfl)
  go_wp2_with (first | ((with_reducible refine gate_st (p := 4) rfl ?_); refine pS 0 4 0 [.int .i64 a0, .int .i64 a1, .slice none 0 0, .slice none 0 0, .slice none 0 0] HM rfl rfl ?_; clear HM; intro w11 HM; replace HM := HM.nl k95 95; replace HM := HM.nl k95 95; replace HM := HM.nl (Kd.int .i64) 3))
  refine bodyPost_ret (results_ct rfl _ _ gb1268 32 #[.int .i64 a0, .int .i64 a1, .slice none 0 0, .slice none 0 0, .slice none 0 0] (0, 0) _ rfl (HM.bx 0 rfl) Try.underlying32 rfl (by kernel_rfl)) rfl ?_
  exact ⟨_, _, _, ER, (MD HM).pick [2, 3, 4]⟩
 ·subst c9
  simp only [Option.some.injEq, Prod.mk.injEq] at H
  obtain ⟨rfl, rfl, rfl, rfl, rfl, rfl⟩ := H
  go_wp2_with (first | ((with_reducible refine gate_st (p := 4) rfl ?_); refine pS 0 4 0 [.int .i64 0, .int .i64 0, .slice none 0 0, .slice none 0 0, .slice none 0 0] HM rfl rfl ?_; clear HM; intro w12 HM; replace HM := HM.nl k95 95; replace HM := HM.nl k95 95; replace HM := HM.nl (Kd.int .i64) 3))
  refine bodyPost_ret (results_ct rfl _ _ gb1268 32 #[.int .i64 0, .int .i64 0, .slice none 0 0, .slice none 0 0, .slice none 0 0] (0, 0) _ rfl (HM.bx 0 rfl) Try.underlying32 rfl (by kernel_rfl)) rfl ?_
  exact ⟨_, _, _, ER, (MD HM).pick [2, 3, 4]⟩
def spec_l10Copy.f (a0_0 : Int) (a0_1 : Int) (l0_2 : List (S95)) (l0_3 : List (S95)) (l0_4 : List Int) : Option (Int × Int × (List (S95)) × (List (S95)) × List Int) := (some (([] : List (S95)) : List (S95))).bind fun y143 => (if y143.length + l0_2.length < 3518437208883 then ((some (([] : List (S95)) : List (S95))).bind fun y149 => (if y149.length + l0_3.length < 3518437208883 then ((some (([] : List Int) : List Int)).bind fun y155 => (if y155.length + l0_4.length < 17592186044416 then (some (a0_0, a0_1, (y143 ++ l0_2), (y149 ++ l0_3), (y155 ++ l0_4))) else (none))) else (none))) else (none))
def spec_l10Copy.T1 : Bool × List (List Nat × List Nat) := (true, [([], []), ([0], [0]), ([], []), ([2], [2]), ([], []), ([], []), ([5], [5]), ([4, 6], [4, 6]), ([], []), ([], []), ([9], [9]), ([8, 10, 7], [8, 10]), ([], []), ([], []), ([13], [13]), ([12, 14, 11], [12, 14]), ([1, 3, 7, 11, 15], [1, 3, 7, 11, 15]), ([16, 15, 0, 1, 2, 3, 4, 5, 6, 7, 8, 9, 10, 11, 12, 13, 14, 15, 16], [16])])
def spec_l10Copy.B1 : List Nat := [0, 1, 0, 4, 0, 0, 32, 112, 0, 0, 512, 2032, 0, 0, 8192, 32752, 65535, 131071]
theorem spec_l10Copy.tab1 : rtab .any (opsOf Try.f48 1) = spec_l10Copy.T1 := by kernel_rfl
theorem spec_l10Copy.bits1 : waitsOk spec_l10Copy.T1.2 spec_l10Copy.B1 = true := by kernel_rfl
set_option maxHeartbeats 8000000 in
set_option maxRecDepth 100000 in
theorem spec_l10Copy.calls (a0_0 : Int) (a0_1 : Int) (A0_2 : Option Addr) (c0_2 : Nat) (l0_2 : List (S95)) (A0_3 : Option Addr) (c0_3 : Nat) (l0_3 : List (S95)) (A0_4 : Option Addr) (c0_4 : Nat) (l0_4 : List Int) (r1 : Int) (r2 : Int) (r3 : List (S95)) (r4 : List (S95)) (r5 : List Int) (w : World) (hr0_2 : Kd.C k95 w A0_2 l0_2.length l0_2) (hc0_2 : l0_2.length ≤ c0_2) (hr0_3 : Kd.C k95 w A0_3 l0_3.length l0_3) (hc0_3 : l0_3.length ≤ c0_3) (hr0_4 : Kd.C (Kd.int .i64) w A0_4 l0_4.length l0_4) (hc0_4 : l0_4.length ≤ c0_4) (h : spec_l10Copy.f a0_0 a0_1 l0_2 l0_3 l0_4 = some (r1, r2, r3, r4, r5)) :
  Calls Try.prog 48 #[.agg #[.int .i64 a0_0, .int .i64 a0_1, .slice A0_2 l0_2.length c0_2, .slice A0_3 l0_3.length c0_3, .slice A0_4 l0_4.length c0_4]] w fun e w' => ∃ v2_ v3_ v4_ : Value, e = .returned (.agg #[.int .i64 r1, .int .i64 r2, v2_, v3_, v4_]) ∧ Mem w [] w' [rowR k95 95 v2_ r3, rowR k95 95 v3_ r4, rowR (Kd.int .i64) 3 v4_ r5] := by
 have hu32 := Try.underlying32
 have HR0_2 := Aside0.mk hr0_2
 have HC0_2 := Aside0.mk hc0_2
 clear hr0_2 hc0_2
 have HR0_3 := Aside0.mk hr0_3
 have HC0_3 := Aside0.mk hc0_3
 clear hr0_3 hc0_3
 have HR0_4 := Aside0.mk hr0_4
 have HC0_4 := Aside0.mk hc0_4
 clear hr0_4 hc0_4
 have HM := Mem.nil w
 have H := h
 clear h
 unfold spec_l10Copy.f at H
 go_enter Try.func48, Try.ntmps48
 try go_wp2_with (first | ((with_reducible refine gate_dst (N := 1) rfl ?_); refine pB 1 32 [.int .i64 a0_0, .int .i64 a0_1, .slice A0_2 l0_2.length c0_2, .slice A0_3 l0_3.length c0_3, .slice A0_4 l0_4.length c0_4] HM rfl ?_; clear HM; intro gb141 w2 HM) | ((with_reducible refine gate_dst (N := 2) rfl ?_); refine pB 2 32 [.int .i64 0, .int .i64 0, .slice none 0 0, .slice none 0 0, .slice none 0 0] HM rfl ?_; clear HM; intro gb142 w3 HM))
 replace H := BLt H; obtain ⟨y143, Ny143, H⟩ := H
 replace Ny143 := Aside0.mk Ny143
 replace H := GD H; obtain ⟨c4, H⟩ := H
 have LMc4 := Aside0.mk c4
 clear c4
 replace H := BLt H; obtain ⟨y149, Ny149, H⟩ := H
 replace Ny149 := Aside0.mk Ny149
 replace H := GD H; obtain ⟨c5, H⟩ := H
 have LMc5 := Aside0.mk c5
 clear c5
 replace H := BLt H; obtain ⟨y155, Ny155, H⟩ := H
 replace Ny155 := Aside0.mk Ny155
 replace H := GD H; obtain ⟨c6, H⟩ := H
 have LMc6 := Aside0.mk c6
 clear c6
 refine RGN 18 [0, 1, 2, 3, 4, 5, 6, 7, 8, 9, 10, 11, 12, 13, 14, 15, 16, 17] (fun a0 b a w' => ∃ (v144 : Value) (v147 : Value) (v150 : Value) (v153 : Value) (v156 : Value) (v159 : Value), a = putSel a0 b [(0, 3, .pointer (some ⟨gb141, 0, none⟩)), (1, 4, .int .i64 a0_0), (2, 5, .pointer (some ⟨gb141, 1, none⟩)), (3, 6, .int .i64 a0_1), (4, 7, v144), (5, 8, .pointer (some ⟨gb141, 2, none⟩)), (6, 9, .slice A0_2 l0_2.length c0_2), (7, 10, v147), (8, 11, v150), (9, 12, .pointer (some ⟨gb141, 3, none⟩)), (10, 13, .slice A0_3 l0_3.length c0_3), (11, 14, v153), (12, 15, v156), (13, 16, .pointer (some ⟨gb141, 4, none⟩)), (14, 17, .slice A0_4 l0_4.length c0_4), (15, 18, v159), (16, 19, .agg #[.int .i64 a0_0, .int .i64 a0_1, v147, v153, v159])] ∧ Mem w [] w' [box 32 gb141 [.int .i64 a0_0, .int .i64 a0_1, .slice A0_2 l0_2.length c0_2, .slice A0_3 l0_3.length c0_3, .slice A0_4 l0_4.length c0_4], sel (b 17) (box 32 gb142 [.int .i64 a0_0, .int .i64 a0_1, v147, v153, v159]) (box 32 gb142 [.int .i64 0, .int .i64 0, .slice none 0 0, .slice none 0 0, .slice none 0 0]), sel (b 7) (rowR k95 95 v147 (y143 ++ l0_2)) (sel (b 4) (rowR k95 95 v144 y143) (emp)), sel (b 11) (rowR k95 95 v153 (y149 ++ l0_3)) (sel (b 8) (rowR k95 95 v150 y149) (emp)), sel (b 15) (rowR (Kd.int .i64) 3 v159 (y155 ++ l0_4)) (sel (b 12) (rowR (Kd.int .i64) 3 v156 y155) (emp))]) spec_l10Copy.tab1 spec_l10Copy.bits1 ?_ ?_ ?_
 ·exact ⟨.bool false, .bool false, .bool false, .bool false, .bool false, .bool false, PS0' rfl _, (HM.drew.ems 3).pick [0, 1, 2, 3, 4]⟩
 ·clear HM
  refine steps_cons ?_ ?_
  ·rintro b a w ⟨v144, v147, v150, v153, v156, v159, ha, HM⟩ hb hon hoff
   refine ⟨_, rfl, fun K hK => ?_⟩
   have e1 := POF ha 1
   replace ha := Aside0.mk ha
   exact VL (.pointer (some ⟨gb141, 0, none⟩)) (hK.out _ _ ⟨v144, v147, v150, v153, v156, v159, PUT ha 0 hb, HM⟩)
  refine steps_cons ?_ ?_
  ·rintro b a w ⟨v144, v147, v150, v153, v156, v159, ha, HM⟩ hb hon hoff
   refine ⟨_, rfl, fun K hK => ?_⟩
   obtain ⟨hcz25_0, hcz25_1, hcz25_2, hcz25_3, hcz25_4, hfz25_0, hfz25_1, hfz25_2, hfz25_3, hfz25_4⟩ := bk5 (HM.bx 0 rfl)
   have e3 := PON ha 0 (hon 0 (by kernel_rfl))
   replace ha := Aside0.mk ha
   exact VL (.int .i64 a0_0) (hK.out _ _ ⟨v144, v147, v150, v153, v156, v159, PUT ha 1 hb, HM⟩)
  refine steps_cons ?_ ?_
  ·rintro b a w ⟨v144, v147, v150, v153, v156, v159, ha, HM⟩ hb hon hoff
   refine ⟨_, rfl, fun K hK => ?_⟩
   have e1 := POF ha 1
   replace ha := Aside0.mk ha
   exact VL (.pointer (some ⟨gb141, 1, none⟩)) (hK.out _ _ ⟨v144, v147, v150, v153, v156, v159, PUT ha 2 hb, HM⟩)
  refine steps_cons ?_ ?_
  ·rintro b a w ⟨v144, v147, v150, v153, v156, v159, ha, HM⟩ hb hon hoff
   refine ⟨_, rfl, fun K hK => ?_⟩
   obtain ⟨hcz26_0, hcz26_1, hcz26_2, hcz26_3, hcz26_4, hfz26_0, hfz26_1, hfz26_2, hfz26_3, hfz26_4⟩ := bk5 (HM.bx 0 rfl)
   have e5 := PON ha 2 (hon 2 (by kernel_rfl))
   replace ha := Aside0.mk ha
   exact VL (.int .i64 a0_1) (hK.out _ _ ⟨v144, v147, v150, v153, v156, v159, PUT ha 3 hb, HM⟩)
  refine steps_cons ?_ ?_
  ·rintro b a w ⟨v144, v147, v150, v153, v156, v159, ha, HM⟩ hb hon hoff
   refine ⟨_, rfl, fun K hK => ?_⟩
   replace ha := Aside0.mk ha
   refine ST (eL 7 k95 95 ([] : List (S95)) [] (Reps.none _ _) HM rfl ?_)
   clear HM
   intro v144 w27 HM
   replace HM := HM.nm 5 rfl Ny143.out
   exact hK.out _ _ ⟨v144, v147, v150, v153, v156, v159, PUT ha 4 hb, (HM.iF 5 rfl (hoff 7 (by kernel_rfl))).pick [0, 1, 5, 3, 4]⟩
  refine steps_cons ?_ ?_
  ·rintro b a w ⟨v144, v147, v150, v153, v156, v159, ha, HM⟩ hb hon hoff
   refine ⟨_, rfl, fun K hK => ?_⟩
   have e1 := POF ha 1
   replace ha := Aside0.mk ha
   exact VL (.pointer (some ⟨gb141, 2, none⟩)) (hK.out _ _ ⟨v144, v147, v150, v153, v156, v159, PUT ha 5 hb, HM⟩)
  refine steps_cons ?_ ?_
  ·rintro b a w ⟨v144, v147, v150, v153, v156, v159, ha, HM⟩ hb hon hoff
   refine ⟨_, rfl, fun K hK => ?_⟩
   obtain ⟨hcz28_0, hcz28_1, hcz28_2, hcz28_3, hcz28_4, hfz28_0, hfz28_1, hfz28_2, hfz28_3, hfz28_4⟩ := bk5 (HM.bx 0 rfl)
   have e8 := PON ha 5 (hon 5 (by kernel_rfl))
   replace ha := Aside0.mk ha
   exact VL (.slice A0_2 l0_2.length c0_2) (hK.out _ _ ⟨v144, v147, v150, v153, v156, v159, PUT ha 6 hb, HM⟩)
  refine steps_cons ?_ ?_
  ·rintro b a w ⟨v144, v147, v150, v153, v156, v159, ha, HM⟩ hb hon hoff
   refine ⟨_, rfl, fun K hK => ?_⟩
   replace HM := (HM.sF 2 rfl hb).sT 2 rfl (hon 4 (by kernel_rfl))
   have e7 := PON ha 4 (hon 4 (by kernel_rfl))
   have e9 := PON ha 6 (hon 6 (by kernel_rfl))
   replace ha := Aside0.mk ha
   refine ST (eA 2 (.tmp 7) (.tmp 9) 30 95 k95 v144 y143 l0_2 A0_2 l0_2.length c0_2 HM rfl Try.underlying30 info95 rfl (HM.came HR0_2.out) (by have h_ := LMc4.out; omega) ?_ (ops := #[]) (hw := by rfl) (hs := (eval_of e7)) (hx := (eval_of e9)))
   clear HM
   intro v147 w29 HM
   exact hK.out _ _ ⟨v144, v147, v150, v153, v156, v159, PUT (PCH ha 16 (hoff 16 (by kernel_rfl))) 7 hb, ((HM.sF 1 rfl (hoff 17 (by kernel_rfl))).iF 1 rfl (hoff 17 (by kernel_rfl))).pick [0, 1, 2, 3, 4]⟩
  refine steps_cons ?_ ?_
  ·rintro b a w ⟨v144, v147, v150, v153, v156, v159, ha, HM⟩ hb hon hoff
   refine ⟨_, rfl, fun K hK => ?_⟩
   replace ha := Aside0.mk ha
   refine ST (eL 11 k95 95 ([] : List (S95)) [] (Reps.none _ _) HM rfl ?_)
   clear HM
   intro v150 w30 HM
   replace HM := HM.nm 5 rfl Ny149.out
   exact hK.out _ _ ⟨v144, v147, v150, v153, v156, v159, PUT ha 8 hb, (HM.iF 5 rfl (hoff 11 (by kernel_rfl))).pick [0, 1, 2, 5, 4]⟩
  refine steps_cons ?_ ?_
  ·rintro b a w ⟨v144, v147, v150, v153, v156, v159, ha, HM⟩ hb hon hoff
   refine ⟨_, rfl, fun K hK => ?_⟩
   have e1 := POF ha 1
   replace ha := Aside0.mk ha
   exact VL (.pointer (some ⟨gb141, 3, none⟩)) (hK.out _ _ ⟨v144, v147, v150, v153, v156, v159, PUT ha 9 hb, HM⟩)
  refine steps_cons ?_ ?_
  ·rintro b a w ⟨v144, v147, v150, v153, v156, v159, ha, HM⟩ hb hon hoff
   refine ⟨_, rfl, fun K hK => ?_⟩
   obtain ⟨hcz31_0, hcz31_1, hcz31_2, hcz31_3, hcz31_4, hfz31_0, hfz31_1, hfz31_2, hfz31_3, hfz31_4⟩ := bk5 (HM.bx 0 rfl)
   have e12 := PON ha 9 (hon 9 (by kernel_rfl))
   replace ha := Aside0.mk ha
   exact VL (.slice A0_3 l0_3.length c0_3) (hK.out _ _ ⟨v144, v147, v150, v153, v156, v159, PUT ha 10 hb, HM⟩)
  refine steps_cons ?_ ?_
  ·rintro b a w ⟨v144, v147, v150, v153, v156, v159, ha, HM⟩ hb hon hoff
   refine ⟨_, rfl, fun K hK => ?_⟩
   replace HM := (HM.sF 3 rfl hb).sT 3 rfl (hon 8 (by kernel_rfl))
   have e11 := PON ha 8 (hon 8 (by kernel_rfl))
   have e13 := PON ha 10 (hon 10 (by kernel_rfl))
   replace ha := Aside0.mk ha
   refine ST (eA 3 (.tmp 11) (.tmp 13) 30 95 k95 v150 y149 l0_3 A0_3 l0_3.length c0_3 HM rfl Try.underlying30 info95 rfl (HM.came HR0_3.out) (by have h_ := LMc5.out; omega) ?_ (ops := #[]) (hw := by rfl) (hs := (eval_of e11)) (hx := (eval_of e13)))
   clear HM
   intro v153 w32 HM
   exact hK.out _ _ ⟨v144, v147, v150, v153, v156, v159, PUT (PCH ha 16 (hoff 16 (by kernel_rfl))) 11 hb, ((HM.sF 1 rfl (hoff 17 (by kernel_rfl))).iF 1 rfl (hoff 17 (by kernel_rfl))).pick [0, 1, 2, 3, 4]⟩
  refine steps_cons ?_ ?_
  ·rintro b a w ⟨v144, v147, v150, v153, v156, v159, ha, HM⟩ hb hon hoff
   refine ⟨_, rfl, fun K hK => ?_⟩
   replace ha := Aside0.mk ha
   refine ST (eL 15 (Kd.int .i64) 3 ([] : List Int) [] (Reps.none _ _) HM rfl ?_)
   clear HM
   intro v156 w33 HM
   replace HM := HM.nm 5 rfl Ny155.out
   exact hK.out _ _ ⟨v144, v147, v150, v153, v156, v159, PUT ha 12 hb, (HM.iF 5 rfl (hoff 15 (by kernel_rfl))).pick [0, 1, 2, 3, 5]⟩
  refine steps_cons ?_ ?_
  ·rintro b a w ⟨v144, v147, v150, v153, v156, v159, ha, HM⟩ hb hon hoff
   refine ⟨_, rfl, fun K hK => ?_⟩
   have e1 := POF ha 1
   replace ha := Aside0.mk ha
   exact VL (.pointer (some ⟨gb141, 4, none⟩)) (hK.out _ _ ⟨v144, v147, v150, v153, v156, v159, PUT ha 13 hb, HM⟩)
  refine steps_cons ?_ ?_
  ·rintro b a w ⟨v144, v147, v150, v153, v156, v159, ha, HM⟩ hb hon hoff
   refine ⟨_, rfl, fun K hK => ?_⟩
   obtain ⟨hcz34_0, hcz34_1, hcz34_2, hcz34_3, hcz34_4, hfz34_0, hfz34_1, hfz34_2, hfz34_3, hfz34_4⟩ := bk5 (HM.bx 0 rfl)
   have e16 := PON ha 13 (hon 13 (by kernel_rfl))
   replace ha := Aside0.mk ha
   exact VL (.slice A0_4 l0_4.length c0_4) (hK.out _ _ ⟨v144, v147, v150, v153, v156, v159, PUT ha 14 hb, HM⟩)
  refine steps_cons ?_ ?_
  ·rintro b a w ⟨v144, v147, v150, v153, v156, v159, ha, HM⟩ hb hon hoff
   refine ⟨_, rfl, fun K hK => ?_⟩
   replace HM := (HM.sF 4 rfl hb).sT 4 rfl (hon 12 (by kernel_rfl))
   have e15 := PON ha 12 (hon 12 (by kernel_rfl))
   have e17 := PON ha 14 (hon 14 (by kernel_rfl))
   replace ha := Aside0.mk ha
   refine ST (eA 4 (.tmp 15) (.tmp 17) 23 3 (Kd.int .i64) v156 y155 l0_4 A0_4 l0_4.length c0_4 HM rfl Try.underlying23 info3 rfl (HM.came HR0_4.out) (by have h_ := LMc6.out; omega) ?_ (ops := #[]) (hw := by rfl) (hs := (eval_of e15)) (hx := (eval_of e17)))
   clear HM
   intro v159 w35 HM
   exact hK.out _ _ ⟨v144, v147, v150, v153, v156, v159, PUT (PCH ha 16 (hoff 16 (by kernel_rfl))) 15 hb, ((HM.sF 1 rfl (hoff 17 (by kernel_rfl))).iF 1 rfl (hoff 17 (by kernel_rfl))).pick [0, 1, 2, 3, 4]⟩
  refine steps_cons ?_ ?_
  ·rintro b a w ⟨v144, v147, v150, v153, v156, v159, ha, HM⟩ hb hon hoff
   refine ⟨_, rfl, fun K hK => ?_⟩
   have HZ := HM
   replace HM := HM.sT 2 rfl (hon 7 (by kernel_rfl))
   replace HM := HM.sT 3 rfl (hon 11 (by kernel_rfl))
   replace HM := HM.sT 4 rfl (hon 15 (by kernel_rfl))
   obtain ⟨Xo36, ko36, eo36⟩ := HM.rdR 4 rfl
   subst eo36
   obtain ⟨Xo37, ko37, eo37⟩ := HM.rdR 3 rfl
   subst eo37
   obtain ⟨Xo38, ko38, eo38⟩ := HM.rdR 2 rfl
   subst eo38
   have e4 := PON ha 1 (hon 1 (by kernel_rfl))
   have e6 := PON ha 3 (hon 3 (by kernel_rfl))
   have e10 := PON ha 7 (hon 7 (by kernel_rfl))
   have e14 := PON ha 11 (hon 11 (by kernel_rfl))
   have e18 := PON ha 15 (hon 15 (by kernel_rfl))
   replace ha := Aside0.mk ha
   exact VL (.agg #[.int .i64 a0_0, .int .i64 a0_1, .slice Xo38 (y143 ++ l0_2).length ko38, .slice Xo37 (y149 ++ l0_3).length ko37, .slice Xo36 (y155 ++ l0_4).length ko36]) (hK.out _ _ ⟨v144, .slice Xo38 (y143 ++ l0_2).length ko38, v150, .slice Xo37 (y149 ++ l0_3).length ko37, v156, .slice Xo36 (y155 ++ l0_4).length ko36, PUT ha 16 hb, HZ⟩)
  refine steps_cons ?_ ?_
  ·rintro b a w ⟨v144, v147, v150, v153, v156, v159, ha, HM⟩ hb hon hoff
   refine ⟨_, rfl, fun K hK => ?_⟩
   replace HM := HM.sF 1 rfl hb
   replace HM := HM.sT 2 rfl (hon 7 (by kernel_rfl))
   replace HM := HM.sT 3 rfl (hon 11 (by kernel_rfl))
   replace HM := HM.sT 4 rfl (hon 15 (by kernel_rfl))
   obtain ⟨Xo39, ko39, eo39⟩ := HM.rdR 2 rfl
   subst eo39
   obtain ⟨Xo40, ko40, eo40⟩ := HM.rdR 3 rfl
   subst eo40
   obtain ⟨Xo41, ko41, eo41⟩ := HM.rdR 4 rfl
   subst eo41
   have e2 := POF ha 2
   have e19 := PON ha 16 (hon 16 (by kernel_rfl))
   replace ha := Aside0.mk ha
   refine ST (eS 1 2 0 [.int .i64 a0_0, .int .i64 a0_1, .slice Xo39 (y143 ++ l0_2).length ko39, .slice Xo40 (y149 ++ l0_3).length ko40, .slice Xo41 (y155 ++ l0_4).length ko41] HM rfl rfl ?_ (hp := (eval_of e2)) (hx := (by rw [eval_of e19]; rfl)))
   clear HM
   intro w42 HM
   exact hK.out _ _ ⟨v144, .slice Xo39 (y143 ++ l0_2).length ko39, v150, .slice Xo40 (y149 ++ l0_3).length ko40, v156, .slice Xo41 (y155 ++ l0_4).length ko41, PUS ha, (((HM.iT 2 rfl (hon 7 (by kernel_rfl))).iT 3 rfl (hon 11 (by kernel_rfl))).iT 4 rfl (hon 15 (by kernel_rfl))).pick [0, 1, 2, 3, 4]⟩
  exact steps_nil
 rintro _ w43 ⟨v144, v147, v150, v153, v156, v159, rfl, HM⟩
 replace HM := HM.sT 1 rfl rfl
 replace HM := HM.sT 2 rfl rfl
 replace HM := HM.sT 3 rfl rfl
 replace HM := HM.sT 4 rfl rfl
 simp only [putSel, if_true, Act.put, List.setIfInBounds_toArray, List.set_cons_zero, List.set_cons_succ, gt_iff_lt, ge_iff_le]
 simp only [Option.some.injEq, Prod.mk.injEq] at H
 obtain ⟨rfl, rfl, rfl, rfl, rfl⟩ := H
 go_wp2
 refine bodyPost_ret (results_cell_row rfl _ _ gb142 32 #[.int .i64 a0_0, .int .i64 a0_1, v147, v153, v159] (0, 0) _ rfl (HM.bx 1 rfl) Try.underlying32 rfl (by kernel_rfl)) rfl ?_
 exact ⟨_, _, _, ER, (MD HM).pick [2, 3, 4]⟩
end Go.Proofs.Ytdeijmofaapgdaa.G

namespace Go.Proofs.Ytdeijmofaapgdaa.G
open Go.RowKit Go.Proofs.YtdeijmofaapgdaaW.PrintWords Go.Proofs.YtdeijmofaapgdaaW.PrintLast Go.Proofs.YtdeijmofaapgdaaW.PrintMore Go.Proofs.Ytdeijmofaapgdaa.Sh
attribute [local go_sem] max2_int min2_int max_two min_two max_three min_three max_four min_four
set_option linter.unusedVariables false
set_option linter.unusedSimpArgs false
def spec_l10More.f (a0 : Int) : Option (Int) := if a0 ≥ 3 then (some 3) else (some (wrap64 (a0 + 1)))
set_option maxHeartbeats 8000000 in
set_option maxRecDepth 100000 in
theorem spec_l10More.calls (a0 : Int) (r : Int) (w : World) (h : spec_l10More.f a0 = some r) :
  Calls Try.prog 91 #[.int .i64 a0] w fun e w' => e = .returned (.int .i64 r) ∧ Drawn0 w w' := by
 have H : (if a0 ≥ 3 then (some 3) else (some (wrap64 (a0 + 1)))) = some r := h
 clear h
 by_cases c2 : a0 ≥ 3
 ·rw [if_pos c2] at H
  have c2b0 : decide (3 ≤ a0) = true := decide_eq_true c2
  clear c2
  obtain rfl := Option.some.inj H
  go_enter Try.func91, Try.ntmps91
  go_wp2
  go_ret
  exact ⟨by first | rfl | (simp; done) | (simp [*]; done), DR⟩
 ·rw [if_neg c2] at H
  have c2b0 : decide (3 ≤ a0) = false := decide_eq_false c2
  clear c2
  obtain rfl := Option.some.inj H
  go_enter Try.func91, Try.ntmps91
  go_wp2
  go_ret
  exact ⟨by first | rfl | (simp; done) | (simp [*]; done), DR⟩
end Go.Proofs.Ytdeijmofaapgdaa.G

namespace Go.Proofs.Ytdeijmofaapgdaa.G
open Go.RowKit Go.Proofs.YtdeijmofaapgdaaW.PrintWords Go.Proofs.YtdeijmofaapgdaaW.PrintLast Go.Proofs.YtdeijmofaapgdaaW.PrintMore Go.Proofs.Ytdeijmofaapgdaa.Sh
attribute [local go_sem] max2_int min2_int max_two min_two max_three min_three max_four min_four
set_option linter.unusedVariables false
set_option linter.unusedSimpArgs false
open Go.Proofs.Ytdeijmofaapgdaa.Mm
mutual
def spec_l10Touch.j0 : Nat → Bool → ByteArray → Int → Int → Int → Int → List (S95) → List (S95) → List Int → ByteArray → ByteArray → Int → Option (Int × Int × (List (S95)) × (List (S95)) × List Int × ByteArray × Bool)
 | 0, _, _, _, _, _, _, _, _, _, _, _, _ => none
 | k + 1, x2, x3, x11, x12, x162000, x162001, x162002, x162003, x162004, x166000, x166001, x166002 => if x12 ≥ 0 then (if 0 ≤ x12 then (if x12 < (x162003.length : Int) then (spec_l10Touch.j1 k x2 x3 x11 x12 x162000 x162001 x162002 x162003 x162004 ((rd_T95 x162003 x12).f0) ((rd_T95 x162003 x12).f1) ((rd_T95 x162003 x12).f2)) else (none)) else (none)) else (spec_l10Touch.j1 k x2 x3 x11 x12 x162000 x162001 x162002 x162003 x162004 x166000 x166001 x166002)
def spec_l10Touch.j1 : Nat → Bool → ByteArray → Int → Int → Int → Int → List (S95) → List (S95) → List Int → ByteArray → ByteArray → Int → Option (Int × Int × (List (S95)) × (List (S95)) × List Int × ByteArray × Bool)
 | 0, _, _, _, _, _, _, _, _, _, _, _, _ => none
 | k + 1, x2, x3, x11, x12, x162000, x162001, x162002, x162003, x162004, x166000, x166001, x166002 => if x11 < 0 then (spec_l10Touch.j2 k x2 x3 x11 x12 (decide (x12 < 0)) x162000 x162001 x162002 x162003 x162004 x166000 x166001 x166002) else (spec_l10Touch.j2 k x2 x3 x11 x12 false x162000 x162001 x162002 x162003 x162004 x166000 x166001 x166002)
def spec_l10Touch.j2 : Nat → Bool → ByteArray → Int → Int → Bool → Int → Int → List (S95) → List (S95) → List Int → ByteArray → ByteArray → Int → Option (Int × Int × (List (S95)) × (List (S95)) × List Int × ByteArray × Bool)
 | 0, _, _, _, _, _, _, _, _, _, _, _, _, _ => none
 | k + 1, x2, x3, x11, x12, x42, x162000, x162001, x162002, x162003, x162004, x166000, x166001, x166002 => if x42 = true then (some (x162000, x162001, x162002, x162003, x162004, (⟨#[]⟩ : ByteArray), false)) else ((spec_l10More.f x166002).bind fun t168 => (if x2 = true then (if x11 ≥ 0 then (if 0 ≤ x11 then (if x11 < (x162002.length : Int) then (some (x162000, x162001, (x162002.set (x11 : Int).toNat (⟨x166000, x3, t168⟩ : S95)), x162003, x162004, x3, true)) else (none)) else (none)) else (if 0 ≤ x12 then (if x12 < (x162003.length : Int) then (some (x162000, x162001, x162002, (x162003.set (x12 : Int).toNat (⟨x166000, x3, t168⟩ : S95)), x162004, x3, true)) else (none)) else (none))) else (if x11 ≥ 0 then (if 0 ≤ x11 then (if x11 < (x162002.length : Int) then (some (x162000, x162001, (x162002.set (x11 : Int).toNat (⟨x166000, x166001, t168⟩ : S95)), x162003, x162004, x166001, true)) else (none)) else (none)) else (if 0 ≤ x12 then (if x12 < (x162003.length : Int) then (some (x162000, x162001, x162002, (x162003.set (x12 : Int).toNat (⟨x166000, x166001, t168⟩ : S95)), x162004, x166001, true)) else (none)) else (none)))))
end
def spec_l10Touch.f (k : Nat) (a0_0 : Int) (a0_1 : Int) (l0_2 : List (S95)) (l0_3 : List (S95)) (l0_4 : List Int) (a1 : ByteArray) (a2 : Bool) (a3 : ByteArray) : Option (Int × Int × (List (S95)) × (List (S95)) × List Int × ByteArray × Bool) := (spec_l10At.f k l0_2 a1).bind fun t163 => ((spec_l10At.f k l0_3 a1).bind fun t164 => (if t163 ≥ 0 then (if 0 ≤ t163 then (if t163 < (l0_2.length : Int) then (spec_l10Touch.j0 k a2 a3 t163 t164 a0_0 a0_1 l0_2 l0_3 l0_4 ((rd_T95 l0_2 t163).f0) ((rd_T95 l0_2 t163).f1) ((rd_T95 l0_2 t163).f2)) else (none)) else (none)) else (spec_l10Touch.j0 k a2 a3 t163 t164 a0_0 a0_1 l0_2 l0_3 l0_4 (⟨#[]⟩ : ByteArray) (⟨#[]⟩ : ByteArray) 0)))
theorem spec_l10Touch.mono_l : ∀ k, (∀ y0 y1 y2 y3 y4 y5 y6 y7 y8 y9 y10 y11, LeO (spec_l10Touch.j0 k y0 y1 y2 y3 y4 y5 y6 y7 y8 y9 y10 y11) (spec_l10Touch.j0 (k + 1) y0 y1 y2 y3 y4 y5 y6 y7 y8 y9 y10 y11)) ∧ (∀ y0 y1 y2 y3 y4 y5 y6 y7 y8 y9 y10 y11, LeO (spec_l10Touch.j1 k y0 y1 y2 y3 y4 y5 y6 y7 y8 y9 y10 y11) (spec_l10Touch.j1 (k + 1) y0 y1 y2 y3 y4 y5 y6 y7 y8 y9 y10 y11)) ∧ (∀ y0 y1 y2 y3 y4 y5 y6 y7 y8 y9 y10 y11 y12, LeO (spec_l10Touch.j2 k y0 y1 y2 y3 y4 y5 y6 y7 y8 y9 y10 y11 y12) (spec_l10Touch.j2 (k + 1) y0 y1 y2 y3 y4 y5 y6 y7 y8 y9 y10 y11 y12))
 | 0 => ⟨fun _ _ _ _ _ _ _ _ _ _ _ _ r h => by simp [spec_l10Touch.j0] at h, fun _ _ _ _ _ _ _ _ _ _ _ _ r h => by simp [spec_l10Touch.j1] at h, fun _ _ _ _ _ _ _ _ _ _ _ _ _ r h => by simp [spec_l10Touch.j2] at h⟩
 | k + 1 => by
  obtain ⟨ih0, ih1, ih2⟩ := spec_l10Touch.mono_l k
  refine ⟨?_, ?_, ?_⟩
  ·intro y0 y1 y2 y3 y4 y5 y6 y7 y8 y9 y10 y11
   unfold spec_l10Touch.j0
   repeat' first | (with_reducible first | exact ih0 _ _ _ _ _ _ _ _ _ _ _ _ | exact ih1 _ _ _ _ _ _ _ _ _ _ _ _ | exact ih2 _ _ _ _ _ _ _ _ _ _ _ _ _ | exact spec_l10At.mono _ _ _ | exact LeO.refl _ | exact LeO.none _ | refine LeO.ite ?_ ?_ | refine LeO.bind ?_ (fun _ => ?_)) | exact ih0 _ _ _ _ _ _ _ _ _ _ _ _ | exact ih1 _ _ _ _ _ _ _ _ _ _ _ _ | exact ih2 _ _ _ _ _ _ _ _ _ _ _ _ _ | exact spec_l10At.mono _ _ _ | exact LeO.none _ | refine LeO.ite ?_ ?_ | refine LeO.bind ?_ (fun _ => ?_)
  ·intro y0 y1 y2 y3 y4 y5 y6 y7 y8 y9 y10 y11
   unfold spec_l10Touch.j1
   repeat' first | (with_reducible first | exact ih0 _ _ _ _ _ _ _ _ _ _ _ _ | exact ih1 _ _ _ _ _ _ _ _ _ _ _ _ | exact ih2 _ _ _ _ _ _ _ _ _ _ _ _ _ | exact spec_l10At.mono _ _ _ | exact LeO.refl _ | exact LeO.none _ | refine LeO.ite ?_ ?_ | refine LeO.bind ?_ (fun _ => ?_)) | exact ih0 _ _ _ _ _ _ _ _ _ _ _ _ | exact ih1 _ _ _ _ _ _ _ _ _ _ _ _ | exact ih2 _ _ _ _ _ _ _ _ _ _ _ _ _ | exact spec_l10At.mono _ _ _ | exact LeO.none _ | refine LeO.ite ?_ ?_ | refine LeO.bind ?_ (fun _ => ?_)
  ·intro y0 y1 y2 y3 y4 y5 y6 y7 y8 y9 y10 y11 y12
   unfold spec_l10Touch.j2
   repeat' first | (with_reducible first | exact ih0 _ _ _ _ _ _ _ _ _ _ _ _ | exact ih1 _ _ _ _ _ _ _ _ _ _ _ _ | exact ih2 _ _ _ _ _ _ _ _ _ _ _ _ _ | exact spec_l10At.mono _ _ _ | exact LeO.refl _ | exact LeO.none _ | refine LeO.ite ?_ ?_ | refine LeO.bind ?_ (fun _ => ?_)) | exact ih0 _ _ _ _ _ _ _ _ _ _ _ _ | exact ih1 _ _ _ _ _ _ _ _ _ _ _ _ | exact ih2 _ _ _ _ _ _ _ _ _ _ _ _ _ | exact spec_l10At.mono _ _ _ | exact LeO.none _ | refine LeO.ite ?_ ?_ | refine LeO.bind ?_ (fun _ => ?_)
theorem spec_l10Touch.mono : ∀ a0 a1 a2 a3 a4 a5 a6 a7 k, LeO (spec_l10Touch.f k a0 a1 a2 a3 a4 a5 a6 a7) (spec_l10Touch.f (k + 1) a0 a1 a2 a3 a4 a5 a6 a7) := by
 intro a0 a1 a2 a3 a4 a5 a6 a7 k
 obtain ⟨ih0, ih1, ih2⟩ := spec_l10Touch.mono_l k
 unfold spec_l10Touch.f
 repeat' first | (with_reducible first | exact ih0 _ _ _ _ _ _ _ _ _ _ _ _ | exact ih1 _ _ _ _ _ _ _ _ _ _ _ _ | exact ih2 _ _ _ _ _ _ _ _ _ _ _ _ _ | exact spec_l10At.mono _ _ _ | exact LeO.refl _ | exact LeO.none _ | refine LeO.ite ?_ ?_ | refine LeO.bind ?_ (fun _ => ?_)) | exact ih0 _ _ _ _ _ _ _ _ _ _ _ _ | exact ih1 _ _ _ _ _ _ _ _ _ _ _ _ | exact ih2 _ _ _ _ _ _ _ _ _ _ _ _ _ | exact spec_l10At.mono _ _ _ | exact LeO.none _ | refine LeO.ite ?_ ?_ | refine LeO.bind ?_ (fun _ => ?_)
def spec_l10Touch.T16 : Bool × List (List Nat × List Nat) := (true, [([], []), ([], []), ([1], [1]), ([0, 0], [0]), ([2, 3, 0, 1, 2, 3], [2]), ([4, 0, 1, 2, 3, 4], [])])
def spec_l10Touch.B16 : List Nat := [0, 0, 2, 1, 15, 31]
theorem spec_l10Touch.tab16 : rtab .any (opsOf Try.f69 16) = spec_l10Touch.T16 := by kernel_rfl
theorem spec_l10Touch.bits16 : waitsOk spec_l10Touch.T16.2 spec_l10Touch.B16 = true := by kernel_rfl
set_option maxHeartbeats 8000000 in
set_option maxRecDepth 100000 in
theorem spec_l10Touch.calls (k : Nat) (a0_0 : Int) (a0_1 : Int) (u9000_ : Value) (l0_2 : List (S95)) (u9001_ : Value) (l0_3 : List (S95)) (u9002_ : Value) (l0_4 : List Int) (a1 : ByteArray) (a2 : Bool) (a3 : ByteArray) (r1 : Int) (r2 : Int) (r3 : List (S95)) (r4 : List (S95)) (r5 : List Int) (r6 : ByteArray) (r7 : Bool) (w0 w : World) (F : List SP)  (hM : Mem w0 F w [rowR k95 95 u9000_ l0_2, rowR k95 95 u9001_ l0_3, rowR (Kd.int .i64) 3 u9002_ l0_4]) (h : spec_l10Touch.f k a0_0 a0_1 l0_2 l0_3 l0_4 a1 a2 a3 = some (r1, r2, r3, r4, r5, r6, r7)) :
  Calls Try.prog 69 #[.agg #[.int .i64 a0_0, .int .i64 a0_1, u9000_, u9001_, u9002_], .string a1, .bool a2, .string a3] w fun e w' => ∃ v2_ v3_ v4_ : Value, e = .returned (.tuple #[.agg #[.int .i64 r1, .int .i64 r2, v2_, v3_, v4_], .string r6, .bool r7]) ∧ Mem w0 F w' [rowR k95 95 v2_ r3, rowR k95 95 v3_ r4, rowR (Kd.int .i64) 3 v4_ r5] := by
 have hu32 := Try.underlying32
 have hu95 := Try.underlying95
 have HM := hM
 clear hM
 have H := h
 clear h
 unfold spec_l10Touch.f at H
 go_enter Try.func69, Try.ntmps69
 replace H := BN H; obtain ⟨t163, A11, H⟩ := H
 replace H := BN H; obtain ⟨t164, A14, H⟩ := H
 have HC18 := Aside0.mk H
 clear H
 obtain ⟨Xo5, ko5, eo5⟩ := HM.rdR 0 rfl
 subst eo5
 obtain ⟨Xo6, ko6, eo6⟩ := HM.rdR 1 rfl
 subst eo6
 obtain ⟨Xo7, ko7, eo7⟩ := HM.rdR 2 rfl
 subst eo7
 go_upto_if 24 with (first | ((with_reducible refine gate_dst (N := 4) rfl ?_); refine pB 4 32 [.int .i64 a0_0, .int .i64 a0_1, .slice Xo5 l0_2.length ko5, .slice Xo6 l0_3.length ko6, .slice Xo7 l0_4.length ko7] HM rfl ?_; clear HM; intro gb161 w8 HM) | ((with_reducible refine gate_dst (N := 8) rfl ?_); refine pB 8 32 [.int .i64 0, .int .i64 0, .slice none 0 0, .slice none 0 0, .slice none 0 0] HM rfl ?_; clear HM; intro gb162 w9 HM; obtain ⟨hcz10_0, hcz10_1, hcz10_2, hcz10_3, hcz10_4, hfz10_0, hfz10_1, hfz10_2, hfz10_3, hfz10_4⟩ := bk5 (HM.bx 3 rfl)) | ((with_reducible refine gate_callee (f := 66) rfl ?_); refine pC (some 17) rfl #[.slice Xo5 l0_2.length ko5, .string a1] rfl Try.func66 (spec_l10At.calls k _ _ l0_2 a1 t163 _ (HM.CR 0 rfl).2.2 (HM.CR 0 rfl).2.1 A11.out) ?_; rintro e w12 ⟨rfl, hR⟩; refine ⟨_, rfl, ?_⟩; replace HM := HM.call hR; clear hR; obtain ⟨hcz13_0, hcz13_1, hcz13_2, hcz13_3, hcz13_4, hfz13_0, hfz13_1, hfz13_2, hfz13_3, hfz13_4⟩ := bk5 (HM.bx 3 rfl)) | ((with_reducible refine gate_callee (f := 66) rfl ?_); refine pC (some 21) rfl #[.slice Xo6 l0_3.length ko6, .string a1] rfl Try.func66 (spec_l10At.calls k _ _ l0_3 a1 t164 _ (HM.CR 1 rfl).2.2 (HM.CR 1 rfl).2.1 A14.out) ?_; rintro e w15 ⟨rfl, hR⟩; refine ⟨_, rfl, ?_⟩; replace HM := HM.call hR; clear hR) | ((with_reducible refine gate_dst (N := 13) rfl ?_); refine pB 13 95 [.string (⟨#[]⟩ : ByteArray), .string (⟨#[]⟩ : ByteArray), .int .i64 0] HM rfl ?_; clear HM; intro gb165 w16 HM) | ((with_reducible refine gate_st (p := 13) rfl ?_); refine pS 5 13 0 [.string (⟨#[]⟩ : ByteArray), .string (⟨#[]⟩ : ByteArray), .int .i64 0] HM rfl rfl ?_; clear HM; intro w17 HM))
 replace HM := nzM HM
 go_cut [] (fun wc => ∃ (kq : Nat) (x166000_17 : ByteArray) (x166001_17 : ByteArray) (x166002_17 : Int), Aside0 (spec_l10Touch.j0 kq a2 a3 t163 t164 a0_0 a0_1 l0_2 l0_3 l0_4 x166000_17 x166001_17 x166002_17 = some (r1, r2, r3, r4, r5, r6, r7)) ∧ Aside0 (kq ≤ k) ∧ Mem w0 F wc [rowR k95 95 (.slice Xo5 l0_2.length ko5) l0_2, rowR k95 95 (.slice Xo6 l0_3.length ko6) l0_3, rowR (Kd.int .i64) 3 (.slice Xo7 l0_4.length ko7) l0_4, box 32 gb161 [.int .i64 a0_0, .int .i64 a0_1, (.slice Xo5 l0_2.length ko5), (.slice Xo6 l0_3.length ko6), (.slice Xo7 l0_4.length ko7)], box 32 gb162 [.int .i64 0, .int .i64 0, .slice none 0 0, .slice none 0 0, .slice none 0 0], box 95 gb165 [.string x166000_17, .string x166001_17, .int .i64 x166002_17]])
 case first =>
  have H := HC18.out
  clear HC18
  go_upto_if 24 with (fail)
  replace H := IT H; rcases H with ⟨c19, H⟩ | ⟨c19, H⟩
  ·have c19b0 : decide (0 ≤ t163) = true := decide_eq_true c19
   clear c19
   (first | rw [c19b0] | (simp only [i64_w, i32_w]; rw [c19b0]) | skip)
   replace H := GD H; obtain ⟨c21, H⟩ := H
   have c21b0 : decide (0 ≤ t163) = true := decide_eq_true c21
   clear c21
   replace H := GD H; obtain ⟨c22, H⟩ := H
   have c22b0 : decide (t163 < (l0_2.length : Int)) = true := decide_eq_true c22
   clear c22
   have H' := Aside0.mk H
   clear H
   obtain ⟨hcz20_0, hcz20_1, hcz20_2, hcz20_3, hcz20_4, hfz20_0, hfz20_1, hfz20_2, hfz20_3, hfz20_4⟩ := bk5 (HM.bx 3 rfl)
   have p166 : 0 ≤ (t163 : Int) := of_decide_eq_true AS
   have q166 : (t163 : Int) < (l0_2.length : Int) := of_decide_eq_true AS
   obtain ⟨ad166, e166, hx166_0, hx166_1, hx166_2⟩ := at_T95 (HM.CR 0 rfl).2.2 t163 p166 q166
   cases e166
   replace p166 := eq_true p166
   replace q166 := eq_true q166
   go_wp2_with (first | ((with_reducible refine gate_st (p := 13) rfl ?_); refine pS 5 13 0 [.string ((rd_T95 l0_2 t163).f0), .string ((rd_T95 l0_2 t163).f1), .int .i64 ((rd_T95 l0_2 t163).f2)] HM rfl rfl ?_; clear HM; intro w23 HM))
   go_meet
   case rel => exact ⟨_, ((rd_T95 l0_2 t163).f0), ((rd_T95 l0_2 t163).f1), ((rd_T95 l0_2 t163).f2), H', ⟨by first | omega | exact Nat.le_refl _⟩, (MD HM).pick [0, 1, 2, 3, 4, 5]⟩
  ·have c19b0 : decide (0 ≤ t163) = false := decide_eq_false c19
   clear c19
   (first | rw [c19b0] | (simp only [i64_w, i32_w]; rw [c19b0]) | skip)
   have H' := Aside0.mk H
   clear H
   go_wp2
   go_meet
   case rel => exact ⟨_, ((⟨#[]⟩ : ByteArray)), ((⟨#[]⟩ : ByteArray)), (0), H', ⟨by first | omega | exact Nat.le_refl _⟩, (MD HM).pick [0, 1, 2, 3, 4, 5]⟩
 case rest =>
  clear HC18 HM
  obtain ⟨kq, x166000_17, x166001_17, x166002_17, HA, HJ17, HM⟩ := hcut
  cases kq with
  | zero => exact absurd HA.out (by simp [spec_l10Touch.j0])
  | succ kj17 =>
   have H := HA.out
   clear HA
   simp only [spec_l10Touch.j0] at H
   have HC24 := Aside0.mk H
   clear H
   go_upto_if 31 with (fail)
   go_cut [] (fun wc => ∃ (kq : Nat) (x166000_23 : ByteArray) (x166001_23 : ByteArray) (x166002_23 : Int), Aside0 (spec_l10Touch.j1 kq a2 a3 t163 t164 a0_0 a0_1 l0_2 l0_3 l0_4 x166000_23 x166001_23 x166002_23 = some (r1, r2, r3, r4, r5, r6, r7)) ∧ Aside0 (kq ≤ kj17) ∧ Mem w0 F wc [rowR k95 95 (.slice Xo5 l0_2.length ko5) l0_2, rowR k95 95 (.slice Xo6 l0_3.length ko6) l0_3, rowR (Kd.int .i64) 3 (.slice Xo7 l0_4.length ko7) l0_4, box 32 gb161 [.int .i64 a0_0, .int .i64 a0_1, (.slice Xo5 l0_2.length ko5), (.slice Xo6 l0_3.length ko6), (.slice Xo7 l0_4.length ko7)], box 32 gb162 [.int .i64 0, .int .i64 0, .slice none 0 0, .slice none 0 0, .slice none 0 0], box 95 gb165 [.string x166000_23, .string x166001_23, .int .i64 x166002_23]])
   case first =>
    have H := HC24.out
    clear HC24
    go_upto_if 31 with (fail)
    replace H := IT H; rcases H with ⟨c25, H⟩ | ⟨c25, H⟩
    ·have c25b0 : decide (0 ≤ t164) = true := decide_eq_true c25
     clear c25
     (first | rw [c25b0] | (simp only [i64_w, i32_w]; rw [c25b0]) | skip)
     replace H := GD H; obtain ⟨c27, H⟩ := H
     have c27b0 : decide (0 ≤ t164) = true := decide_eq_true c27
     clear c27
     replace H := GD H; obtain ⟨c28, H⟩ := H
     have c28b0 : decide (t164 < (l0_3.length : Int)) = true := decide_eq_true c28
     clear c28
     have H' := Aside0.mk H
     clear H
     obtain ⟨hcz26_0, hcz26_1, hcz26_2, hcz26_3, hcz26_4, hfz26_0, hfz26_1, hfz26_2, hfz26_3, hfz26_4⟩ := bk5 (HM.bx 3 rfl)
     have p167 : 0 ≤ (t164 : Int) := of_decide_eq_true AS
     have q167 : (t164 : Int) < (l0_3.length : Int) := of_decide_eq_true AS
     obtain ⟨ad167, e167, hx167_0, hx167_1, hx167_2⟩ := at_T95 (HM.CR 1 rfl).2.2 t164 p167 q167
     cases e167
     replace p167 := eq_true p167
     replace q167 := eq_true q167
     go_wp2_with (first | ((with_reducible refine gate_st (p := 13) rfl ?_); refine pS 5 13 0 [.string ((rd_T95 l0_3 t164).f0), .string ((rd_T95 l0_3 t164).f1), .int .i64 ((rd_T95 l0_3 t164).f2)] HM rfl rfl ?_; clear HM; intro w29 HM))
     go_meet
     case rel => exact ⟨_, ((rd_T95 l0_3 t164).f0), ((rd_T95 l0_3 t164).f1), ((rd_T95 l0_3 t164).f2), H', ⟨by have := HJ17.out; first | omega | exact Nat.le_refl _⟩, (MD HM).pick [0, 1, 2, 3, 4, 5]⟩
    ·have c25b0 : decide (0 ≤ t164) = false := decide_eq_false c25
     clear c25
     (first | rw [c25b0] | (simp only [i64_w, i32_w]; rw [c25b0]) | skip)
     have H' := Aside0.mk H
     clear H
     go_wp2
     go_meet
     case rel => exact ⟨_, (x166000_17), (x166001_17), (x166002_17), H', ⟨by have := HJ17.out; first | omega | exact Nat.le_refl _⟩, (MD HM).pick [0, 1, 2, 3, 4, 5]⟩
   case rest =>
    clear HC24 HM
    obtain ⟨kq, x166000_23, x166001_23, x166002_23, HA, HJ23, HM⟩ := hcut
    cases kq with
    | zero => exact absurd HA.out (by simp [spec_l10Touch.j1])
    | succ kj23 =>
     have H := HA.out
     clear HA
     simp only [spec_l10Touch.j1] at H
     have HC30 := Aside0.mk H
     clear H
     go_upto_region 8 with (fail)
     go_cut [42] (fun v42 wc => ∃ (kq : Nat) (x42_29 : Bool), v42 = .bool x42_29 ∧ Aside0 (spec_l10Touch.j2 kq a2 a3 t163 t164 x42_29 a0_0 a0_1 l0_2 l0_3 l0_4 x166000_23 x166001_23 x166002_23 = some (r1, r2, r3, r4, r5, r6, r7)) ∧ Aside0 (kq ≤ kj23) ∧ Mem w0 F wc [rowR k95 95 (.slice Xo5 l0_2.length ko5) l0_2, rowR k95 95 (.slice Xo6 l0_3.length ko6) l0_3, rowR (Kd.int .i64) 3 (.slice Xo7 l0_4.length ko7) l0_4, box 32 gb161 [.int .i64 a0_0, .int .i64 a0_1, (.slice Xo5 l0_2.length ko5), (.slice Xo6 l0_3.length ko6), (.slice Xo7 l0_4.length ko7)], box 32 gb162 [.int .i64 0, .int .i64 0, .slice none 0 0, .slice none 0 0, .slice none 0 0], box 95 gb165 [.string x166000_23, .string x166001_23, .int .i64 x166002_23]])
     case first =>
      have H := HC30.out
      clear HC30
      replace H := IT H; rcases H with ⟨c31, H⟩ | ⟨c31, H⟩
      ·have c31b0 : decide (t163 < 0) = true := decide_eq_true c31
       clear c31
       have H' := Aside0.mk H
       clear H
       go_wp2
       go_meet
       case rel => exact ⟨_, (decide (t164 < 0)), RS, H', ⟨by have := HJ17.out; have := HJ23.out; first | omega | exact Nat.le_refl _⟩, (MD HM).pick [0, 1, 2, 3, 4, 5]⟩
      ·have c31b0 : decide (t163 < 0) = false := decide_eq_false c31
       clear c31
       have H' := Aside0.mk H
       clear H
       go_wp2
       go_meet
       case rel => exact ⟨_, (false), RS, H', ⟨by have := HJ17.out; have := HJ23.out; first | omega | exact Nat.le_refl _⟩, (MD HM).pick [0, 1, 2, 3, 4, 5]⟩
     case rest =>
      clear HC30 HM
      obtain ⟨kq, x42_29, rfl, HA, HJ29, HM⟩ := hcut
      cases kq with
      | zero => exact absurd HA.out (by simp [spec_l10Touch.j2])
      | succ kj29 =>
       have H := HA.out
       clear HA
       simp only [spec_l10Touch.j2] at H
       go_upto_if 42 with (fail)
       replace H := IB H
       rcases H with ⟨c32, H⟩ | ⟨c32, H⟩
       ·subst c32
        simp only [Option.some.injEq, Prod.mk.injEq] at H
        obtain ⟨rfl, rfl, rfl, rfl, rfl, rfl, rfl⟩ := H
        obtain ⟨hcz33_0, hcz33_1, hcz33_2, hcz33_3, hcz33_4, hfz33_0, hfz33_1, hfz33_2, hfz33_3, hfz33_4⟩ := bk5 (HM.bx 3 rfl)
        go_wp2_with (first | ((with_reducible refine gate_st (p := 8) rfl ?_); refine pS 4 8 0 [.int .i64 a0_0, .int .i64 a0_1, .slice Xo5 l0_2.length ko5, .slice Xo6 l0_3.length ko6, .slice Xo7 l0_4.length ko7] HM rfl rfl ?_; clear HM; intro w34 HM))
        refine bodyPost_ret (results_ctt rfl _ _ gb162 32 #[.int .i64 a0_0, .int .i64 a0_1, .slice Xo5 l0_2.length ko5, .slice Xo6 l0_3.length ko6, .slice Xo7 l0_4.length ko7] (0, 0) _ rfl (HM.bx 4 rfl) Try.underlying32 rfl (by kernel_rfl)) rfl ?_
        exact ⟨_, _, _, ER, (MD HM).pick [0, 1, 2]⟩
       ·subst c32
        replace H := BN H; obtain ⟨t168, A36, H⟩ := H
        obtain ⟨hcz35_0, hcz35_1, hcz35_2, hfz35_0, hfz35_1, hfz35_2⟩ := bk3 (HM.bx 5 rfl)
        go_upto_if 48 with (first | ((with_reducible refine gate_callee (f := 91) rfl ?_); refine pC (some 46) rfl #[.int .i64 x166002_23] rfl Try.func91 (spec_l10More.calls x166002_23 t168 _ A36.out) ?_; rintro e w37 ⟨rfl, hd⟩; refine ⟨_, rfl, ?_⟩; replace HM := HM.drawn hd; clear hd) | ((with_reducible refine gate_st (p := 47) rfl ?_); refine pS 5 47 2 [.int .i64 t168] HM rfl rfl ?_; clear HM; intro w38 HM))
        replace H := IB H
        rcases H with ⟨c39, H⟩ | ⟨c39, H⟩
        ·subst c39
         go_upto_if 52 with (first | ((with_reducible refine gate_st (p := 50) rfl ?_); refine pS 5 50 1 [.string a3] HM rfl rfl ?_; clear HM; intro w40 HM))
         replace H := IT H; rcases H with ⟨c41, H⟩ | ⟨c41, H⟩
         ·have c41b0 : decide (0 ≤ t163) = true := decide_eq_true c41
          clear c41
          (first | rw [c41b0] | (simp only [i64_w, i32_w]; rw [c41b0]) | skip)
          replace H := GD H; obtain ⟨c44, H⟩ := H
          have c44b0 : decide (0 ≤ t163) = true := decide_eq_true c44
          clear c44
          replace H := GD H; obtain ⟨c45, H⟩ := H
          have c45b0 : decide (t163 < (l0_2.length : Int)) = true := decide_eq_true c45
          clear c45
          obtain ⟨hcz42_0, hcz42_1, hcz42_2, hcz42_3, hcz42_4, hfz42_0, hfz42_1, hfz42_2, hfz42_3, hfz42_4⟩ := bk5 (HM.bx 3 rfl)
          obtain ⟨hcz43_0, hcz43_1, hcz43_2, hfz43_0, hfz43_1, hfz43_2⟩ := bk3 (HM.bx 5 rfl)
          have p46 : 0 ≤ (t163 : Int) := of_decide_eq_true AS
          have q46 : (t163 : Int) < ((l0_2.length : Int) : Int) := of_decide_eq_true AS
          obtain ⟨go46, ef46⟩ := HM.form 0 rfl (by have h_ := (HM.CR 0 rfl).1; omega)
          subst ef46
          obtain ⟨hcc46, hfr46⟩ := HM.el 0 rfl z95 (t163 : Int) p46 (by have h_ := (HM.CR 0 rfl).1; omega) [.string ((rd_T95 l0_2 t163).f0), .string ((rd_T95 l0_2 t163).f1), .int .i64 ((rd_T95 l0_2 t163).f2)] (fun _ _ h => k95_openM h)
          have hx46_0 : w40.cell? ⟨go46, (t163 : Int).toNat * 3, none⟩ = some (.string ((rd_T95 l0_2 t163).f0)) := (by have h_ := hcc46 0 _ rfl; first | exact h_ | (simp only [show (k95).sz = 3 from rfl, Nat.mul_one, Nat.add_zero] at h_; exact h_) | simpa using h_)
          have hf46_0 : w40.frozen? ⟨go46, (t163 : Int).toNat * 3, none⟩ = false := (by have h_ := hfr46 0; first | exact h_ | (simp only [show (k95).sz = 3 from rfl, Nat.mul_one, Nat.add_zero] at h_; exact h_) | simpa using h_)
          have hx46_1 : w40.cell? ⟨go46, (t163 : Int).toNat * 3 + 1, none⟩ = some (.string ((rd_T95 l0_2 t163).f1)) := (by have h_ := hcc46 1 _ rfl; first | exact h_ | (simp only [show (k95).sz = 3 from rfl, Nat.mul_one, Nat.add_zero] at h_; exact h_) | simpa using h_)
          have hf46_1 : w40.frozen? ⟨go46, (t163 : Int).toNat * 3 + 1, none⟩ = false := (by have h_ := hfr46 1; first | exact h_ | (simp only [show (k95).sz = 3 from rfl, Nat.mul_one, Nat.add_zero] at h_; exact h_) | simpa using h_)
          have hx46_2 : w40.cell? ⟨go46, (t163 : Int).toNat * 3 + 2, none⟩ = some (.int .i64 ((rd_T95 l0_2 t163).f2)) := (by have h_ := hcc46 2 _ rfl; first | exact h_ | (simp only [show (k95).sz = 3 from rfl, Nat.mul_one, Nat.add_zero] at h_; exact h_) | simpa using h_)
          have hf46_2 : w40.frozen? ⟨go46, (t163 : Int).toNat * 3 + 2, none⟩ = false := (by have h_ := hfr46 2; first | exact h_ | (simp only [show (k95).sz = 3 from rfl, Nat.mul_one, Nat.add_zero] at h_; exact h_) | simpa using h_)
          clear hcc46 hfr46
          replace p46 := eq_true p46
          replace q46 := eq_true q46
          try go_wp2_with (first | ((with_reducible refine gate_st (p := 57) rfl ?_); refine pPR 0 57 (t163 : Int) 0 [.string x166000_23, .string a3, .int .i64 t168] k95 95 l0_2 (⟨x166000_23, a3, t168⟩ : S95) z95 [.string ((rd_T95 l0_2 t163).f0), .string ((rd_T95 l0_2 t163).f1), .int .i64 ((rd_T95 l0_2 t163).f2)] HM rfl rfl (of_decide_eq_true AS) (by have h_ : (t163 : Int) < ((l0_2.length : Int) : Int) := of_decide_eq_true AS; have e_ := (HM.CR 0 rfl).1; omega) (fun _ _ h => k95_openM h) (k95_mkM _ _ _ (⟨x166000_23, a3, t168⟩ : S95)) ?_; clear HM; intro w47 HM))
          refine RGN 6 [0, 1, 2, 3, 4, 5] (fun a0 b a w' => a = putSel a0 b [(0, 63, .agg #[.int .i64 a0_0, .int .i64 a0_1, .slice (some ⟨go46, 0, none⟩) l0_2.length ko5, .slice Xo6 l0_3.length ko6, .slice Xo7 l0_4.length ko7]), (1, 64, .pointer (some ⟨gb165, 1, none⟩)), (2, 65, .string a3), (4, 9, .string a3), (5, 10, .bool true)] ∧ Mem w0 F w' [rowR k95 95 (.slice (some ⟨go46, 0, none⟩) l0_2.length ko5) (l0_2.set (t163 : Int).toNat (⟨x166000_23, a3, t168⟩ : S95)), rowR k95 95 (.slice Xo6 l0_3.length ko6) l0_3, rowR (Kd.int .i64) 3 (.slice Xo7 l0_4.length ko7) l0_4, box 32 gb161 [.int .i64 a0_0, .int .i64 a0_1, .slice (some ⟨go46, 0, none⟩) l0_2.length ko5, .slice Xo6 l0_3.length ko6, .slice Xo7 l0_4.length ko7], sel (b 3) (box 32 gb162 [.int .i64 a0_0, .int .i64 a0_1, .slice (some ⟨go46, 0, none⟩) l0_2.length ko5, .slice Xo6 l0_3.length ko6, .slice Xo7 l0_4.length ko7]) (box 32 gb162 [.int .i64 0, .int .i64 0, .slice none 0 0, .slice none 0 0, .slice none 0 0]), box 95 gb165 [.string x166000_23, .string a3, .int .i64 t168]]) spec_l10Touch.tab16 spec_l10Touch.bits16 ?_ ?_ ?_
          ·exact ⟨PS0' rfl _, (HM.drew).pick [0, 1, 2, 3, 4, 5]⟩
          ·clear HM
           refine steps_cons ?_ ?_
           ·rintro b a w ⟨ha, HM⟩ hb hon hoff
            refine ⟨_, rfl, fun K hK => ?_⟩
            obtain ⟨hcz51_0, hcz51_1, hcz51_2, hcz51_3, hcz51_4, hfz51_0, hfz51_1, hfz51_2, hfz51_3, hfz51_4⟩ := bk5 (HM.bx 3 rfl)
            have e4 := POF ha 4
            replace ha := Aside0.mk ha
            exact VL (.agg #[.int .i64 a0_0, .int .i64 a0_1, .slice (some ⟨go46, 0, none⟩) l0_2.length ko5, .slice Xo6 l0_3.length ko6, .slice Xo7 l0_4.length ko7]) (hK.out _ _ ⟨PUT ha 0 hb, HM⟩)
           refine steps_cons ?_ ?_
           ·rintro b a w ⟨ha, HM⟩ hb hon hoff
            refine ⟨_, rfl, fun K hK => ?_⟩
            have e13 := POF ha 13
            replace ha := Aside0.mk ha
            exact VL (.pointer (some ⟨gb165, 1, none⟩)) (hK.out _ _ ⟨PUT ha 1 hb, HM⟩)
           refine steps_cons ?_ ?_
           ·rintro b a w ⟨ha, HM⟩ hb hon hoff
            refine ⟨_, rfl, fun K hK => ?_⟩
            obtain ⟨hcz52_0, hcz52_1, hcz52_2, hfz52_0, hfz52_1, hfz52_2⟩ := bk3 (HM.bx 5 rfl)
            have e64 := PON ha 1 (hon 1 (by kernel_rfl))
            replace ha := Aside0.mk ha
            exact VL (.string a3) (hK.out _ _ ⟨PUT ha 2 hb, HM⟩)
           refine steps_cons ?_ ?_
           ·rintro b a w ⟨ha, HM⟩ hb hon hoff
            refine ⟨_, rfl, fun K hK => ?_⟩
            replace HM := HM.sF 4 rfl hb
            have e8 := POF ha 8
            have e63 := PON ha 0 (hon 0 (by kernel_rfl))
            replace ha := Aside0.mk ha
            refine ST (eS 4 8 0 [.int .i64 a0_0, .int .i64 a0_1, .slice (some ⟨go46, 0, none⟩) l0_2.length ko5, .slice Xo6 l0_3.length ko6, .slice Xo7 l0_4.length ko7] HM rfl rfl ?_ (hp := (eval_of e8)) (hx := (by rw [eval_of e63]; rfl)))
            clear HM
            intro w53 HM
            exact hK.out _ _ ⟨PUS ha, (HM).pick [0, 1, 2, 3, 4, 5]⟩
           refine steps_cons ?_ ?_
           ·rintro b a w ⟨ha, HM⟩ hb hon hoff
            refine ⟨_, rfl, fun K hK => ?_⟩
            have e65 := PON ha 2 (hon 2 (by kernel_rfl))
            replace ha := Aside0.mk ha
            exact VL (.string a3) (hK.out _ _ ⟨PUT ha 3 hb, HM⟩)
           refine steps_cons ?_ ?_
           ·rintro b a w ⟨ha, HM⟩ hb hon hoff
            refine ⟨_, rfl, fun K hK => ?_⟩
            replace ha := Aside0.mk ha
            exact VL (.bool true) (hK.out _ _ ⟨PUT ha 4 hb, HM⟩)
           exact steps_nil
          rintro _ w54 ⟨rfl, HM⟩
          replace HM := HM.sT 4 rfl rfl
          simp only [putSel, if_true, Act.put, List.setIfInBounds_toArray, List.set_cons_zero, List.set_cons_succ, gt_iff_lt, ge_iff_le]
          simp only [Option.some.injEq, Prod.mk.injEq] at H
          obtain ⟨rfl, rfl, rfl, rfl, rfl, rfl, rfl⟩ := H
          go_wp2
          refine bodyPost_ret (results_ctt rfl _ _ gb162 32 #[.int .i64 a0_0, .int .i64 a0_1, .slice (some ⟨go46, 0, none⟩) l0_2.length ko5, .slice Xo6 l0_3.length ko6, .slice Xo7 l0_4.length ko7] (0, 0) _ rfl (HM.bx 4 rfl) Try.underlying32 rfl (by kernel_rfl)) rfl ?_
          exact ⟨_, _, _, ER, (MD HM).pick [0, 1, 2]⟩
         ·have c41b0 : decide (0 ≤ t163) = false := decide_eq_false c41
          clear c41
          (first | rw [c41b0] | (simp only [i64_w, i32_w]; rw [c41b0]) | skip)
          replace H := GD H; obtain ⟨c57, H⟩ := H
          have c57b0 : decide (0 ≤ t164) = true := decide_eq_true c57
          clear c57
          replace H := GD H; obtain ⟨c58, H⟩ := H
          have c58b0 : decide (t164 < (l0_3.length : Int)) = true := decide_eq_true c58
          clear c58
          obtain ⟨hcz55_0, hcz55_1, hcz55_2, hcz55_3, hcz55_4, hfz55_0, hfz55_1, hfz55_2, hfz55_3, hfz55_4⟩ := bk5 (HM.bx 3 rfl)
          obtain ⟨hcz56_0, hcz56_1, hcz56_2, hfz56_0, hfz56_1, hfz56_2⟩ := bk3 (HM.bx 5 rfl)
          have p59 : 0 ≤ (t164 : Int) := of_decide_eq_true AS
          have q59 : (t164 : Int) < ((l0_3.length : Int) : Int) := of_decide_eq_true AS
          obtain ⟨go59, ef59⟩ := HM.form 1 rfl (by have h_ := (HM.CR 1 rfl).1; omega)
          subst ef59
          obtain ⟨hcc59, hfr59⟩ := HM.el 1 rfl z95 (t164 : Int) p59 (by have h_ := (HM.CR 1 rfl).1; omega) [.string ((rd_T95 l0_3 t164).f0), .string ((rd_T95 l0_3 t164).f1), .int .i64 ((rd_T95 l0_3 t164).f2)] (fun _ _ h => k95_openM h)
          have hx59_0 : w40.cell? ⟨go59, (t164 : Int).toNat * 3, none⟩ = some (.string ((rd_T95 l0_3 t164).f0)) := (by have h_ := hcc59 0 _ rfl; first | exact h_ | (simp only [show (k95).sz = 3 from rfl, Nat.mul_one, Nat.add_zero] at h_; exact h_) | simpa using h_)
          have hf59_0 : w40.frozen? ⟨go59, (t164 : Int).toNat * 3, none⟩ = false := (by have h_ := hfr59 0; first | exact h_ | (simp only [show (k95).sz = 3 from rfl, Nat.mul_one, Nat.add_zero] at h_; exact h_) | simpa using h_)
          have hx59_1 : w40.cell? ⟨go59, (t164 : Int).toNat * 3 + 1, none⟩ = some (.string ((rd_T95 l0_3 t164).f1)) := (by have h_ := hcc59 1 _ rfl; first | exact h_ | (simp only [show (k95).sz = 3 from rfl, Nat.mul_one, Nat.add_zero] at h_; exact h_) | simpa using h_)
          have hf59_1 : w40.frozen? ⟨go59, (t164 : Int).toNat * 3 + 1, none⟩ = false := (by have h_ := hfr59 1; first | exact h_ | (simp only [show (k95).sz = 3 from rfl, Nat.mul_one, Nat.add_zero] at h_; exact h_) | simpa using h_)
          have hx59_2 : w40.cell? ⟨go59, (t164 : Int).toNat * 3 + 2, none⟩ = some (.int .i64 ((rd_T95 l0_3 t164).f2)) := (by have h_ := hcc59 2 _ rfl; first | exact h_ | (simp only [show (k95).sz = 3 from rfl, Nat.mul_one, Nat.add_zero] at h_; exact h_) | simpa using h_)
          have hf59_2 : w40.frozen? ⟨go59, (t164 : Int).toNat * 3 + 2, none⟩ = false := (by have h_ := hfr59 2; first | exact h_ | (simp only [show (k95).sz = 3 from rfl, Nat.mul_one, Nat.add_zero] at h_; exact h_) | simpa using h_)
          clear hcc59 hfr59
          replace p59 := eq_true p59
          replace q59 := eq_true q59
          try go_wp2_with (first | ((with_reducible refine gate_st (p := 62) rfl ?_); refine pPR 1 62 (t164 : Int) 0 [.string x166000_23, .string a3, .int .i64 t168] k95 95 l0_3 (⟨x166000_23, a3, t168⟩ : S95) z95 [.string ((rd_T95 l0_3 t164).f0), .string ((rd_T95 l0_3 t164).f1), .int .i64 ((rd_T95 l0_3 t164).f2)] HM rfl rfl (of_decide_eq_true AS) (by have h_ : (t164 : Int) < ((l0_3.length : Int) : Int) := of_decide_eq_true AS; have e_ := (HM.CR 1 rfl).1; omega) (fun _ _ h => k95_openM h) (k95_mkM _ _ _ (⟨x166000_23, a3, t168⟩ : S95)) ?_; clear HM; intro w60 HM))
          refine RGN 6 [0, 1, 2, 3, 4, 5] (fun a0 b a w' => a = putSel a0 b [(0, 63, .agg #[.int .i64 a0_0, .int .i64 a0_1, .slice Xo5 l0_2.length ko5, .slice (some ⟨go59, 0, none⟩) l0_3.length ko6, .slice Xo7 l0_4.length ko7]), (1, 64, .pointer (some ⟨gb165, 1, none⟩)), (2, 65, .string a3), (4, 9, .string a3), (5, 10, .bool true)] ∧ Mem w0 F w' [rowR k95 95 (.slice Xo5 l0_2.length ko5) l0_2, rowR k95 95 (.slice (some ⟨go59, 0, none⟩) l0_3.length ko6) (l0_3.set (t164 : Int).toNat (⟨x166000_23, a3, t168⟩ : S95)), rowR (Kd.int .i64) 3 (.slice Xo7 l0_4.length ko7) l0_4, box 32 gb161 [.int .i64 a0_0, .int .i64 a0_1, .slice Xo5 l0_2.length ko5, .slice (some ⟨go59, 0, none⟩) l0_3.length ko6, .slice Xo7 l0_4.length ko7], sel (b 3) (box 32 gb162 [.int .i64 a0_0, .int .i64 a0_1, .slice Xo5 l0_2.length ko5, .slice (some ⟨go59, 0, none⟩) l0_3.length ko6, .slice Xo7 l0_4.length ko7]) (box 32 gb162 [.int .i64 0, .int .i64 0, .slice none 0 0, .slice none 0 0, .slice none 0 0]), box 95 gb165 [.string x166000_23, .string a3, .int .i64 t168]]) spec_l10Touch.tab16 spec_l10Touch.bits16 ?_ ?_ ?_
          ·exact ⟨PS0' rfl _, (HM.drew).pick [0, 1, 2, 3, 4, 5]⟩
          ·clear HM
           refine steps_cons ?_ ?_
           ·rintro b a w ⟨ha, HM⟩ hb hon hoff
            refine ⟨_, rfl, fun K hK => ?_⟩
            obtain ⟨hcz64_0, hcz64_1, hcz64_2, hcz64_3, hcz64_4, hfz64_0, hfz64_1, hfz64_2, hfz64_3, hfz64_4⟩ := bk5 (HM.bx 3 rfl)
            have e4 := POF ha 4
            replace ha := Aside0.mk ha
            exact VL (.agg #[.int .i64 a0_0, .int .i64 a0_1, .slice Xo5 l0_2.length ko5, .slice (some ⟨go59, 0, none⟩) l0_3.length ko6, .slice Xo7 l0_4.length ko7]) (hK.out _ _ ⟨PUT ha 0 hb, HM⟩)
           refine steps_cons ?_ ?_
           ·rintro b a w ⟨ha, HM⟩ hb hon hoff
            refine ⟨_, rfl, fun K hK => ?_⟩
            have e13 := POF ha 13
            replace ha := Aside0.mk ha
            exact VL (.pointer (some ⟨gb165, 1, none⟩)) (hK.out _ _ ⟨PUT ha 1 hb, HM⟩)
           refine steps_cons ?_ ?_
           ·rintro b a w ⟨ha, HM⟩ hb hon hoff
            refine ⟨_, rfl, fun K hK => ?_⟩
            obtain ⟨hcz65_0, hcz65_1, hcz65_2, hfz65_0, hfz65_1, hfz65_2⟩ := bk3 (HM.bx 5 rfl)
            have e64 := PON ha 1 (hon 1 (by kernel_rfl))
            replace ha := Aside0.mk ha
            exact VL (.string a3) (hK.out _ _ ⟨PUT ha 2 hb, HM⟩)
           refine steps_cons ?_ ?_
           ·rintro b a w ⟨ha, HM⟩ hb hon hoff
            refine ⟨_, rfl, fun K hK => ?_⟩
            replace HM := HM.sF 4 rfl hb
            have e8 := POF ha 8
            have e63 := PON ha 0 (hon 0 (by kernel_rfl))
            replace ha := Aside0.mk ha
            refine ST (eS 4 8 0 [.int .i64 a0_0, .int .i64 a0_1, .slice Xo5 l0_2.length ko5, .slice (some ⟨go59, 0, none⟩) l0_3.length ko6, .slice Xo7 l0_4.length ko7] HM rfl rfl ?_ (hp := (eval_of e8)) (hx := (by rw [eval_of e63]; rfl)))
            clear HM
            intro w66 HM
            exact hK.out _ _ ⟨PUS ha, (HM).pick [0, 1, 2, 3, 4, 5]⟩
           refine steps_cons ?_ ?_
           ·rintro b a w ⟨ha, HM⟩ hb hon hoff
            refine ⟨_, rfl, fun K hK => ?_⟩
            have e65 := PON ha 2 (hon 2 (by kernel_rfl))
            replace ha := Aside0.mk ha
            exact VL (.string a3) (hK.out _ _ ⟨PUT ha 3 hb, HM⟩)
           refine steps_cons ?_ ?_
           ·rintro b a w ⟨ha, HM⟩ hb hon hoff
            refine ⟨_, rfl, fun K hK => ?_⟩
            replace ha := Aside0.mk ha
            exact VL (.bool true) (hK.out _ _ ⟨PUT ha 4 hb, HM⟩)
           exact steps_nil
          rintro _ w67 ⟨rfl, HM⟩
          replace HM := HM.sT 4 rfl rfl
          simp only [putSel, if_true, Act.put, List.setIfInBounds_toArray, List.set_cons_zero, List.set_cons_succ, gt_iff_lt, ge_iff_le]
          simp only [Option.some.injEq, Prod.mk.injEq] at H
          obtain ⟨rfl, rfl, rfl, rfl, rfl, rfl, rfl⟩ := H
          go_wp2
          refine bodyPost_ret (results_ctt rfl _ _ gb162 32 #[.int .i64 a0_0, .int .i64 a0_1, .slice Xo5 l0_2.length ko5, .slice (some ⟨go59, 0, none⟩) l0_3.length ko6, .slice Xo7 l0_4.length ko7] (0, 0) _ rfl (HM.bx 4 rfl) Try.underlying32 rfl (by kernel_rfl)) rfl ?_
          exact ⟨_, _, _, ER, (MD HM).pick [0, 1, 2]⟩
        ·subst c39
         go_upto_if 52 with (fail)
         replace H := IT H; rcases H with ⟨c68, H⟩ | ⟨c68, H⟩
         ·have c68b0 : decide (0 ≤ t163) = true := decide_eq_true c68
          clear c68
          (first | rw [c68b0] | (simp only [i64_w, i32_w]; rw [c68b0]) | skip)
          replace H := GD H; obtain ⟨c71, H⟩ := H
          have c71b0 : decide (0 ≤ t163) = true := decide_eq_true c71
          clear c71
          replace H := GD H; obtain ⟨c72, H⟩ := H
          have c72b0 : decide (t163 < (l0_2.length : Int)) = true := decide_eq_true c72
          clear c72
          obtain ⟨hcz69_0, hcz69_1, hcz69_2, hcz69_3, hcz69_4, hfz69_0, hfz69_1, hfz69_2, hfz69_3, hfz69_4⟩ := bk5 (HM.bx 3 rfl)
          obtain ⟨hcz70_0, hcz70_1, hcz70_2, hfz70_0, hfz70_1, hfz70_2⟩ := bk3 (HM.bx 5 rfl)
          have p73 : 0 ≤ (t163 : Int) := of_decide_eq_true AS
          have q73 : (t163 : Int) < ((l0_2.length : Int) : Int) := of_decide_eq_true AS
          obtain ⟨go73, ef73⟩ := HM.form 0 rfl (by have h_ := (HM.CR 0 rfl).1; omega)
          subst ef73
          obtain ⟨hcc73, hfr73⟩ := HM.el 0 rfl z95 (t163 : Int) p73 (by have h_ := (HM.CR 0 rfl).1; omega) [.string ((rd_T95 l0_2 t163).f0), .string ((rd_T95 l0_2 t163).f1), .int .i64 ((rd_T95 l0_2 t163).f2)] (fun _ _ h => k95_openM h)
          have hx73_0 : w38.cell? ⟨go73, (t163 : Int).toNat * 3, none⟩ = some (.string ((rd_T95 l0_2 t163).f0)) := (by have h_ := hcc73 0 _ rfl; first | exact h_ | (simp only [show (k95).sz = 3 from rfl, Nat.mul_one, Nat.add_zero] at h_; exact h_) | simpa using h_)
          have hf73_0 : w38.frozen? ⟨go73, (t163 : Int).toNat * 3, none⟩ = false := (by have h_ := hfr73 0; first | exact h_ | (simp only [show (k95).sz = 3 from rfl, Nat.mul_one, Nat.add_zero] at h_; exact h_) | simpa using h_)
          have hx73_1 : w38.cell? ⟨go73, (t163 : Int).toNat * 3 + 1, none⟩ = some (.string ((rd_T95 l0_2 t163).f1)) := (by have h_ := hcc73 1 _ rfl; first | exact h_ | (simp only [show (k95).sz = 3 from rfl, Nat.mul_one, Nat.add_zero] at h_; exact h_) | simpa using h_)
          have hf73_1 : w38.frozen? ⟨go73, (t163 : Int).toNat * 3 + 1, none⟩ = false := (by have h_ := hfr73 1; first | exact h_ | (simp only [show (k95).sz = 3 from rfl, Nat.mul_one, Nat.add_zero] at h_; exact h_) | simpa using h_)
          have hx73_2 : w38.cell? ⟨go73, (t163 : Int).toNat * 3 + 2, none⟩ = some (.int .i64 ((rd_T95 l0_2 t163).f2)) := (by have h_ := hcc73 2 _ rfl; first | exact h_ | (simp only [show (k95).sz = 3 from rfl, Nat.mul_one, Nat.add_zero] at h_; exact h_) | simpa using h_)
          have hf73_2 : w38.frozen? ⟨go73, (t163 : Int).toNat * 3 + 2, none⟩ = false := (by have h_ := hfr73 2; first | exact h_ | (simp only [show (k95).sz = 3 from rfl, Nat.mul_one, Nat.add_zero] at h_; exact h_) | simpa using h_)
          clear hcc73 hfr73
          replace p73 := eq_true p73
          replace q73 := eq_true q73
          try go_wp2_with (first | ((with_reducible refine gate_st (p := 57) rfl ?_); refine pPR 0 57 (t163 : Int) 0 [.string x166000_23, .string x166001_23, .int .i64 t168] k95 95 l0_2 (⟨x166000_23, x166001_23, t168⟩ : S95) z95 [.string ((rd_T95 l0_2 t163).f0), .string ((rd_T95 l0_2 t163).f1), .int .i64 ((rd_T95 l0_2 t163).f2)] HM rfl rfl (of_decide_eq_true AS) (by have h_ : (t163 : Int) < ((l0_2.length : Int) : Int) := of_decide_eq_true AS; have e_ := (HM.CR 0 rfl).1; omega) (fun _ _ h => k95_openM h) (k95_mkM _ _ _ (⟨x166000_23, x166001_23, t168⟩ : S95)) ?_; clear HM; intro w74 HM))
          refine RGN 6 [0, 1, 2, 3, 4, 5] (fun a0 b a w' => a = putSel a0 b [(0, 63, .agg #[.int .i64 a0_0, .int .i64 a0_1, .slice (some ⟨go73, 0, none⟩) l0_2.length ko5, .slice Xo6 l0_3.length ko6, .slice Xo7 l0_4.length ko7]), (1, 64, .pointer (some ⟨gb165, 1, none⟩)), (2, 65, .string x166001_23), (4, 9, .string x166001_23), (5, 10, .bool true)] ∧ Mem w0 F w' [rowR k95 95 (.slice (some ⟨go73, 0, none⟩) l0_2.length ko5) (l0_2.set (t163 : Int).toNat (⟨x166000_23, x166001_23, t168⟩ : S95)), rowR k95 95 (.slice Xo6 l0_3.length ko6) l0_3, rowR (Kd.int .i64) 3 (.slice Xo7 l0_4.length ko7) l0_4, box 32 gb161 [.int .i64 a0_0, .int .i64 a0_1, .slice (some ⟨go73, 0, none⟩) l0_2.length ko5, .slice Xo6 l0_3.length ko6, .slice Xo7 l0_4.length ko7], sel (b 3) (box 32 gb162 [.int .i64 a0_0, .int .i64 a0_1, .slice (some ⟨go73, 0, none⟩) l0_2.length ko5, .slice Xo6 l0_3.length ko6, .slice Xo7 l0_4.length ko7]) (box 32 gb162 [.int .i64 0, .int .i64 0, .slice none 0 0, .slice none 0 0, .slice none 0 0]), box 95 gb165 [.string x166000_23, .string x166001_23, .int .i64 t168]]) spec_l10Touch.tab16 spec_l10Touch.bits16 ?_ ?_ ?_
          ·exact ⟨PS0' rfl _, (HM.drew).pick [0, 1, 2, 3, 4, 5]⟩
          ·clear HM
           refine steps_cons ?_ ?_
           ·rintro b a w ⟨ha, HM⟩ hb hon hoff
            refine ⟨_, rfl, fun K hK => ?_⟩
            obtain ⟨hcz78_0, hcz78_1, hcz78_2, hcz78_3, hcz78_4, hfz78_0, hfz78_1, hfz78_2, hfz78_3, hfz78_4⟩ := bk5 (HM.bx 3 rfl)
            have e4 := POF ha 4
            replace ha := Aside0.mk ha
            exact VL (.agg #[.int .i64 a0_0, .int .i64 a0_1, .slice (some ⟨go73, 0, none⟩) l0_2.length ko5, .slice Xo6 l0_3.length ko6, .slice Xo7 l0_4.length ko7]) (hK.out _ _ ⟨PUT ha 0 hb, HM⟩)
           refine steps_cons ?_ ?_
           ·rintro b a w ⟨ha, HM⟩ hb hon hoff
            refine ⟨_, rfl, fun K hK => ?_⟩
            have e13 := POF ha 13
            replace ha := Aside0.mk ha
            exact VL (.pointer (some ⟨gb165, 1, none⟩)) (hK.out _ _ ⟨PUT ha 1 hb, HM⟩)
           refine steps_cons ?_ ?_
           ·rintro b a w ⟨ha, HM⟩ hb hon hoff
            refine ⟨_, rfl, fun K hK => ?_⟩
            obtain ⟨hcz79_0, hcz79_1, hcz79_2, hfz79_0, hfz79_1, hfz79_2⟩ := bk3 (HM.bx 5 rfl)
            have e64 := PON ha 1 (hon 1 (by kernel_rfl))
            replace ha := Aside0.mk ha
            exact VL (.string x166001_23) (hK.out _ _ ⟨PUT ha 2 hb, HM⟩)
           refine steps_cons ?_ ?_
           ·rintro b a w ⟨ha, HM⟩ hb hon hoff
            refine ⟨_, rfl, fun K hK => ?_⟩
            replace HM := HM.sF 4 rfl hb
            have e8 := POF ha 8
            have e63 := PON ha 0 (hon 0 (by kernel_rfl))
            replace ha := Aside0.mk ha
            refine ST (eS 4 8 0 [.int .i64 a0_0, .int .i64 a0_1, .slice (some ⟨go73, 0, none⟩) l0_2.length ko5, .slice Xo6 l0_3.length ko6, .slice Xo7 l0_4.length ko7] HM rfl rfl ?_ (hp := (eval_of e8)) (hx := (by rw [eval_of e63]; rfl)))
            clear HM
            intro w80 HM
            exact hK.out _ _ ⟨PUS ha, (HM).pick [0, 1, 2, 3, 4, 5]⟩
           refine steps_cons ?_ ?_
           ·rintro b a w ⟨ha, HM⟩ hb hon hoff
            refine ⟨_, rfl, fun K hK => ?_⟩
            have e65 := PON ha 2 (hon 2 (by kernel_rfl))
            replace ha := Aside0.mk ha
            exact VL (.string x166001_23) (hK.out _ _ ⟨PUT ha 3 hb, HM⟩)
           refine steps_cons ?_ ?_
           ·rintro b a w ⟨ha, HM⟩ hb hon hoff
            refine ⟨_, rfl, fun K hK => ?_⟩
            replace ha := Aside0.mk ha
            exact VL (.bool true) (hK.out _ _ ⟨PUT ha 4 hb, HM⟩)
           exact steps_nil
          rintro _ w81 ⟨rfl, HM⟩
          replace HM := HM.sT 4 rfl rfl
          simp only [putSel, if_true, Act.put, List.setIfInBounds_toArray, List.set_cons_zero, List.set_cons_succ, gt_iff_lt, ge_iff_le]
          simp only [Option.some.injEq, Prod.mk.injEq] at H
          obtain ⟨rfl, rfl, rfl, rfl, rfl, rfl, rfl⟩ := H
          go_wp2
          refine bodyPost_ret (results_ctt rfl _ _ gb162 32 #[.int .i64 a0_0, .int .i64 a0_1, .slice (some ⟨go73, 0, none⟩) l0_2.length ko5, .slice Xo6 l0_3.length ko6, .slice Xo7 l0_4.length ko7] (0, 0) _ rfl (HM.bx 4 rfl) Try.underlying32 rfl (by kernel_rfl)) rfl ?_
          exact ⟨_, _, _, ER, (MD HM).pick [0, 1, 2]⟩
         ·have c68b0 : decide (0 ≤ t163) = false := decide_eq_false c68
          clear c68
          (first | rw [c68b0] | (simp only [i64_w, i32_w]; rw [c68b0]) | skip)
          replace H := GD H; obtain ⟨c84, H⟩ := H
          have c84b0 : decide (0 ≤ t164) = true := decide_eq_true c84
          clear c84
          replace H := GD H; obtain ⟨c85, H⟩ := H
          have c85b0 : decide (t164 < (l0_3.length : Int)) = true := decide_eq_true c85
          clear c85
          obtain ⟨hcz82_0, hcz82_1, hcz82_2, hcz82_3, hcz82_4, hfz82_0, hfz82_1, hfz82_2, hfz82_3, hfz82_4⟩ := bk5 (HM.bx 3 rfl)
          obtain ⟨hcz83_0, hcz83_1, hcz83_2, hfz83_0, hfz83_1, hfz83_2⟩ := bk3 (HM.bx 5 rfl)
          have p86 : 0 ≤ (t164 : Int) := of_decide_eq_true AS
          have q86 : (t164 : Int) < ((l0_3.length : Int) : Int) := of_decide_eq_true AS
          obtain ⟨go86, ef86⟩ := HM.form 1 rfl (by have h_ := (HM.CR 1 rfl).1; omega)
          subst ef86
          obtain ⟨hcc86, hfr86⟩ := HM.el 1 rfl z95 (t164 : Int) p86 (by have h_ := (HM.CR 1 rfl).1; omega) [.string ((rd_T95 l0_3 t164).f0), .string ((rd_T95 l0_3 t164).f1), .int .i64 ((rd_T95 l0_3 t164).f2)] (fun _ _ h => k95_openM h)
          have hx86_0 : w38.cell? ⟨go86, (t164 : Int).toNat * 3, none⟩ = some (.string ((rd_T95 l0_3 t164).f0)) := (by have h_ := hcc86 0 _ rfl; first | exact h_ | (simp only [show (k95).sz = 3 from rfl, Nat.mul_one, Nat.add_zero] at h_; exact h_) | simpa using h_)
          have hf86_0 : w38.frozen? ⟨go86, (t164 : Int).toNat * 3, none⟩ = false := (by have h_ := hfr86 0; first | exact h_ | (simp only [show (k95).sz = 3 from rfl, Nat.mul_one, Nat.add_zero] at h_; exact h_) | simpa using h_)
          have hx86_1 : w38.cell? ⟨go86, (t164 : Int).toNat * 3 + 1, none⟩ = some (.string ((rd_T95 l0_3 t164).f1)) := (by have h_ := hcc86 1 _ rfl; first | exact h_ | (simp only [show (k95).sz = 3 from rfl, Nat.mul_one, Nat.add_zero] at h_; exact h_) | simpa using h_)
          have hf86_1 : w38.frozen? ⟨go86, (t164 : Int).toNat * 3 + 1, none⟩ = false := (by have h_ := hfr86 1; first | exact h_ | (simp only [show (k95).sz = 3 from rfl, Nat.mul_one, Nat.add_zero] at h_; exact h_) | simpa using h_)
          have hx86_2 : w38.cell? ⟨go86, (t164 : Int).toNat * 3 + 2, none⟩ = some (.int .i64 ((rd_T95 l0_3 t164).f2)) := (by have h_ := hcc86 2 _ rfl; first | exact h_ | (simp only [show (k95).sz = 3 from rfl, Nat.mul_one, Nat.add_zero] at h_; exact h_) | simpa using h_)
          have hf86_2 : w38.frozen? ⟨go86, (t164 : Int).toNat * 3 + 2, none⟩ = false := (by have h_ := hfr86 2; first | exact h_ | (simp only [show (k95).sz = 3 from rfl, Nat.mul_one, Nat.add_zero] at h_; exact h_) | simpa using h_)
          clear hcc86 hfr86
          replace p86 := eq_true p86
          replace q86 := eq_true q86
          try go_wp2_with (first | ((with_reducible refine gate_st (p := 62) rfl ?_); refine pPR 1 62 (t164 : Int) 0 [.string x166000_23, .string x166001_23, .int .i64 t168] k95 95 l0_3 (⟨x166000_23, x166001_23, t168⟩ : S95) z95 [.string ((rd_T95 l0_3 t164).f0), .string ((rd_T95 l0_3 t164).f1), .int .i64 ((rd_T95 l0_3 t164).f2)] HM rfl rfl (of_decide_eq_true AS) (by have h_ : (t164 : Int) < ((l0_3.length : Int) : Int) := of_decide_eq_true AS; have e_ := (HM.CR 1 rfl).1; omega) (fun _ _ h => k95_openM h) (k95_mkM _ _ _ (⟨x166000_23, x166001_23, t168⟩ : S95)) ?_; clear HM; intro w87 HM))
          refine RGN 6 [0, 1, 2, 3, 4, 5] (fun a0 b a w' => a = putSel a0 b [(0, 63, .agg #[.int .i64 a0_0, .int .i64 a0_1, .slice Xo5 l0_2.length ko5, .slice (some ⟨go86, 0, none⟩) l0_3.length ko6, .slice Xo7 l0_4.length ko7]), (1, 64, .pointer (some ⟨gb165, 1, none⟩)), (2, 65, .string x166001_23), (4, 9, .string x166001_23), (5, 10, .bool true)] ∧ Mem w0 F w' [rowR k95 95 (.slice Xo5 l0_2.length ko5) l0_2, rowR k95 95 (.slice (some ⟨go86, 0, none⟩) l0_3.length ko6) (l0_3.set (t164 : Int).toNat (⟨x166000_23, x166001_23, t168⟩ : S95)), rowR (Kd.int .i64) 3 (.slice Xo7 l0_4.length ko7) l0_4, box 32 gb161 [.int .i64 a0_0, .int .i64 a0_1, .slice Xo5 l0_2.length ko5, .slice (some ⟨go86, 0, none⟩) l0_3.length ko6, .slice Xo7 l0_4.length ko7], sel (b 3) (box 32 gb162 [.int .i64 a0_0, .int .i64 a0_1, .slice Xo5 l0_2.length ko5, .slice (some ⟨go86, 0, none⟩) l0_3.length ko6, .slice Xo7 l0_4.length ko7]) (box 32 gb162 [.int .i64 0, .int .i64 0, .slice none 0 0, .slice none 0 0, .slice none 0 0]), box 95 gb165 [.string x166000_23, .string x166001_23, .int .i64 t168]]) spec_l10Touch.tab16 spec_l10Touch.bits16 ?_ ?_ ?_
          ·exact ⟨PS0' rfl _, (HM.drew).pick [0, 1, 2, 3, 4, 5]⟩
          ·clear HM
           refine steps_cons ?_ ?_
           ·rintro b a w ⟨ha, HM⟩ hb hon hoff
            refine ⟨_, rfl, fun K hK => ?_⟩
            obtain ⟨hcz91_0, hcz91_1, hcz91_2, hcz91_3, hcz91_4, hfz91_0, hfz91_1, hfz91_2, hfz91_3, hfz91_4⟩ := bk5 (HM.bx 3 rfl)
            have e4 := POF ha 4
            replace ha := Aside0.mk ha
            exact VL (.agg #[.int .i64 a0_0, .int .i64 a0_1, .slice Xo5 l0_2.length ko5, .slice (some ⟨go86, 0, none⟩) l0_3.length ko6, .slice Xo7 l0_4.length ko7]) (hK.out _ _ ⟨PUT ha 0 hb, HM⟩)
           refine steps_cons ?_ ?_
           ·rintro b a w ⟨ha, HM⟩ hb hon hoff
            refine ⟨_, rfl, fun K hK => ?_⟩
            have e13 := POF ha 13
            replace ha := Aside0.mk ha
            exact VL (.pointer (some ⟨gb165, 1, none⟩)) (hK.out _ _ ⟨PUT ha 1 hb, HM⟩)
           refine steps_cons ?_ ?_
           ·rintro b a w ⟨ha, HM⟩ hb hon hoff
            refine ⟨_, rfl, fun K hK => ?_⟩
            obtain ⟨hcz92_0, hcz92_1, hcz92_2, hfz92_0, hfz92_1, hfz92_2⟩ := bk3 (HM.bx 5 rfl)
            have e64 := PON ha 1 (hon 1 (by kernel_rfl))
            replace ha := Aside0.mk ha
            exact VL (.string x166001_23) (hK.out _ _ ⟨PUT ha 2 hb, HM⟩)
           refine steps_cons ?_ ?_
           ·rintro b a w ⟨ha, HM⟩ hb hon hoff
            refine ⟨_, rfl, fun K hK => ?_⟩
            replace HM := HM.sF 4 rfl hb
            have e8 := POF ha 8
            have e63 := PON ha 0 (hon 0 (by kernel_rfl))
            replace ha := Aside0.mk ha
            refine ST (eS 4 8 0 [.int .i64 a0_0, .int .i64 a0_1, .slice Xo5 l0_2.length ko5, .slice (some ⟨go86, 0, none⟩) l0_3.length ko6, .slice Xo7 l0_4.length ko7] HM rfl rfl ?_ (hp := (eval_of e8)) (hx := (by rw [eval_of e63]; rfl)))
            clear HM
            intro w93 HM
            exact hK.out _ _ ⟨PUS ha, (HM).pick [0, 1, 2, 3, 4, 5]⟩
           refine steps_cons ?_ ?_
           ·rintro b a w ⟨ha, HM⟩ hb hon hoff
            refine ⟨_, rfl, fun K hK => ?_⟩
            have e65 := PON ha 2 (hon 2 (by kernel_rfl))
            replace ha := Aside0.mk ha
            exact VL (.string x166001_23) (hK.out _ _ ⟨PUT ha 3 hb, HM⟩)
           refine steps_cons ?_ ?_
           ·rintro b a w ⟨ha, HM⟩ hb hon hoff
            refine ⟨_, rfl, fun K hK => ?_⟩
            replace ha := Aside0.mk ha
            exact VL (.bool true) (hK.out _ _ ⟨PUT ha 4 hb, HM⟩)
           exact steps_nil
          rintro _ w94 ⟨rfl, HM⟩
          replace HM := HM.sT 4 rfl rfl
          simp only [putSel, if_true, Act.put, List.setIfInBounds_toArray, List.set_cons_zero, List.set_cons_succ, gt_iff_lt, ge_iff_le]
          simp only [Option.some.injEq, Prod.mk.injEq] at H
          obtain ⟨rfl, rfl, rfl, rfl, rfl, rfl, rfl⟩ := H
          go_wp2
          refine bodyPost_ret (results_ctt rfl _ _ gb162 32 #[.int .i64 a0_0, .int .i64 a0_1, .slice Xo5 l0_2.length ko5, .slice (some ⟨go86, 0, none⟩) l0_3.length ko6, .slice Xo7 l0_4.length ko7] (0, 0) _ rfl (HM.bx 4 rfl) Try.underlying32 rfl (by kernel_rfl)) rfl ?_
          exact ⟨_, _, _, ER, (MD HM).pick [0, 1, 2]⟩
def spec_Get.f (k : Nat) (a0_0 : Int) (a0_1 : Int) (l0_2 : List (S95)) (l0_3 : List (S95)) (l0_4 : List Int) (a1 : ByteArray) : Option (Int × Int × (List (S95)) × (List (S95)) × List Int × ByteArray × Bool) := (spec_ThreeOk.f k a0_0 a0_1 l0_2 l0_3 l0_4).bind fun t175 => (if t175 = true then ((spec_l10Copy.f a0_0 a0_1 l0_2 l0_3 l0_4).bind fun bt176 => ((spec_l10Touch.f k bt176.1 bt176.2.1 bt176.2.2.1 bt176.2.2.2.1 bt176.2.2.2.2 a1 false (⟨#[]⟩ : ByteArray)).bind fun bt187 => (some (bt187.1, bt187.2.1, bt187.2.2.1, bt187.2.2.2.1, bt187.2.2.2.2.1, bt187.2.2.2.2.2.1, bt187.2.2.2.2.2.2)))) else (some (0, 0, ([] : List (S95)), ([] : List (S95)), ([] : List Int), (⟨#[]⟩ : ByteArray), false)))
theorem spec_Get.mono : ∀ a0 a1 a2 a3 a4 a5 k, LeO (spec_Get.f k a0 a1 a2 a3 a4 a5) (spec_Get.f (k + 1) a0 a1 a2 a3 a4 a5) := by
 intro a0 a1 a2 a3 a4 a5 k
 unfold spec_Get.f
 repeat' first | (with_reducible first | exact spec_ThreeOk.mono _ _ _ _ _ _ | exact spec_l10Touch.mono _ _ _ _ _ _ _ _ _ | exact LeO.refl _ | exact LeO.none _ | refine LeO.ite ?_ ?_ | refine LeO.bind ?_ (fun _ => ?_)) | exact spec_ThreeOk.mono _ _ _ _ _ _ | exact spec_l10Touch.mono _ _ _ _ _ _ _ _ _ | exact LeO.none _ | refine LeO.ite ?_ ?_ | refine LeO.bind ?_ (fun _ => ?_)
set_option maxHeartbeats 8000000 in
set_option maxRecDepth 100000 in
theorem spec_Get.calls (k : Nat) (a0_0 : Int) (a0_1 : Int) (A0_2 : Option Addr) (c0_2 : Nat) (l0_2 : List (S95)) (A0_3 : Option Addr) (c0_3 : Nat) (l0_3 : List (S95)) (A0_4 : Option Addr) (c0_4 : Nat) (l0_4 : List Int) (a1 : ByteArray) (r1 : Int) (r2 : Int) (r3 : List (S95)) (r4 : List (S95)) (r5 : List Int) (r6 : ByteArray) (r7 : Bool) (w : World) (hr0_2 : Kd.C k95 w A0_2 l0_2.length l0_2) (hc0_2 : l0_2.length ≤ c0_2) (hr0_3 : Kd.C k95 w A0_3 l0_3.length l0_3) (hc0_3 : l0_3.length ≤ c0_3) (hr0_4 : Kd.C (Kd.int .i64) w A0_4 l0_4.length l0_4) (hc0_4 : l0_4.length ≤ c0_4) (h : spec_Get.f k a0_0 a0_1 l0_2 l0_3 l0_4 a1 = some (r1, r2, r3, r4, r5, r6, r7)) :
  Calls Try.prog 34 #[.agg #[.int .i64 a0_0, .int .i64 a0_1, .slice A0_2 l0_2.length c0_2, .slice A0_3 l0_3.length c0_3, .slice A0_4 l0_4.length c0_4], .string a1] w fun e w' => ∃ v2_ v3_ v4_ : Value, e = .returned (.tuple #[.agg #[.int .i64 r1, .int .i64 r2, v2_, v3_, v4_], .string r6, .bool r7]) ∧ Mem w [] w' [rowR k95 95 v2_ r3, rowR k95 95 v3_ r4, rowR (Kd.int .i64) 3 v4_ r5] := by
 have hu32 := Try.underlying32
 have HR0_2 := Aside0.mk hr0_2
 have HC0_2 := Aside0.mk hc0_2
 clear hr0_2 hc0_2
 have HR0_3 := Aside0.mk hr0_3
 have HC0_3 := Aside0.mk hc0_3
 clear hr0_3 hc0_3
 have HR0_4 := Aside0.mk hr0_4
 have HC0_4 := Aside0.mk hc0_4
 clear hr0_4 hc0_4
 have HM := Mem.nil w
 have H := h
 clear h
 unfold spec_Get.f at H
 go_enter Try.func34, Try.ntmps34
 replace H := BN H; obtain ⟨t175, A6, H⟩ := H
 go_upto_if 9 with (first | ((with_reducible refine gate_dst (N := 2) rfl ?_); refine pB 2 32 [.int .i64 a0_0, .int .i64 a0_1, .slice A0_2 l0_2.length c0_2, .slice A0_3 l0_3.length c0_3, .slice A0_4 l0_4.length c0_4] HM rfl ?_; clear HM; intro gb173 w3 HM) | ((with_reducible refine gate_dst (N := 4) rfl ?_); refine pB 4 32 [.int .i64 0, .int .i64 0, .slice none 0 0, .slice none 0 0, .slice none 0 0] HM rfl ?_; clear HM; intro gb174 w4 HM; obtain ⟨hcz5_0, hcz5_1, hcz5_2, hcz5_3, hcz5_4, hfz5_0, hfz5_1, hfz5_2, hfz5_3, hfz5_4⟩ := bk5 (HM.bx 0 rfl)) | ((with_reducible refine gate_callee (f := 32) rfl ?_); refine pC (some 8) rfl #[.agg #[.int .i64 a0_0, .int .i64 a0_1, .slice A0_2 l0_2.length c0_2, .slice A0_3 l0_3.length c0_3, .slice A0_4 l0_4.length c0_4]] rfl Try.func32 (spec_ThreeOk.calls k a0_0 a0_1 _ _ l0_2 _ _ l0_3 _ _ l0_4 t175 _ (HM.came HR0_2.out) HC0_2.out (HM.came HR0_3.out) HC0_3.out (HM.came HR0_4.out) HC0_4.out A6.out) ?_; rintro e w7 ⟨rfl, hR⟩; refine ⟨_, rfl, ?_⟩; replace HM := HM.call hR; clear hR))
 replace HM := nzM HM
 replace H := IB H
 rcases H with ⟨c8, H⟩ | ⟨c8, H⟩
 ·subst c8
  replace H := BN H; obtain ⟨⟨t176, t177, t178, t181, t184⟩, A10, H⟩ := H
  replace H := BN H; obtain ⟨⟨t187, t188, t189, t192, t195, t198, t199⟩, A12, H⟩ := H
  simp only [Option.some.injEq, Prod.mk.injEq] at H
  obtain ⟨rfl, rfl, rfl, rfl, rfl, rfl, rfl⟩ := H
  obtain ⟨hcz9_0, hcz9_1, hcz9_2, hcz9_3, hcz9_4, hfz9_0, hfz9_1, hfz9_2, hfz9_3, hfz9_4⟩ := bk5 (HM.bx 0 rfl)
  go_wp2_with (first | ((with_reducible refine gate_callee (f := 48) rfl ?_); refine pC (some 12) rfl #[.agg #[.int .i64 a0_0, .int .i64 a0_1, .slice A0_2 l0_2.length c0_2, .slice A0_3 l0_3.length c0_3, .slice A0_4 l0_4.length c0_4]] rfl Try.func48 (spec_l10Copy.calls a0_0 a0_1 _ _ l0_2 _ _ l0_3 _ _ l0_4 t176 t177 t178 t181 t184 _ (HM.came HR0_2.out) HC0_2.out (HM.came HR0_3.out) HC0_3.out (HM.came HR0_4.out) HC0_4.out A10.out) ?_; rintro e w11 ⟨v179, v182, v185, rfl, hR⟩; refine ⟨_, rfl, ?_⟩; replace HM := HM.call hR; clear hR) | ((with_reducible refine gate_callee (f := 69) rfl ?_); refine pC (some 14) rfl #[.agg #[.int .i64 t176, .int .i64 t177, v179, v182, v185], .string a1, .bool false, .string (⟨#[]⟩ : ByteArray)] rfl Try.func69 (spec_l10Touch.calls k t176 t177 v179 t178 v182 t181 v185 t184 a1 false (⟨#[]⟩ : ByteArray) t187 t188 t189 t192 t195 t198 t199 _ _ _ (HM.focus [0, 1] [2, 3, 4]) A12.out) ?_; rintro e w13 ⟨v190, v193, v196, rfl, hR⟩; refine ⟨_, rfl, ?_⟩; replace HM := nzM hR.unfocus; clear hR; obtain ⟨Xo14, ko14, eo14⟩ := HM.rdR 2 rfl; subst eo14; obtain ⟨Xo15, ko15, eo15⟩ := HM.rdR 3 rfl; subst eo15; obtain ⟨Xo16, ko16, eo16⟩ := HM.rdR 4 rfl; subst eo16) | ((with_reducible refine gate_st (p := 4) rfl ?_); refine pS 1 4 0 [.int .i64 t187, .int .i64 t188, .slice Xo14 t189.length ko14, .slice Xo15 t192.length ko15, .slice Xo16 t195.length ko16] HM rfl rfl ?_; clear HM; intro w17 HM))
  refine bodyPost_ret (results_ctt rfl _ _ gb174 32 #[.int .i64 t187, .int .i64 t188, .slice Xo14 t189.length ko14, .slice Xo15 t192.length ko15, .slice Xo16 t195.length ko16] (0, 0) _ rfl (HM.bx 1 rfl) Try.underlying32 rfl (by kernel_rfl)) rfl ?_
  exact ⟨_, _, _, ER, (MD HM).pick [2, 3, 4]⟩
 ·subst c8
  simp only [Option.some.injEq, Prod.mk.injEq] at H
  obtain ⟨rfl, rfl, rfl, rfl, rfl, rfl, rfl⟩ := H
  go_wp2_with (first | ((with_reducible refine gate_st (p := 4) rfl ?_); refine pS 1 4 0 [.int .i64 0, .int .i64 0, .slice none 0 0, .slice none 0 0, .slice none 0 0] HM rfl rfl ?_; clear HM; intro w18 HM; replace HM := HM.nl k95 95; replace HM := HM.nl k95 95; replace HM := HM.nl (Kd.int .i64) 3))
  refine bodyPost_ret (results_ctt rfl _ _ gb174 32 #[.int .i64 0, .int .i64 0, .slice none 0 0, .slice none 0 0, .slice none 0 0] (0, 0) _ rfl (HM.bx 1 rfl) Try.underlying32 rfl (by kernel_rfl)) rfl ?_
  exact ⟨_, _, _, ER, (MD HM).pick [2, 3, 4]⟩
end Go.Proofs.Ytdeijmofaapgdaa.G

namespace Go.Proofs.Ytdeijmofaapgdaa.G
open Go.RowKit Go.Proofs.YtdeijmofaapgdaaW.PrintWords Go.Proofs.YtdeijmofaapgdaaW.PrintLast Go.Proofs.YtdeijmofaapgdaaW.PrintMore Go.Proofs.Ytdeijmofaapgdaa.Sh
attribute [local go_sem] max2_int min2_int max_two min_two max_three min_three max_four min_four
set_option linter.unusedVariables false
set_option linter.unusedSimpArgs false
def spec_Hash.l0 : Nat → ByteArray → Int → Int → Option (Int)
 | 0, _, _, _ => none
 | k + 1, x0, x3, x4 => if x4 < (x0.size : Int) then (if 0 ≤ x4 then (spec_Hash.l0 k x0 (Int.tmod (wrap64 ((Go.bits .xor .i64 x3 (wrap64 (bt x0 x4))) * 16777619)) 4294967296) (wrap64 (x4 + 1))) else (none)) else (some x3)
def spec_Hash.f (k : Nat) (a0 : ByteArray) : Option (Int) := spec_Hash.l0 k a0 2166136261 0
theorem spec_Hash.mono_l : ∀ k, (∀ y0 y1 y2, LeO (spec_Hash.l0 k y0 y1 y2) (spec_Hash.l0 (k + 1) y0 y1 y2))
 | 0 => fun _ _ _ r h => by simp [spec_Hash.l0] at h
 | k + 1 => by
  have ih0 := spec_Hash.mono_l k
  ·intro y0 y1 y2
   unfold spec_Hash.l0
   repeat' first | (with_reducible first | exact ih0 _ _ _ | exact LeO.refl _ | exact LeO.none _ | refine LeO.ite ?_ ?_ | refine LeO.bind ?_ (fun _ => ?_)) | exact ih0 _ _ _ | exact LeO.none _ | refine LeO.ite ?_ ?_ | refine LeO.bind ?_ (fun _ => ?_)
theorem spec_Hash.mono : ∀ a0 k, LeO (spec_Hash.f k a0) (spec_Hash.f (k + 1) a0) := by
 intro a0 k
 have ih0 := spec_Hash.mono_l k
 unfold spec_Hash.f
 repeat' first | (with_reducible first | exact ih0 _ _ _ | exact LeO.refl _ | exact LeO.none _ | refine LeO.ite ?_ ?_ | refine LeO.bind ?_ (fun _ => ?_)) | exact ih0 _ _ _ | exact LeO.none _ | refine LeO.ite ?_ ?_ | refine LeO.bind ?_ (fun _ => ?_)
set_option maxHeartbeats 8000000 in
set_option maxRecDepth 100000 in
theorem spec_Hash.calls (k : Nat) (a0 : ByteArray) (r : Int) (w : World) (h : spec_Hash.f k a0 = some r) :
  Calls Try.prog 71 #[.string a0] w fun e w' => e = .returned (.int .i64 r) ∧ Drawn0 w w' := by
 have H : (spec_Hash.l0 k a0 2166136261 0) = some r := h
 clear h
 have H' := Aside0.mk H
 clear H
 go_enter Try.func71, Try.ntmps71
 go_wp2
 go_loopg [3, 4] k (fun kq v3 v4 w' => ∃ (x3_1 : Int) (x4_1 : Int), v3 = .int .i64 x3_1 ∧ v4 = .int .i64 x4_1 ∧ Aside0 (spec_Hash.l0 kq a0 x3_1 x4_1 = some r) ∧ Aside0 (kq ≤ k) ∧ Drawn0 w w')
 case atStart => exact ⟨(2166136261), (0), RS, RS, H', ⟨Nat.le_refl _⟩, DR⟩
 case round =>
  clear H'
  obtain ⟨x3_1, x4_1, rfl, rfl, HA, HK1, ⟨m1, rfl⟩⟩ := hrel
  cases gk with
  | zero => exact absurd HA.out (by simp [spec_Hash.l0])
  | succ k1 =>
   have H := HA.out
   clear HA
   simp only [spec_Hash.l0] at H
   by_cases c2 : x4_1 < (a0.size : Int)
   ·rw [if_pos c2] at H
    have c2b0 : decide (x4_1 < (a0.size : Int)) = true := decide_eq_true c2
    clear c2
    by_cases c3 : 0 ≤ x4_1
    ·rw [if_pos c3] at H
     have c3b0 : decide (0 ≤ x4_1) = true := decide_eq_true c3
     clear c3
     have H' := Aside0.mk H
     clear H
     have p4 : 0 ≤ (x4_1 : Int) := of_decide_eq_true AS
     have q4 : x4_1 < (a0.size : Int) := of_decide_eq_true AS
     have hx4 := bt_at a0 x4_1
     replace p4 := eq_true p4
     replace q4 := eq_true q4
     go_wp2
     go_roundg k1
     case measure => have := HK1.out; omega
     case rel => exact ⟨(Int.tmod (wrap64 ((Go.bits .xor .i64 x3_1 (wrap64 (bt a0 x4_1))) * 16777619)) 4294967296), (wrap64 (x4_1 + 1)), RS, RS, H', ⟨by have := HK1.out; omega⟩, DR⟩
    ·rw [if_neg c3] at H
     exact absurd H (by simp)
   ·rw [if_neg c2] at H
    have c2b0 : decide (x4_1 < (a0.size : Int)) = false := decide_eq_false c2
    clear c2
    obtain rfl := Option.some.inj H
    go_wp2
    go_ret
    exact ⟨by first | rfl | (simp; done) | (simp [*]; done), DR⟩
end Go.Proofs.Ytdeijmofaapgdaa.G

namespace Go.Proofs.Ytdeijmofaapgdaa.G
open Go.RowKit Go.Proofs.YtdeijmofaapgdaaW.PrintWords Go.Proofs.YtdeijmofaapgdaaW.PrintLast Go.Proofs.YtdeijmofaapgdaaW.PrintMore Go.Proofs.Ytdeijmofaapgdaa.Sh
attribute [local go_sem] max2_int min2_int max_two min_two max_three min_three max_four min_four
set_option linter.unusedVariables false
set_option linter.unusedSimpArgs false
open Go.Proofs.Ytdeijmofaapgdaa.Mm
def spec_l08But.l0 : Nat → Int → List Int → List Int → Int → Int → Option (List Int)
 | 0, _, _, _, _, _ => none
 | k + 1, x1, x5, x9, x10, x11 => if x11 < x10 then (if 0 ≤ x11 then (if x11 < (x9.length : Int) then (if (rd x9 x11) = x1 then (spec_l08But.l0 k x1 x5 x9 x10 (wrap64 (x11 + 1))) else (if x5.length < 17592186044416 then (spec_l08But.l0 k x1 (x5 ++ [rd x9 x11]) x9 x10 (wrap64 (x11 + 1))) else (none))) else (none)) else (none)) else (some x5)
def spec_l08But.f (k : Nat) (l0 : List Int) (a1 : Int) : Option (List Int) := spec_l08But.l0 k a1 (([] : List Int)) l0 (l0.length : Int) 0
theorem spec_l08But.mono_l : ∀ k, (∀ y0 y1 y2 y3 y4, LeO (spec_l08But.l0 k y0 y1 y2 y3 y4) (spec_l08But.l0 (k + 1) y0 y1 y2 y3 y4))
 | 0 => fun _ _ _ _ _ r h => by simp [spec_l08But.l0] at h
 | k + 1 => by
  have ih0 := spec_l08But.mono_l k
  ·intro y0 y1 y2 y3 y4
   unfold spec_l08But.l0
   repeat' first | (with_reducible first | exact ih0 _ _ _ _ _ | exact LeO.refl _ | exact LeO.none _ | refine LeO.ite ?_ ?_ | refine LeO.bind ?_ (fun _ => ?_)) | exact ih0 _ _ _ _ _ | exact LeO.none _ | refine LeO.ite ?_ ?_ | refine LeO.bind ?_ (fun _ => ?_)
theorem spec_l08But.mono : ∀ a0 a1 k, LeO (spec_l08But.f k a0 a1) (spec_l08But.f (k + 1) a0 a1) := by
 intro a0 a1 k
 have ih0 := spec_l08But.mono_l k
 unfold spec_l08But.f
 repeat' first | (with_reducible first | exact ih0 _ _ _ _ _ | exact LeO.refl _ | exact LeO.none _ | refine LeO.ite ?_ ?_ | refine LeO.bind ?_ (fun _ => ?_)) | exact ih0 _ _ _ _ _ | exact LeO.none _ | refine LeO.ite ?_ ?_ | refine LeO.bind ?_ (fun _ => ?_)
set_option maxHeartbeats 8000000 in
set_option maxRecDepth 100000 in
theorem spec_l08But.calls (k : Nat) (A0 : Option Addr) (c0 : Nat) (l0 : List Int) (a1 : Int) (r : List Int) (w : World) (hr0 : Kd.C (Kd.int .i64) w A0 l0.length l0) (hc0 : l0.length ≤ c0) (h : spec_l08But.f k l0 a1 = some r) :
  Calls Try.prog 72 #[.slice A0 l0.length c0, .int .i64 a1] w fun e w' => ∃ v0_ : Value, e = .returned (v0_) ∧ Mem w [] w' [rowR (Kd.int .i64) 3 v0_ r] := by
 have HR0 := Aside0.mk hr0
 have HC0 := Aside0.mk hc0
 clear hr0 hc0
 have HM := Mem.nil w
 have H := h
 clear h
 unfold spec_l08But.f at H
 go_enter Try.func72, Try.ntmps72
 have H' := Aside0.mk H
 clear H
 go_wp2_with (first | ((with_reducible refine gate_dst (N := 8) rfl ?_); refine pL 8 (Kd.int .i64) 3 ([] : List Int) [] (Reps.none _ _) HM rfl ?_; clear HM; intro v204 w3 HM))
 go_loopg [5, 11] k (fun kq v5 v11 w' => ∃ (x5_1 : List Int) (x11_1 : Int), v11 = .int .i64 x11_1 ∧ Aside0 (spec_l08But.l0 kq a1 x5_1 l0 (l0.length : Int) x11_1 = some r) ∧ Aside0 (kq ≤ k) ∧ Mem w [] w' [rowR (Kd.int .i64) 3 v5 x5_1])
 case atStart => exact ⟨((([] : List Int))), (0), RS, H', ⟨Nat.le_refl _⟩, (MD HM).pick [0]⟩
 case round =>
  clear H' HM
  obtain ⟨x5_1, x11_1, rfl, HA, HK1, HM⟩ := hrel
  cases gk with
  | zero => exact absurd HA.out (by simp [spec_l08But.l0])
  | succ k1 =>
   have H := HA.out
   clear HA
   simp only [spec_l08But.l0] at H
   go_upto_if 12 with (fail)
   replace H := IT H; rcases H with ⟨c4, H⟩ | ⟨c4, H⟩
   ·have c4b0 : decide (x11_1 < (l0.length : Int)) = true := decide_eq_true c4
    clear c4
    (first | rw [c4b0] | (simp only [i64_w, i32_w]; rw [c4b0]) | skip)
    replace H := GD H; obtain ⟨c5, H⟩ := H
    have c5b0 : decide (0 ≤ x11_1) = true := decide_eq_true c5
    clear c5
    replace H := GD H; obtain ⟨c6, H⟩ := H
    have c6b0 : decide (x11_1 < (l0.length : Int)) = true := decide_eq_true c6
    clear c6
    have p206 : 0 ≤ (x11_1 : Int) := of_decide_eq_true AS
    have q206 : (x11_1 : Int) < (l0.length : Int) := of_decide_eq_true AS
    obtain ⟨ad206, e206, hx206_0⟩ := Kd.at_int (HM.came HR0.out) x11_1 p206 q206
    cases e206
    replace p206 := eq_true p206
    replace q206 := eq_true q206
    go_upto_if 17 with (fail)
    replace H := IT H; rcases H with ⟨c7, H⟩ | ⟨c7, H⟩
    ·have c7b0 : ((rd l0 x11_1) == a1) = true := beq_iff_eq.mpr c7
     have c7b1 : ((rd l0 x11_1) != a1) = false := bne_eq_false_iff_eq.mpr c7
     clear c7
     (first | rw [c7b0] | (simp only [i64_w, i32_w]; rw [c7b0]) | skip)
     have H' := Aside0.mk H
     clear H
     go_wp2
     go_roundg k1
     case measure => have := HK1.out; omega
     case rel => exact ⟨(x5_1), (wrap64 (x11_1 + 1)), RS, H', ⟨by have := HK1.out; omega⟩, (MD HM).pick [0]⟩
    ·have c7b0 : ((rd l0 x11_1) == a1) = false := beq_eq_false_iff_ne.mpr c7
     have c7b1 : ((rd l0 x11_1) != a1) = true := bne_iff_ne.mpr c7
     (first | rw [c7b0] | (simp only [i64_w, i32_w]; rw [c7b0]) | skip)
     replace H := GD H; obtain ⟨c8, H⟩ := H
     have LMc8 := Aside0.mk c8
     clear c8
     have H' := Aside0.mk H
     clear H
     go_wp2_with (first | ((with_reducible refine gate_dst (N := 20) rfl ?_); refine pL 20 (Kd.int .i64) 3 [rd l0 x11_1] [.int .i64 (rd l0 x11_1)] (Reps.one (show Kd.M (Kd.int .i64) _ _ _ (rd l0 x11_1) [.int .i64 (rd l0 x11_1)] from rfl) (Reps.none _ _)) HM rfl ?_; clear HM; intro v10 w9 HM; obtain ⟨Xv10, kv10, ev10⟩ := HM.rdR 1 rfl; subst ev10) | ((with_reducible refine gate_builtin (b := .append) (xs := #[.tmp 18, .tmp 20]) rfl ?_); refine pA 0 (.tmp 18) (.tmp 20) 23 3 (Kd.int .i64) u5 x5_1 [rd l0 x11_1] Xv10 ([rd l0 x11_1].length) kv10 HM rfl Try.underlying23 info3 rfl (HM.CR 1 rfl).2.2 (by have h_ := LMc8.out; simp only [List.length_singleton]; omega) ?_; clear HM; intro v208 w11 HM))
     go_roundg k1
     case measure => have := HK1.out; omega
     case rel => exact ⟨((x5_1 ++ [rd l0 x11_1])), (wrap64 (x11_1 + 1)), RS, H', ⟨by have := HK1.out; omega⟩, (MD HM).pick [0]⟩
   ·have c4b0 : decide (x11_1 < (l0.length : Int)) = false := decide_eq_false c4
    clear c4
    (first | rw [c4b0] | (simp only [i64_w, i32_w]; rw [c4b0]) | skip)
    obtain rfl := Option.some.inj H
    go_wp2
    go_ret
    exact ⟨_, ER, (MD HM).pick [0]⟩
def spec_l10Haunt.f (k : Nat) (a0_0 : Int) (a0_1 : Int) (l0_2 : List (S95)) (l0_3 : List (S95)) (l0_4 : List Int) (a1 : Int) : Option (Int × Int × (List (S95)) × (List (S95)) × List Int) := (spec_l08But.f k l0_4 a1).bind fun t212 => (if t212.length < 17592186044416 then ((some (t212 ++ [a1] : List Int)).bind fun y215 => ((spec_l10Ghosts.f a0_0 a0_1 l0_2 l0_3 y215).bind fun t218 => (if (y215.length : Int) > t218 then (if 1 ≤ (y215.length : Int) then (some (a0_0, a0_1, l0_2, l0_3, (y215.drop (1 : Int).toNat))) else (none)) else (some (a0_0, a0_1, l0_2, l0_3, y215))))) else (none))
theorem spec_l10Haunt.mono : ∀ a0 a1 a2 a3 a4 a5 k, LeO (spec_l10Haunt.f k a0 a1 a2 a3 a4 a5) (spec_l10Haunt.f (k + 1) a0 a1 a2 a3 a4 a5) := by
 intro a0 a1 a2 a3 a4 a5 k
 unfold spec_l10Haunt.f
 repeat' first | (with_reducible first | exact spec_l08But.mono _ _ _ | exact LeO.refl _ | exact LeO.none _ | refine LeO.ite ?_ ?_ | refine LeO.bind ?_ (fun _ => ?_)) | exact spec_l08But.mono _ _ _ | exact LeO.none _ | refine LeO.ite ?_ ?_ | refine LeO.bind ?_ (fun _ => ?_)
def spec_l10Haunt.T2 : Bool × List (List Nat × List Nat) := (true, [([], []), ([0], [0]), ([1], [1]), ([], []), ([3], [3]), ([2, 4], [2, 4])])
def spec_l10Haunt.B2 : List Nat := [0, 1, 3, 0, 8, 31]
theorem spec_l10Haunt.tab2 : rtab .any (opsOf Try.f103 2) = spec_l10Haunt.T2 := by kernel_rfl
theorem spec_l10Haunt.bits2 : waitsOk spec_l10Haunt.T2.2 spec_l10Haunt.B2 = true := by kernel_rfl
set_option maxHeartbeats 8000000 in
set_option maxRecDepth 100000 in
theorem spec_l10Haunt.calls (k : Nat) (a0_0 : Int) (a0_1 : Int) (u9000_ : Value) (l0_2 : List (S95)) (u9001_ : Value) (l0_3 : List (S95)) (A0_4 : Option Addr) (c0_4 : Nat) (l0_4 : List Int) (a1 : Int) (r1 : Int) (r2 : Int) (r3 : List (S95)) (r4 : List (S95)) (r5 : List Int) (w0 w : World) (F : List SP)  (hM : Mem w0 F w [rowR k95 95 u9000_ l0_2, rowR k95 95 u9001_ l0_3, row (Kd.int .i64) 3 (.slice A0_4 l0_4.length c0_4) l0_4]) (h : spec_l10Haunt.f k a0_0 a0_1 l0_2 l0_3 l0_4 a1 = some (r1, r2, r3, r4, r5)) :
  Calls Try.prog 103 #[.agg #[.int .i64 a0_0, .int .i64 a0_1, u9000_, u9001_, .slice A0_4 l0_4.length c0_4], .int .i64 a1] w fun e w' => ∃ v2_ v3_ v4_ : Value, e = .returned (.agg #[.int .i64 r1, .int .i64 r2, v2_, v3_, v4_]) ∧ Mem w0 F w' [rowR k95 95 v2_ r3, rowR k95 95 v3_ r4, row (Kd.int .i64) 3 v4_ r5, row (Kd.int .i64) 3 (.slice A0_4 l0_4.length c0_4) l0_4] := by
 have hu32 := Try.underlying32
 have HM := hM
 clear hM
 have H := h
 clear h
 unfold spec_l10Haunt.f at H
 go_enter Try.func103, Try.ntmps103
 replace H := BN H; obtain ⟨t212, A8, H⟩ := H
 replace H := GD H; obtain ⟨c10, H⟩ := H
 have LMc10 := Aside0.mk c10
 clear c10
 replace H := BLt H; obtain ⟨y215, Ny215, H⟩ := H
 replace Ny215 := Aside0.mk Ny215
 obtain ⟨Xo3, ko3, eo3⟩ := HM.rdR 0 rfl
 subst eo3
 obtain ⟨Xo4, ko4, eo4⟩ := HM.rdR 1 rfl
 subst eo4
 try go_wp2_with (first | ((with_reducible refine gate_dst (N := 2) rfl ?_); refine pB 2 32 [.int .i64 a0_0, .int .i64 a0_1, .slice Xo3 l0_2.length ko3, .slice Xo4 l0_3.length ko4, .slice A0_4 l0_4.length c0_4] HM rfl ?_; clear HM; intro gb210 w5 HM) | ((with_reducible refine gate_dst (N := 4) rfl ?_); refine pB 4 32 [.int .i64 0, .int .i64 0, .slice none 0 0, .slice none 0 0, .slice none 0 0] HM rfl ?_; clear HM; intro gb211 w6 HM; obtain ⟨hcz7_0, hcz7_1, hcz7_2, hcz7_3, hcz7_4, hfz7_0, hfz7_1, hfz7_2, hfz7_3, hfz7_4⟩ := bk5 (HM.bx 3 rfl)) | ((with_reducible refine gate_callee (f := 72) rfl ?_); refine pC (some 8) rfl #[.slice A0_4 l0_4.length c0_4, .int .i64 a1] rfl Try.func72 (spec_l08But.calls k _ _ l0_4 a1 t212 _ (HM.C 2 rfl).2.2 (HM.C 2 rfl).2.1 A8.out) ?_; rintro e w9 ⟨v213, rfl, hR⟩; refine ⟨_, rfl, ?_⟩; replace HM := HM.call hR; clear hR) | ((with_reducible refine gate_dst (N := 10) rfl ?_); refine pL 10 (Kd.int .i64) 3 [a1] [.int .i64 a1] (Reps.one (show Kd.M (Kd.int .i64) _ _ _ a1 [.int .i64 a1] from rfl) (Reps.none _ _)) HM rfl ?_; clear HM; intro v12 w11 HM; obtain ⟨Xv12, kv12, ev12⟩ := HM.rdR 6 rfl; subst ev12) | ((with_reducible refine gate_builtin (b := .append) (xs := #[.tmp 8, .tmp 10]) rfl ?_); refine pA 5 (.tmp 8) (.tmp 10) 23 3 (Kd.int .i64) v213 t212 [a1] Xv12 ([a1].length) kv12 HM rfl Try.underlying23 info3 rfl (HM.CR 6 rfl).2.2 (by have h_ := LMc10.out; simp only [List.length_singleton]; omega) ?_; clear HM; intro v216 w13 HM; replace HM := HM.nm 5 rfl Ny215.out; obtain ⟨Xo14, ko14, eo14⟩ := HM.rdR 5 rfl; subst eo14) | ((with_reducible refine gate_st (p := 12) rfl ?_); refine pS 3 12 4 [.slice Xo14 y215.length ko14] HM rfl rfl ?_; clear HM; intro w15 HM))
 replace H := BN H; obtain ⟨t218, A16, H⟩ := H
 refine RGN 6 [0, 1, 2, 3, 4, 5] (fun a0 b a w' => a = putSel a0 b [(0, 13, .pointer (some ⟨gb210, 4, none⟩)), (1, 14, .slice Xo14 y215.length ko14), (2, 15, .int .i64 (y215.length : Int)), (3, 16, .agg #[.int .i64 a0_0, .int .i64 a0_1, .slice Xo3 l0_2.length ko3, .slice Xo4 l0_3.length ko4, .slice Xo14 y215.length ko14]), (4, 17, .int .i64 t218), (5, 18, .bool (decide ((y215.length : Int) > t218)))] ∧ Mem w0 F w' [rowR k95 95 (.slice Xo3 l0_2.length ko3) l0_2, rowR k95 95 (.slice Xo4 l0_3.length ko4) l0_3, row (Kd.int .i64) 3 (.slice A0_4 l0_4.length c0_4) l0_4, box 32 gb210 [.int .i64 a0_0, .int .i64 a0_1, .slice Xo3 l0_2.length ko3, .slice Xo4 l0_3.length ko4, .slice Xo14 y215.length ko14], box 32 gb211 [.int .i64 0, .int .i64 0, .slice none 0 0, .slice none 0 0, .slice none 0 0], rowR (Kd.int .i64) 3 (.slice Xo14 y215.length ko14) y215, rowR (Kd.int .i64) 3 (.slice Xv12 [a1].length kv12) [a1]]) spec_l10Haunt.tab2 spec_l10Haunt.bits2 ?_ ?_ ?_
 ·exact ⟨PS0' rfl _, (HM.drew).pick [0, 1, 2, 3, 4, 5, 6]⟩
 ·clear HM
  refine steps_cons ?_ ?_
  ·rintro b a w ⟨ha, HM⟩ hb hon hoff
   refine ⟨_, rfl, fun K hK => ?_⟩
   have e2 := POF ha 2
   replace ha := Aside0.mk ha
   exact VL (.pointer (some ⟨gb210, 4, none⟩)) (hK.out _ _ ⟨PUT ha 0 hb, HM⟩)
  refine steps_cons ?_ ?_
  ·rintro b a w ⟨ha, HM⟩ hb hon hoff
   refine ⟨_, rfl, fun K hK => ?_⟩
   obtain ⟨hcz20_0, hcz20_1, hcz20_2, hcz20_3, hcz20_4, hfz20_0, hfz20_1, hfz20_2, hfz20_3, hfz20_4⟩ := bk5 (HM.bx 3 rfl)
   have e13 := PON ha 0 (hon 0 (by kernel_rfl))
   replace ha := Aside0.mk ha
   exact VL (.slice Xo14 y215.length ko14) (hK.out _ _ ⟨PUT ha 1 hb, HM⟩)
  refine steps_cons ?_ ?_
  ·rintro b a w ⟨ha, HM⟩ hb hon hoff
   refine ⟨_, rfl, fun K hK => ?_⟩
   have e14 := PON ha 1 (hon 1 (by kernel_rfl))
   replace ha := Aside0.mk ha
   exact VL (.int .i64 (y215.length : Int)) (hK.out _ _ ⟨PUT ha 2 hb, HM⟩)
  refine steps_cons ?_ ?_
  ·rintro b a w ⟨ha, HM⟩ hb hon hoff
   refine ⟨_, rfl, fun K hK => ?_⟩
   obtain ⟨hcz21_0, hcz21_1, hcz21_2, hcz21_3, hcz21_4, hfz21_0, hfz21_1, hfz21_2, hfz21_3, hfz21_4⟩ := bk5 (HM.bx 3 rfl)
   have e2 := POF ha 2
   replace ha := Aside0.mk ha
   exact VL (.agg #[.int .i64 a0_0, .int .i64 a0_1, .slice Xo3 l0_2.length ko3, .slice Xo4 l0_3.length ko4, .slice Xo14 y215.length ko14]) (hK.out _ _ ⟨PUT ha 3 hb, HM⟩)
  refine steps_cons ?_ ?_
  ·rintro b a w ⟨ha, HM⟩ hb hon hoff
   refine ⟨_, rfl, fun K hK => ?_⟩
   have e16 := PON ha 3 (hon 3 (by kernel_rfl))
   replace ha := Aside0.mk ha
   refine ST (eC (some 17) rfl #[.agg #[.int .i64 a0_0, .int .i64 a0_1, .slice Xo3 l0_2.length ko3, .slice Xo4 l0_3.length ko4, .slice Xo14 y215.length ko14]] rfl Try.func64 (spec_l10Ghosts.calls a0_0 a0_1 _ _ l0_2 _ _ l0_3 _ _ y215 t218 _ (HM.CR 0 rfl).2.2 (HM.CR 0 rfl).2.1 (HM.CR 1 rfl).2.2 (HM.CR 1 rfl).2.1 (HM.CR 5 rfl).2.2 (HM.CR 5 rfl).2.1 A16.out) ?_ (hargs := by (simp only [List.map_toArray, List.map_cons, List.map_nil, evc, eval_of e16]) <;> rfl))
   rintro e w22 ⟨rfl, hR⟩
   refine ⟨_, rfl, ?_⟩
   replace HM := HM.call hR
   clear hR
   exact hK.out _ _ ⟨PUT ha 4 hb, (HM).pick [0, 1, 2, 3, 4, 5, 6]⟩
  refine steps_cons ?_ ?_
  ·rintro b a w ⟨ha, HM⟩ hb hon hoff
   refine ⟨_, rfl, fun K hK => ?_⟩
   have e15 := PON ha 2 (hon 2 (by kernel_rfl))
   have e17 := PON ha 4 (hon 4 (by kernel_rfl))
   replace ha := Aside0.mk ha
   exact VL (.bool (decide ((y215.length : Int) > t218))) (hK.out _ _ ⟨PUT ha 5 hb, HM⟩)
  exact steps_nil
 rintro _ w23 ⟨rfl, HM⟩
 simp only [putSel, if_true, Act.put, List.setIfInBounds_toArray, List.set_cons_zero, List.set_cons_succ, gt_iff_lt, ge_iff_le]
 go_upto_if 18 with (fail)
 replace H := IT H; rcases H with ⟨c24, H⟩ | ⟨c24, H⟩
 ·have c24b0 : decide (t218 < (y215.length : Int)) = true := decide_eq_true c24
  clear c24
  (first | rw [c24b0] | (simp only [i64_w, i32_w]; rw [c24b0]) | skip)
  replace H := GD H; obtain ⟨c26, H⟩ := H
  have c26b0 := eq_true c26
  have c26b1 : decide (1 ≤ (y215.length : Int)) = true := decide_eq_true c26
  clear c26
  simp only [Option.some.injEq, Prod.mk.injEq] at H
  obtain ⟨rfl, rfl, rfl, rfl, rfl⟩ := H
  obtain ⟨hcz25_0, hcz25_1, hcz25_2, hcz25_3, hcz25_4, hfz25_0, hfz25_1, hfz25_2, hfz25_3, hfz25_4⟩ := bk5 (HM.bx 3 rfl)
  go_wp2_with (first | ((with_reducible refine gate_sl (t := 23) rfl ?_); refine pD 5 23 3 (Kd.int .i64) _ _ 1 y215 Xo14 ko14 HM rfl Try.underlying23 info3 rfl (fun _ _ h => Kd.Q_of_R h) (by omega) (by have h_ : (1 : Int) ≤ ((y215.length : Int) : Int) := of_decide_eq_true AS; first | exact h_ | (have e_ := (HM.CR 5 rfl).1; omega)) ?_; clear HM; intro v220 HM; obtain ⟨Xo27, ko27, eo27⟩ := HM.rd 5 rfl; subst eo27) | ((with_reducible refine gate_st (p := 22) rfl ?_); refine pS 3 22 4 [.slice Xo27 (y215.drop (1 : Int).toNat).length ko27] HM rfl rfl ?_; clear HM; intro w28 HM; obtain ⟨hcz29_0, hcz29_1, hcz29_2, hcz29_3, hcz29_4, hfz29_0, hfz29_1, hfz29_2, hfz29_3, hfz29_4⟩ := bk5 (HM.bx 3 rfl)) | ((with_reducible refine gate_st (p := 4) rfl ?_); refine pS 4 4 0 [.int .i64 a0_0, .int .i64 a0_1, .slice Xo3 l0_2.length ko3, .slice Xo4 l0_3.length ko4, .slice Xo27 (y215.drop (1 : Int).toNat).length ko27] HM rfl rfl ?_; clear HM; intro w30 HM))
  refine bodyPost_ret (results_cell_row rfl _ _ gb211 32 #[.int .i64 a0_0, .int .i64 a0_1, .slice Xo3 l0_2.length ko3, .slice Xo4 l0_3.length ko4, .slice Xo27 (y215.drop (1 : Int).toNat).length ko27] (0, 0) _ rfl (HM.bx 4 rfl) Try.underlying32 rfl (by kernel_rfl)) rfl ?_
  exact ⟨_, _, _, ER, (MD HM).pick [0, 1, 5, 2]⟩
 ·have c24b0 : decide (t218 < (y215.length : Int)) = false := decide_eq_false c24
  clear c24
  (first | rw [c24b0] | (simp only [i64_w, i32_w]; rw [c24b0]) | skip)
  simp only [Option.some.injEq, Prod.mk.injEq] at H
  obtain ⟨rfl, rfl, rfl, rfl, rfl⟩ := H
  obtain ⟨hcz31_0, hcz31_1, hcz31_2, hcz31_3, hcz31_4, hfz31_0, hfz31_1, hfz31_2, hfz31_3, hfz31_4⟩ := bk5 (HM.bx 3 rfl)
  go_wp2_with (first | ((with_reducible refine gate_st (p := 4) rfl ?_); refine pS 4 4 0 [.int .i64 a0_0, .int .i64 a0_1, .slice Xo3 l0_2.length ko3, .slice Xo4 l0_3.length ko4, .slice Xo14 y215.length ko14] HM rfl rfl ?_; clear HM; intro w32 HM; replace HM := HM.toQ 5 rfl))
  refine bodyPost_ret (results_cell_row rfl _ _ gb211 32 #[.int .i64 a0_0, .int .i64 a0_1, .slice Xo3 l0_2.length ko3, .slice Xo4 l0_3.length ko4, .slice Xo14 y215.length ko14] (0, 0) _ rfl (HM.bx 4 rfl) Try.underlying32 rfl (by kernel_rfl)) rfl ?_
  exact ⟨_, _, _, ER, (MD HM).pick [0, 1, 5, 2]⟩
def spec_EvictSmall.l0 : Nat → Int → Int → List (S95) → List (S95) → List Int → Option (Int × Int × (List (S95)) × (List (S95)) × List Int × ByteArray × Bool)
 | 0, _, _, _, _, _ => none
 | k + 1, x237000, x237001, x237002, x237003, x237004 => if (x237002.length : Int) > 0 then (if 0 < (x237002.length : Int) then ((some (([] : List (S95)) : List (S95))).bind fun y239 => (if 1 ≤ (x237002.length : Int) then ((some (x237002.drop 1 : List (S95))).bind fun y242 => (if y239.length + y242.length < 3518437208883 then ((some (y239 ++ y242 : List (S95))).bind fun y246 => (if ((rd_T95 x237002 0).f2) ≤ 1 then ((spec_Hash.f k ((rd_T95 x237002 0).f0)).bind fun t249 => ((spec_l10Haunt.f k x237000 x237001 y246 x237003 x237004 t249).bind fun bt250 => (some (bt250.1, bt250.2.1, bt250.2.2.1, bt250.2.2.2.1, bt250.2.2.2.2, (rd_T95 x237002 0).f0, true)))) else (if x237003.length < 3518437208883 then (spec_EvictSmall.l0 k x237000 x237001 y246 (x237003 ++ [(⟨(rd_T95 x237002 0).f0, (rd_T95 x237002 0).f1, 0⟩ : S95)]) x237004) else (none)))) else (none))) else (none))) else (none)) else (some (x237000, x237001, x237002, x237003, x237004, (⟨#[]⟩ : ByteArray), false))
def spec_EvictSmall.f (k : Nat) (a0_0 : Int) (a0_1 : Int) (l0_2 : List (S95)) (l0_3 : List (S95)) (l0_4 : List Int) : Option (Int × Int × (List (S95)) × (List (S95)) × List Int × ByteArray × Bool) := (spec_ThreeOk.f k a0_0 a0_1 l0_2 l0_3 l0_4).bind fun t224 => (if t224 = true then ((spec_l10Copy.f a0_0 a0_1 l0_2 l0_3 l0_4).bind fun bt225 => (spec_EvictSmall.l0 k bt225.1 bt225.2.1 bt225.2.2.1 bt225.2.2.2.1 bt225.2.2.2.2)) else (some (0, 0, ([] : List (S95)), ([] : List (S95)), ([] : List Int), (⟨#[]⟩ : ByteArray), false)))
theorem spec_EvictSmall.mono_l : ∀ k, (∀ y0 y1 y2 y3 y4, LeO (spec_EvictSmall.l0 k y0 y1 y2 y3 y4) (spec_EvictSmall.l0 (k + 1) y0 y1 y2 y3 y4))
 | 0 => fun _ _ _ _ _ r h => by simp [spec_EvictSmall.l0] at h
 | k + 1 => by
  have ih0 := spec_EvictSmall.mono_l k
  ·intro y0 y1 y2 y3 y4
   unfold spec_EvictSmall.l0
   repeat' first | (with_reducible first | exact ih0 _ _ _ _ _ | exact spec_Hash.mono _ _ | exact spec_ThreeOk.mono _ _ _ _ _ _ | exact spec_l10Haunt.mono _ _ _ _ _ _ _ | exact LeO.refl _ | exact LeO.none _ | refine LeO.ite ?_ ?_ | refine LeO.bind ?_ (fun _ => ?_)) | exact ih0 _ _ _ _ _ | exact spec_Hash.mono _ _ | exact spec_ThreeOk.mono _ _ _ _ _ _ | exact spec_l10Haunt.mono _ _ _ _ _ _ _ | exact LeO.none _ | refine LeO.ite ?_ ?_ | refine LeO.bind ?_ (fun _ => ?_)
theorem spec_EvictSmall.mono : ∀ a0 a1 a2 a3 a4 k, LeO (spec_EvictSmall.f k a0 a1 a2 a3 a4) (spec_EvictSmall.f (k + 1) a0 a1 a2 a3 a4) := by
 intro a0 a1 a2 a3 a4 k
 have ih0 := spec_EvictSmall.mono_l k
 unfold spec_EvictSmall.f
 repeat' first | (with_reducible first | exact ih0 _ _ _ _ _ | exact spec_Hash.mono _ _ | exact spec_ThreeOk.mono _ _ _ _ _ _ | exact spec_l10Haunt.mono _ _ _ _ _ _ _ | exact LeO.refl _ | exact LeO.none _ | refine LeO.ite ?_ ?_ | refine LeO.bind ?_ (fun _ => ?_)) | exact ih0 _ _ _ _ _ | exact spec_Hash.mono _ _ | exact spec_ThreeOk.mono _ _ _ _ _ _ | exact spec_l10Haunt.mono _ _ _ _ _ _ _ | exact LeO.none _ | refine LeO.ite ?_ ?_ | refine LeO.bind ?_ (fun _ => ?_)
def spec_EvictSmall.T8 : Bool × List (List Nat × List Nat) := (true, [([], []), ([], []), ([1], [1]), ([2], [2]), ([0, 3, 3], [0, 3]), ([], []), ([5], [5]), ([4, 4, 0, 1, 2, 3, 4], [4]), ([6, 7, 0, 1, 2, 3, 4, 5, 6, 7], [6]), ([8, 0, 1, 2, 3, 4, 5, 6, 7, 8], [])])
def spec_EvictSmall.B8 : List Nat := [0, 0, 2, 6, 15, 0, 32, 31, 255, 511]
theorem spec_EvictSmall.tab8 : rtab .any (opsOf Try.f92 8) = spec_EvictSmall.T8 := by kernel_rfl
theorem spec_EvictSmall.bits8 : waitsOk spec_EvictSmall.T8.2 spec_EvictSmall.B8 = true := by kernel_rfl
set_option maxHeartbeats 8000000 in
set_option maxRecDepth 100000 in
theorem spec_EvictSmall.calls (k : Nat) (a0_0 : Int) (a0_1 : Int) (A0_2 : Option Addr) (c0_2 : Nat) (l0_2 : List (S95)) (A0_3 : Option Addr) (c0_3 : Nat) (l0_3 : List (S95)) (A0_4 : Option Addr) (c0_4 : Nat) (l0_4 : List Int) (r1 : Int) (r2 : Int) (r3 : List (S95)) (r4 : List (S95)) (r5 : List Int) (r6 : ByteArray) (r7 : Bool) (w : World) (hr0_2 : Kd.C k95 w A0_2 l0_2.length l0_2) (hc0_2 : l0_2.length ≤ c0_2) (hr0_3 : Kd.C k95 w A0_3 l0_3.length l0_3) (hc0_3 : l0_3.length ≤ c0_3) (hr0_4 : Kd.C (Kd.int .i64) w A0_4 l0_4.length l0_4) (hc0_4 : l0_4.length ≤ c0_4) (h : spec_EvictSmall.f k a0_0 a0_1 l0_2 l0_3 l0_4 = some (r1, r2, r3, r4, r5, r6, r7)) :
  Calls Try.prog 92 #[.agg #[.int .i64 a0_0, .int .i64 a0_1, .slice A0_2 l0_2.length c0_2, .slice A0_3 l0_3.length c0_3, .slice A0_4 l0_4.length c0_4]] w fun e w' => ∃ v2_ v3_ v4_ : Value, e = .returned (.tuple #[.agg #[.int .i64 r1, .int .i64 r2, v2_, v3_, v4_], .string r6, .bool r7]) ∧ Mem w [] w' [rowR k95 95 v2_ r3, rowR k95 95 v3_ r4, row (Kd.int .i64) 3 v4_ r5] := by
 have hu32 := Try.underlying32
 have hu95 := Try.underlying95
 have HR0_2 := Aside0.mk hr0_2
 have HC0_2 := Aside0.mk hc0_2
 clear hr0_2 hc0_2
 have HR0_3 := Aside0.mk hr0_3
 have HC0_3 := Aside0.mk hc0_3
 clear hr0_3 hc0_3
 have HR0_4 := Aside0.mk hr0_4
 have HC0_4 := Aside0.mk hc0_4
 clear hr0_4 hc0_4
 have HM := Mem.nil w
 have H := h
 clear h
 unfold spec_EvictSmall.f at H
 go_enter Try.func92, Try.ntmps92
 replace H := BN H; obtain ⟨t224, A5, H⟩ := H
 go_upto_if 9 with (first | ((with_reducible refine gate_dst (N := 1) rfl ?_); refine pB 1 32 [.int .i64 a0_0, .int .i64 a0_1, .slice A0_2 l0_2.length c0_2, .slice A0_3 l0_3.length c0_3, .slice A0_4 l0_4.length c0_4] HM rfl ?_; clear HM; intro gb222 w2 HM) | ((with_reducible refine gate_dst (N := 2) rfl ?_); refine pB 2 32 [.int .i64 0, .int .i64 0, .slice none 0 0, .slice none 0 0, .slice none 0 0] HM rfl ?_; clear HM; intro gb223 w3 HM; obtain ⟨hcz4_0, hcz4_1, hcz4_2, hcz4_3, hcz4_4, hfz4_0, hfz4_1, hfz4_2, hfz4_3, hfz4_4⟩ := bk5 (HM.bx 0 rfl)) | ((with_reducible refine gate_callee (f := 32) rfl ?_); refine pC (some 8) rfl #[.agg #[.int .i64 a0_0, .int .i64 a0_1, .slice A0_2 l0_2.length c0_2, .slice A0_3 l0_3.length c0_3, .slice A0_4 l0_4.length c0_4]] rfl Try.func32 (spec_ThreeOk.calls k a0_0 a0_1 _ _ l0_2 _ _ l0_3 _ _ l0_4 t224 _ (HM.came HR0_2.out) HC0_2.out (HM.came HR0_3.out) HC0_3.out (HM.came HR0_4.out) HC0_4.out A5.out) ?_; rintro e w6 ⟨rfl, hR⟩; refine ⟨_, rfl, ?_⟩; replace HM := HM.call hR; clear hR))
 replace HM := nzM HM
 replace H := IB H
 rcases H with ⟨c7, H⟩ | ⟨c7, H⟩
 ·subst c7
  replace H := BN H; obtain ⟨⟨t225, t226, t227, t230, t233⟩, A9, H⟩ := H
  have H' := Aside0.mk H
  clear H
  obtain ⟨hcz8_0, hcz8_1, hcz8_2, hcz8_3, hcz8_4, hfz8_0, hfz8_1, hfz8_2, hfz8_3, hfz8_4⟩ := bk5 (HM.bx 0 rfl)
  go_wp2_with (first | ((with_reducible refine gate_callee (f := 48) rfl ?_); refine pC (some 12) rfl #[.agg #[.int .i64 a0_0, .int .i64 a0_1, .slice A0_2 l0_2.length c0_2, .slice A0_3 l0_3.length c0_3, .slice A0_4 l0_4.length c0_4]] rfl Try.func48 (spec_l10Copy.calls a0_0 a0_1 _ _ l0_2 _ _ l0_3 _ _ l0_4 t225 t226 t227 t230 t233 _ (HM.came HR0_2.out) HC0_2.out (HM.came HR0_3.out) HC0_3.out (HM.came HR0_4.out) HC0_4.out A9.out) ?_; rintro e w10 ⟨v228, v231, v234, rfl, hR⟩; refine ⟨_, rfl, ?_⟩; replace HM := HM.call hR; clear hR) | ((with_reducible refine gate_dst (N := 5) rfl ?_); refine pB 5 32 [.int .i64 0, .int .i64 0, .slice none 0 0, .slice none 0 0, .slice none 0 0] HM rfl ?_; clear HM; intro gb236 w11 HM; obtain ⟨Xo12, ko12, eo12⟩ := HM.rdR 2 rfl; subst eo12; obtain ⟨Xo13, ko13, eo13⟩ := HM.rdR 3 rfl; subst eo13; obtain ⟨Xo14, ko14, eo14⟩ := HM.rdR 4 rfl; subst eo14) | ((with_reducible refine gate_st (p := 5) rfl ?_); refine pS 5 5 0 [.int .i64 t225, .int .i64 t226, .slice Xo12 t227.length ko12, .slice Xo13 t230.length ko13, .slice Xo14 t233.length ko14] HM rfl rfl ?_; clear HM; intro w15 HM; replace HM := HM.toQ 4 rfl))
  go_loopg [] k (fun kq w' => ∃ (x224000_1 : Int) (x224001_1 : Int) (x237002_1 : List (S95)) (x237003_1 : List (S95)) (u237002 : Value) (u237003 : Value), Aside0 (spec_EvictSmall.l0 kq t225 t226 x237002_1 x237003_1 t233 = some (r1, r2, r3, r4, r5, r6, r7)) ∧ Aside0 (kq ≤ k) ∧ Mem w [] w' [rowR k95 95 u237002 x237002_1, rowR k95 95 u237003 x237003_1, row (Kd.int .i64) 3 (.slice Xo14 t233.length ko14) t233, box 32 gb222 [.int .i64 a0_0, .int .i64 a0_1, .slice A0_2 l0_2.length c0_2, .slice A0_3 l0_3.length c0_3, .slice A0_4 l0_4.length c0_4], box 32 gb223 [.int .i64 x224000_1, .int .i64 x224001_1, .slice none 0 0, .slice none 0 0, .slice none 0 0], box 32 gb236 [.int .i64 t225, .int .i64 t226, u237002, u237003, (.slice Xo14 t233.length ko14)]])
  case atStart => exact ⟨(0), (0), (t227), (t230), (.slice Xo12 t227.length ko12), (.slice Xo13 t230.length ko13), H', ⟨Nat.le_refl _⟩, (MD HM).pick [2, 3, 4, 0, 1, 5]⟩
  case round =>
   clear H' HM
   obtain ⟨x224000_1, x224001_1, x237002_1, x237003_1, u237002, u237003, HA, HK1, HM⟩ := hrel
   cases gk with
   | zero => exact absurd HA.out (by simp [spec_EvictSmall.l0])
   | succ k1 =>
    have H := HA.out
    clear HA
    simp only [spec_EvictSmall.l0] at H
    obtain ⟨hcz16_0, hcz16_1, hcz16_2, hcz16_3, hcz16_4, hfz16_0, hfz16_1, hfz16_2, hfz16_3, hfz16_4⟩ := bk5 (HM.bx 5 rfl)
    obtain ⟨Xo17, ko17, eo17⟩ := HM.rdR 0 rfl
    subst eo17
    go_upto_if 16 with (fail)
    replace H := IT H; rcases H with ⟨c18, H⟩ | ⟨c18, H⟩
    ·replace c18 : (x237002_1.length : Int) > 0 := c18
     have c18b0 : decide (0 < (x237002_1.length : Int)) = true := decide_eq_true c18
     have c18b1 : decide (0 < x237002_1.length) = true := decide_eq_true (by omega)
     have c18b9 : decide (0 < x237002_1.length) = true := decide_eq_true (by omega)
     clear c18
     (first | rw [c18b0] | rw [c18b9] | (simp only [i64_w, i32_w]; rw [c18b0]) | skip)
     replace H := GD H; obtain ⟨c19, H⟩ := H
     replace c19 : 0 < (x237002_1.length : Int) := c19
     have c19b0 : decide (0 < (x237002_1.length : Int)) = true := decide_eq_true c19
     have c19b1 : decide (0 < x237002_1.length) = true := decide_eq_true (by omega)
     have c19b9 : decide (0 < x237002_1.length) = true := decide_eq_true (by omega)
     clear c19
     replace H := BLt H; obtain ⟨y239, Ny239, H⟩ := H
     replace Ny239 := Aside0.mk Ny239
     replace H := GD H; obtain ⟨c24, H⟩ := H
     have c24b0 := eq_true c24
     have c24b1 : decide (1 ≤ (x237002_1.length : Int)) = true := decide_eq_true c24
     clear c24
     replace H := BLt H; obtain ⟨_, rfl, H⟩ := H
     replace H := GD H; obtain ⟨c26, H⟩ := H
     have LMc26 := Aside0.mk c26
     clear c26
     replace H := BLt H; obtain ⟨y246, Ny246, H⟩ := H
     replace Ny246 := Aside0.mk Ny246
     have p237 : 0 ≤ (0 : Int) := (by omega)
     have q237 : (0 : Int) < (x237002_1.length : Int) := of_decide_eq_true AS
     obtain ⟨ad237, e237, hx237_0, hx237_1, hx237_2⟩ := at_T95 (HM.CR 0 rfl).2.2 0 p237 q237
     cases e237
     have qi237 : (0 < x237002_1.length) = True := eq_true (by omega)
     (try rw [show ((0 : Int)).toNat = 0 from rfl] at hx237_0)
     (try rw [show 0 * 3 = 0 from rfl] at hx237_0)
     (try rw [Addr.add_zero'] at hx237_0)
     (try rw [show ((0 : Int)).toNat = 0 from rfl] at hx237_1)
     (try rw [show 0 * 3 = 0 from rfl] at hx237_1)
     (try rw [Addr.add_zero'] at hx237_1)
     (try rw [show ((0 : Int)).toNat = 0 from rfl] at hx237_2)
     (try rw [show 0 * 3 = 0 from rfl] at hx237_2)
     (try rw [Addr.add_zero'] at hx237_2)
     replace p237 := eq_true p237
     replace q237 := eq_true q237
     go_upto_if 29 with (first | ((with_reducible refine gate_dst (N := 6) rfl ?_); refine pB 6 95 [.string (⟨#[]⟩ : ByteArray), .string (⟨#[]⟩ : ByteArray), .int .i64 0] HM rfl ?_; clear HM; intro gb238 w20 HM) | ((with_reducible refine gate_st (p := 6) rfl ?_); refine pS 6 6 0 [.string ((rd_T95 x237002_1 0).f0), .string ((rd_T95 x237002_1 0).f1), .int .i64 ((rd_T95 x237002_1 0).f2)] HM rfl rfl ?_; clear HM; intro w21 HM) | ((with_reducible refine gate_dst (N := 21) rfl ?_); refine pL 21 k95 95 ([] : List (S95)) [] (Reps.none _ _) HM rfl ?_; clear HM; intro v240 w22 HM; replace HM := HM.nm 7 rfl Ny239.out; obtain ⟨hcz23_0, hcz23_1, hcz23_2, hcz23_3, hcz23_4, hfz23_0, hfz23_1, hfz23_2, hfz23_3, hfz23_4⟩ := bk5 (HM.bx 5 rfl)) | ((with_reducible refine gate_sl (t := 30) rfl ?_); refine pRd 30 95 k95 _ _ 1 x237002_1 (some ad237) ko17 rfl Try.underlying30 info95 (HM.CR 0 rfl).2.2 (HM.CR 0 rfl).2.1 (by omega) (of_decide_eq_true AS) ?_; intro Yx25 bx25 hYx25 hbx25; have HYx25 := Aside0.mk hYx25; have HBx25 := Aside0.mk hbx25; clear hYx25 hbx25) | ((with_reducible refine gate_builtin (b := .append) (xs := #[.tmp 21, .tmp 24]) rfl ?_); refine pA 7 (.tmp 21) (.tmp 24) 30 95 k95 v240 y239 (x237002_1.drop 1) Yx25 ((x237002_1.drop 1).length) bx25 HM rfl Try.underlying30 info95 rfl HYx25.out (by have h_ := LMc26.out; omega) ?_; clear HM; intro v247 w27 HM; replace HM := HM.nm 7 rfl Ny246.out; obtain ⟨Xo28, ko28, eo28⟩ := HM.rdR 7 rfl; subst eo28) | ((with_reducible refine gate_st (p := 26) rfl ?_); refine pS 5 26 2 [.slice Xo28 y246.length ko28] HM rfl rfl ?_; clear HM; intro w29 HM; obtain ⟨hcz30_0, hcz30_1, hcz30_2, hfz30_0, hfz30_1, hfz30_2⟩ := bk3 (HM.bx 6 rfl)))
     replace HM := nzM HM
     replace H := IT H; rcases H with ⟨c31, H⟩ | ⟨c31, H⟩
     ·have c31b0 : decide (((rd_T95 x237002_1 0).f2) ≤ 1) = true := decide_eq_true c31
      clear c31
      (first | rw [c31b0] | (simp only [i64_w, i32_w]; rw [c31b0]) | skip)
      try go_wp2
      replace H := BN H; obtain ⟨t249, A32, H⟩ := H
      replace H := BN H; obtain ⟨⟨t250, t251, t252, t255, t258⟩, A33, H⟩ := H
      obtain ⟨Xo43, ko43, eo43⟩ := HM.rdR 1 rfl
      subst eo43
      refine RGN 10 [0, 1, 2, 3, 4, 5, 6, 7, 8, 9] (fun a0 b a w' => ∃ (v253 : Value) (v256 : Value) (v259 : Value), a = putSel a0 b [(0, 30, .agg #[.int .i64 t225, .int .i64 t226, .slice Xo28 y246.length ko28, .slice Xo43 x237003_1.length ko43, .slice Xo14 t233.length ko14]), (1, 31, .pointer (some ⟨gb238, 0, none⟩)), (2, 32, .string ((rd_T95 x237002_1 0).f0)), (3, 33, .int .i64 t249), (4, 34, .agg #[.int .i64 t250, .int .i64 t251, v253, v256, v259]), (5, 35, .pointer (some ⟨gb238, 0, none⟩)), (6, 36, .string ((rd_T95 x237002_1 0).f0)), (8, 3, .string ((rd_T95 x237002_1 0).f0)), (9, 4, .bool true)] ∧ Mem w [] w' [rowR k95 95 (.slice (some ad237) x237002_1.length ko17) x237002_1, sel (b 4) (emp) (rowR k95 95 (.slice Xo43 x237003_1.length ko43) x237003_1), row (Kd.int .i64) 3 (.slice Xo14 t233.length ko14) t233, box 32 gb222 [.int .i64 a0_0, .int .i64 a0_1, .slice A0_2 l0_2.length c0_2, .slice A0_3 l0_3.length c0_3, .slice A0_4 l0_4.length c0_4], sel (b 7) (box 32 gb223 [.int .i64 t250, .int .i64 t251, v253, v256, v259]) (box 32 gb223 [.int .i64 x224000_1, .int .i64 x224001_1, .slice none 0 0, .slice none 0 0, .slice none 0 0]), box 32 gb236 [.int .i64 t225, .int .i64 t226, .slice Xo28 y246.length ko28, .slice Xo43 x237003_1.length ko43, .slice Xo14 t233.length ko14], box 95 gb238 [.string ((rd_T95 x237002_1 0).f0), .string ((rd_T95 x237002_1 0).f1), .int .i64 ((rd_T95 x237002_1 0).f2)], sel (b 4) (emp) (rowR k95 95 (.slice Xo28 y246.length ko28) y246), sel (b 4) (rowR k95 95 v253 t252) (emp), sel (b 4) (rowR k95 95 v256 t255) (emp), sel (b 4) (row (Kd.int .i64) 3 v259 t258) (emp)]) spec_EvictSmall.tab8 spec_EvictSmall.bits8 ?_ ?_ ?_
      ·exact ⟨.bool false, .bool false, .bool false, PS0' rfl _, (HM.drew.ems 3).pick [0, 1, 2, 3, 4, 5, 6, 7, 8, 9, 10]⟩
      ·clear HM
       refine steps_cons ?_ ?_
       ·rintro b a w ⟨v253, v256, v259, ha, HM⟩ hb hon hoff
        refine ⟨_, rfl, fun K hK => ?_⟩
        obtain ⟨hcz44_0, hcz44_1, hcz44_2, hcz44_3, hcz44_4, hfz44_0, hfz44_1, hfz44_2, hfz44_3, hfz44_4⟩ := bk5 (HM.bx 5 rfl)
        have e5 := POF ha 5
        replace ha := Aside0.mk ha
        exact VL (.agg #[.int .i64 t225, .int .i64 t226, .slice Xo28 y246.length ko28, .slice Xo43 x237003_1.length ko43, .slice Xo14 t233.length ko14]) (hK.out _ _ ⟨v253, v256, v259, PUT ha 0 hb, HM⟩)
       refine steps_cons ?_ ?_
       ·rintro b a w ⟨v253, v256, v259, ha, HM⟩ hb hon hoff
        refine ⟨_, rfl, fun K hK => ?_⟩
        have e6 := POF ha 6
        replace ha := Aside0.mk ha
        exact VL (.pointer (some ⟨gb238, 0, none⟩)) (hK.out _ _ ⟨v253, v256, v259, PUT ha 1 hb, HM⟩)
       refine steps_cons ?_ ?_
       ·rintro b a w ⟨v253, v256, v259, ha, HM⟩ hb hon hoff
        refine ⟨_, rfl, fun K hK => ?_⟩
        obtain ⟨hcz45_0, hcz45_1, hcz45_2, hfz45_0, hfz45_1, hfz45_2⟩ := bk3 (HM.bx 6 rfl)
        have e31 := PON ha 1 (hon 1 (by kernel_rfl))
        replace ha := Aside0.mk ha
        exact VL (.string ((rd_T95 x237002_1 0).f0)) (hK.out _ _ ⟨v253, v256, v259, PUT ha 2 hb, HM⟩)
       refine steps_cons ?_ ?_
       ·rintro b a w ⟨v253, v256, v259, ha, HM⟩ hb hon hoff
        refine ⟨_, rfl, fun K hK => ?_⟩
        have e32 := PON ha 2 (hon 2 (by kernel_rfl))
        replace ha := Aside0.mk ha
        refine ST (eC (some 33) rfl #[.string ((rd_T95 x237002_1 0).f0)] rfl Try.func71 (spec_Hash.calls k1 ((rd_T95 x237002_1 0).f0) t249 _ A32.out) ?_ (hargs := by (simp only [List.map_toArray, List.map_cons, List.map_nil, evc, eval_of e32]) <;> rfl))
        rintro e w46 ⟨rfl, hd⟩
        refine ⟨_, rfl, ?_⟩
        replace HM := HM.drawn hd
        clear hd
        exact hK.out _ _ ⟨v253, v256, v259, PUT ha 3 hb, (HM).pick [0, 1, 2, 3, 4, 5, 6, 7, 8, 9, 10]⟩
       refine steps_cons ?_ ?_
       ·rintro b a w ⟨v253, v256, v259, ha, HM⟩ hb hon hoff
        refine ⟨_, rfl, fun K hK => ?_⟩
        replace HM := HM.sF 1 rfl hb
        replace HM := HM.sF 7 rfl hb
        have e30 := PON ha 0 (hon 0 (by kernel_rfl))
        have e33 := PON ha 3 (hon 3 (by kernel_rfl))
        replace ha := Aside0.mk ha
        refine ST (eC (some 34) rfl #[.agg #[.int .i64 t225, .int .i64 t226, .slice Xo28 y246.length ko28, .slice Xo43 x237003_1.length ko43, .slice Xo14 t233.length ko14], .int .i64 t249] rfl Try.func103 (spec_l10Haunt.calls k1 t225 t226 (.slice Xo28 y246.length ko28) y246 (.slice Xo43 x237003_1.length ko43) x237003_1 Xo14 ko14 t233 t249 t250 t251 t252 t255 t258 _ _ _ (HM.focus [0, 3, 4, 5, 6, 8, 9, 10] [7, 1, 2]) A33.out) ?_ (hargs := by (simp only [List.map_toArray, List.map_cons, List.map_nil, evc, eval_of e30, eval_of e33]) <;> rfl))
        rintro e w47 ⟨v253, v256, v259, rfl, hR⟩
        refine ⟨_, rfl, ?_⟩
        replace HM := nzM hR.unfocus
        clear hR
        exact hK.out _ _ ⟨v253, v256, v259, PUT ha 4 hb, ((HM.em.em.sF 2 rfl (hoff 7 (by kernel_rfl))).iF 2 rfl (hoff 7 (by kernel_rfl))).pick [0, 12, 11, 1, 2, 3, 4, 13, 8, 9, 10]⟩
       refine steps_cons ?_ ?_
       ·rintro b a w ⟨v253, v256, v259, ha, HM⟩ hb hon hoff
        refine ⟨_, rfl, fun K hK => ?_⟩
        have e6 := POF ha 6
        replace ha := Aside0.mk ha
        exact VL (.pointer (some ⟨gb238, 0, none⟩)) (hK.out _ _ ⟨v253, v256, v259, PUT ha 5 hb, HM⟩)
       refine steps_cons ?_ ?_
       ·rintro b a w ⟨v253, v256, v259, ha, HM⟩ hb hon hoff
        refine ⟨_, rfl, fun K hK => ?_⟩
        obtain ⟨hcz48_0, hcz48_1, hcz48_2, hfz48_0, hfz48_1, hfz48_2⟩ := bk3 (HM.bx 6 rfl)
        have e35 := PON ha 5 (hon 5 (by kernel_rfl))
        replace ha := Aside0.mk ha
        exact VL (.string ((rd_T95 x237002_1 0).f0)) (hK.out _ _ ⟨v253, v256, v259, PUT ha 6 hb, HM⟩)
       refine steps_cons ?_ ?_
       ·rintro b a w ⟨v253, v256, v259, ha, HM⟩ hb hon hoff
        refine ⟨_, rfl, fun K hK => ?_⟩
        replace HM := HM.sF 4 rfl hb
        replace HM := HM.sT 8 rfl (hon 4 (by kernel_rfl))
        replace HM := HM.sT 9 rfl (hon 4 (by kernel_rfl))
        replace HM := HM.sT 10 rfl (hon 4 (by kernel_rfl))
        obtain ⟨Xo49, ko49, eo49⟩ := HM.rdR 8 rfl
        subst eo49
        obtain ⟨Xo50, ko50, eo50⟩ := HM.rdR 9 rfl
        subst eo50
        obtain ⟨Xo51, ko51, eo51⟩ := HM.rd 10 rfl
        subst eo51
        have e2 := POF ha 2
        have e34 := PON ha 4 (hon 4 (by kernel_rfl))
        replace ha := Aside0.mk ha
        refine ST (eS 4 2 0 [.int .i64 t250, .int .i64 t251, .slice Xo49 t252.length ko49, .slice Xo50 t255.length ko50, .slice Xo51 t258.length ko51] HM rfl rfl ?_ (hp := (eval_of e2)) (hx := (by rw [eval_of e34]; rfl)))
        clear HM
        intro w52 HM
        exact hK.out _ _ ⟨.slice Xo49 t252.length ko49, .slice Xo50 t255.length ko50, .slice Xo51 t258.length ko51, PUS ha, (((HM.iT 8 rfl (hon 4 (by kernel_rfl))).iT 9 rfl (hon 4 (by kernel_rfl))).iT 10 rfl (hon 4 (by kernel_rfl))).pick [0, 1, 2, 3, 4, 5, 6, 7, 8, 9, 10]⟩
       refine steps_cons ?_ ?_
       ·rintro b a w ⟨v253, v256, v259, ha, HM⟩ hb hon hoff
        refine ⟨_, rfl, fun K hK => ?_⟩
        have e36 := PON ha 6 (hon 6 (by kernel_rfl))
        replace ha := Aside0.mk ha
        exact VL (.string ((rd_T95 x237002_1 0).f0)) (hK.out _ _ ⟨v253, v256, v259, PUT ha 7 hb, HM⟩)
       refine steps_cons ?_ ?_
       ·rintro b a w ⟨v253, v256, v259, ha, HM⟩ hb hon hoff
        refine ⟨_, rfl, fun K hK => ?_⟩
        replace ha := Aside0.mk ha
        exact VL (.bool true) (hK.out _ _ ⟨v253, v256, v259, PUT ha 8 hb, HM⟩)
       exact steps_nil
      rintro _ w53 ⟨v253, v256, v259, rfl, HM⟩
      replace HM := HM.sT 1 rfl rfl
      replace HM := HM.sT 4 rfl rfl
      replace HM := HM.sT 7 rfl rfl
      replace HM := HM.sT 8 rfl rfl
      replace HM := HM.sT 9 rfl rfl
      replace HM := HM.sT 10 rfl rfl
      simp only [putSel, if_true, Act.put, List.setIfInBounds_toArray, List.set_cons_zero, List.set_cons_succ, gt_iff_lt, ge_iff_le]
      simp only [Option.some.injEq, Prod.mk.injEq] at H
      obtain ⟨rfl, rfl, rfl, rfl, rfl, rfl, rfl⟩ := H
      go_wp2
      refine bodyPost_ret (results_ctt rfl _ _ gb223 32 #[.int .i64 t250, .int .i64 t251, v253, v256, v259] (0, 0) _ rfl (HM.bx 4 rfl) Try.underlying32 rfl (by kernel_rfl)) rfl ?_
      exact ⟨_, _, _, ER, (MD HM).pick [8, 9, 10]⟩
     ·have c31b0 : decide (((rd_T95 x237002_1 0).f2) ≤ 1) = false := decide_eq_false c31
      clear c31
      (first | rw [c31b0] | (simp only [i64_w, i32_w]; rw [c31b0]) | skip)
      replace H := GD H; obtain ⟨c57, H⟩ := H
      have LMc57 := Aside0.mk c57
      clear c57
      have H' := Aside0.mk H
      clear H
      go_wp2_with (first | ((with_reducible refine gate_st (p := 37) rfl ?_); refine pS 6 37 2 [.int .i64 0] HM rfl rfl ?_; clear HM; intro w54 HM; obtain ⟨hcz55_0, hcz55_1, hcz55_2, hcz55_3, hcz55_4, hfz55_0, hfz55_1, hfz55_2, hfz55_3, hfz55_4⟩ := bk5 (HM.bx 5 rfl); obtain ⟨hcz56_0, hcz56_1, hcz56_2, hfz56_0, hfz56_1, hfz56_2⟩ := bk3 (HM.bx 6 rfl)) | ((with_reducible refine gate_dst (N := 41) rfl ?_); refine pL 41 k95 95 [(⟨(rd_T95 x237002_1 0).f0, (rd_T95 x237002_1 0).f1, 0⟩ : S95)] [.string ((rd_T95 x237002_1 0).f0), .string ((rd_T95 x237002_1 0).f1), .int .i64 0] (Reps.c3 (show Kd.M k95 _ _ _ (⟨(rd_T95 x237002_1 0).f0, (rd_T95 x237002_1 0).f1, 0⟩ : S95) [.string ((rd_T95 x237002_1 0).f0), .string ((rd_T95 x237002_1 0).f1), .int .i64 0] from (k95_mkM _ _ _ (⟨(rd_T95 x237002_1 0).f0, (rd_T95 x237002_1 0).f1, 0⟩ : S95))) (Reps.none _ _)) HM rfl ?_; clear HM; intro v59 w58 HM; obtain ⟨Xv59, kv59, ev59⟩ := HM.rdR 8 rfl; subst ev59) | ((with_reducible refine gate_builtin (b := .append) (xs := #[.tmp 39, .tmp 41]) rfl ?_); refine pA 1 (.tmp 39) (.tmp 41) 30 95 k95 u237003 x237003_1 [(⟨(rd_T95 x237002_1 0).f0, (rd_T95 x237002_1 0).f1, 0⟩ : S95)] Xv59 ([(⟨(rd_T95 x237002_1 0).f0, (rd_T95 x237002_1 0).f1, 0⟩ : S95)].length) kv59 HM rfl Try.underlying30 info95 rfl (HM.CR 8 rfl).2.2 (by have h_ := LMc57.out; simp only [List.length_singleton]; omega) ?_; clear HM; intro v262 w60 HM; obtain ⟨Xo61, ko61, eo61⟩ := HM.rdR 1 rfl; subst eo61) | ((with_reducible refine gate_st (p := 43) rfl ?_); refine pS 5 43 3 [.slice Xo61 (x237003_1 ++ [(⟨(rd_T95 x237002_1 0).f0, (rd_T95 x237002_1 0).f1, 0⟩ : S95)]).length ko61] HM rfl rfl ?_; clear HM; intro w62 HM))
      go_roundg k1
      case measure => have := HK1.out; omega
      case rel => exact ⟨(x224000_1), (x224001_1), (y246), ((x237003_1 ++ [(⟨(rd_T95 x237002_1 0).f0, (rd_T95 x237002_1 0).f1, 0⟩ : S95)])), (.slice Xo28 y246.length ko28), (.slice Xo61 (x237003_1 ++ [(⟨(rd_T95 x237002_1 0).f0, (rd_T95 x237002_1 0).f1, 0⟩ : S95)]).length ko61), H', ⟨by have := HK1.out; omega⟩, (MD HM).pick [7, 1, 2, 3, 4, 5]⟩
    ·replace c18 : ¬ ((x237002_1.length : Int) > 0) := c18
     have c18b0 : decide (0 < (x237002_1.length : Int)) = false := decide_eq_false c18
     have c18b1 : decide (0 < x237002_1.length) = false := decide_eq_false (by omega)
     have c18b9 : decide (0 < x237002_1.length) = false := decide_eq_false (by omega)
     clear c18
     (first | rw [c18b0] | rw [c18b9] | (simp only [i64_w, i32_w]; rw [c18b0]) | skip)
     simp only [Option.some.injEq, Prod.mk.injEq] at H
     obtain ⟨rfl, rfl, rfl, rfl, rfl, rfl, rfl⟩ := H
     obtain ⟨Xo63, ko63, eo63⟩ := HM.rdR 1 rfl
     subst eo63
     go_wp2_with (first | ((with_reducible refine gate_st (p := 2) rfl ?_); refine pS 4 2 0 [.int .i64 t225, .int .i64 t226, .slice Xo17 x237002_1.length ko17, .slice Xo63 x237003_1.length ko63, .slice Xo14 t233.length ko14] HM rfl rfl ?_; clear HM; intro w64 HM))
     refine bodyPost_ret (results_ctt rfl _ _ gb223 32 #[.int .i64 t225, .int .i64 t226, .slice Xo17 x237002_1.length ko17, .slice Xo63 x237003_1.length ko63, .slice Xo14 t233.length ko14] (0, 0) _ rfl (HM.bx 4 rfl) Try.underlying32 rfl (by kernel_rfl)) rfl ?_
     exact ⟨_, _, _, ER, (MD HM).pick [0, 1, 2]⟩
 ·subst c7
  simp only [Option.some.injEq, Prod.mk.injEq] at H
  obtain ⟨rfl, rfl, rfl, rfl, rfl, rfl, rfl⟩ := H
  go_wp2_with (first | ((with_reducible refine gate_st (p := 2) rfl ?_); refine pS 1 2 0 [.int .i64 0, .int .i64 0, .slice none 0 0, .slice none 0 0, .slice none 0 0] HM rfl rfl ?_; clear HM; intro w65 HM; replace HM := HM.nl k95 95; replace HM := HM.nl k95 95; replace HM := HM.nl (Kd.int .i64) 3; replace HM := HM.toQ 4 rfl))
  refine bodyPost_ret (results_ctt rfl _ _ gb223 32 #[.int .i64 0, .int .i64 0, .slice none 0 0, .slice none 0 0, .slice none 0 0] (0, 0) _ rfl (HM.bx 1 rfl) Try.underlying32 rfl (by kernel_rfl)) rfl ?_
  exact ⟨_, _, _, ER, (MD HM).pick [2, 3, 4]⟩
def spec_EvictMain.l0 : Nat → Int → Int → List (S95) → List (S95) → List Int → Option (Int × Int × (List (S95)) × (List (S95)) × List Int × ByteArray × Bool)
 | 0, _, _, _, _, _ => none
 | k + 1, x282000, x282001, x282002, x282003, x282004 => if (x282003.length : Int) > 0 then (if 0 < (x282003.length : Int) then ((some (([] : List (S95)) : List (S95))).bind fun y284 => (if 1 ≤ (x282003.length : Int) then ((some (x282003.drop 1 : List (S95))).bind fun y287 => (if y284.length + y287.length < 3518437208883 then ((some (y284 ++ y287 : List (S95))).bind fun y291 => (if ((rd_T95 x282003 0).f2) = 0 then (some (x282000, x282001, x282002, y291, x282004, (rd_T95 x282003 0).f0, true)) else (if y291.length < 3518437208883 then (spec_EvictMain.l0 k x282000 x282001 x282002 (y291 ++ [(⟨(rd_T95 x282003 0).f0, (rd_T95 x282003 0).f1, wrap64 (((rd_T95 x282003 0).f2) - 1)⟩ : S95)]) x282004) else (none)))) else (none))) else (none))) else (none)) else (some (x282000, x282001, x282002, x282003, x282004, (⟨#[]⟩ : ByteArray), false))
def spec_EvictMain.f (k : Nat) (a0_0 : Int) (a0_1 : Int) (l0_2 : List (S95)) (l0_3 : List (S95)) (l0_4 : List Int) : Option (Int × Int × (List (S95)) × (List (S95)) × List Int × ByteArray × Bool) := (spec_ThreeOk.f k a0_0 a0_1 l0_2 l0_3 l0_4).bind fun t269 => (if t269 = true then ((spec_l10Copy.f a0_0 a0_1 l0_2 l0_3 l0_4).bind fun bt270 => (spec_EvictMain.l0 k bt270.1 bt270.2.1 bt270.2.2.1 bt270.2.2.2.1 bt270.2.2.2.2)) else (some (0, 0, ([] : List (S95)), ([] : List (S95)), ([] : List Int), (⟨#[]⟩ : ByteArray), false)))
theorem spec_EvictMain.mono_l : ∀ k, (∀ y0 y1 y2 y3 y4, LeO (spec_EvictMain.l0 k y0 y1 y2 y3 y4) (spec_EvictMain.l0 (k + 1) y0 y1 y2 y3 y4))
 | 0 => fun _ _ _ _ _ r h => by simp [spec_EvictMain.l0] at h
 | k + 1 => by
  have ih0 := spec_EvictMain.mono_l k
  ·intro y0 y1 y2 y3 y4
   unfold spec_EvictMain.l0
   repeat' first | (with_reducible first | exact ih0 _ _ _ _ _ | exact spec_ThreeOk.mono _ _ _ _ _ _ | exact LeO.refl _ | exact LeO.none _ | refine LeO.ite ?_ ?_ | refine LeO.bind ?_ (fun _ => ?_)) | exact ih0 _ _ _ _ _ | exact spec_ThreeOk.mono _ _ _ _ _ _ | exact LeO.none _ | refine LeO.ite ?_ ?_ | refine LeO.bind ?_ (fun _ => ?_)
theorem spec_EvictMain.mono : ∀ a0 a1 a2 a3 a4 k, LeO (spec_EvictMain.f k a0 a1 a2 a3 a4) (spec_EvictMain.f (k + 1) a0 a1 a2 a3 a4) := by
 intro a0 a1 a2 a3 a4 k
 have ih0 := spec_EvictMain.mono_l k
 unfold spec_EvictMain.f
 repeat' first | (with_reducible first | exact ih0 _ _ _ _ _ | exact spec_ThreeOk.mono _ _ _ _ _ _ | exact LeO.refl _ | exact LeO.none _ | refine LeO.ite ?_ ?_ | refine LeO.bind ?_ (fun _ => ?_)) | exact ih0 _ _ _ _ _ | exact spec_ThreeOk.mono _ _ _ _ _ _ | exact LeO.none _ | refine LeO.ite ?_ ?_ | refine LeO.bind ?_ (fun _ => ?_)
def spec_EvictMain.T8 : Bool × List (List Nat × List Nat) := (true, [([], []), ([], []), ([1], [1]), ([0, 0], [0]), ([2, 3, 0, 1, 2, 3], [2]), ([4, 0, 1, 2, 3, 4], [])])
def spec_EvictMain.B8 : List Nat := [0, 0, 2, 1, 15, 31]
theorem spec_EvictMain.tab8 : rtab .any (opsOf Try.f93 8) = spec_EvictMain.T8 := by kernel_rfl
theorem spec_EvictMain.bits8 : waitsOk spec_EvictMain.T8.2 spec_EvictMain.B8 = true := by kernel_rfl
set_option maxHeartbeats 8000000 in
set_option maxRecDepth 100000 in
theorem spec_EvictMain.calls (k : Nat) (a0_0 : Int) (a0_1 : Int) (A0_2 : Option Addr) (c0_2 : Nat) (l0_2 : List (S95)) (A0_3 : Option Addr) (c0_3 : Nat) (l0_3 : List (S95)) (A0_4 : Option Addr) (c0_4 : Nat) (l0_4 : List Int) (r1 : Int) (r2 : Int) (r3 : List (S95)) (r4 : List (S95)) (r5 : List Int) (r6 : ByteArray) (r7 : Bool) (w : World) (hr0_2 : Kd.C k95 w A0_2 l0_2.length l0_2) (hc0_2 : l0_2.length ≤ c0_2) (hr0_3 : Kd.C k95 w A0_3 l0_3.length l0_3) (hc0_3 : l0_3.length ≤ c0_3) (hr0_4 : Kd.C (Kd.int .i64) w A0_4 l0_4.length l0_4) (hc0_4 : l0_4.length ≤ c0_4) (h : spec_EvictMain.f k a0_0 a0_1 l0_2 l0_3 l0_4 = some (r1, r2, r3, r4, r5, r6, r7)) :
  Calls Try.prog 93 #[.agg #[.int .i64 a0_0, .int .i64 a0_1, .slice A0_2 l0_2.length c0_2, .slice A0_3 l0_3.length c0_3, .slice A0_4 l0_4.length c0_4]] w fun e w' => ∃ v2_ v3_ v4_ : Value, e = .returned (.tuple #[.agg #[.int .i64 r1, .int .i64 r2, v2_, v3_, v4_], .string r6, .bool r7]) ∧ Mem w [] w' [rowR k95 95 v2_ r3, rowR k95 95 v3_ r4, rowR (Kd.int .i64) 3 v4_ r5] := by
 have hu32 := Try.underlying32
 have hu95 := Try.underlying95
 have HR0_2 := Aside0.mk hr0_2
 have HC0_2 := Aside0.mk hc0_2
 clear hr0_2 hc0_2
 have HR0_3 := Aside0.mk hr0_3
 have HC0_3 := Aside0.mk hc0_3
 clear hr0_3 hc0_3
 have HR0_4 := Aside0.mk hr0_4
 have HC0_4 := Aside0.mk hc0_4
 clear hr0_4 hc0_4
 have HM := Mem.nil w
 have H := h
 clear h
 unfold spec_EvictMain.f at H
 go_enter Try.func93, Try.ntmps93
 replace H := BN H; obtain ⟨t269, A5, H⟩ := H
 go_upto_if 9 with (first | ((with_reducible refine gate_dst (N := 1) rfl ?_); refine pB 1 32 [.int .i64 a0_0, .int .i64 a0_1, .slice A0_2 l0_2.length c0_2, .slice A0_3 l0_3.length c0_3, .slice A0_4 l0_4.length c0_4] HM rfl ?_; clear HM; intro gb267 w2 HM) | ((with_reducible refine gate_dst (N := 2) rfl ?_); refine pB 2 32 [.int .i64 0, .int .i64 0, .slice none 0 0, .slice none 0 0, .slice none 0 0] HM rfl ?_; clear HM; intro gb268 w3 HM; obtain ⟨hcz4_0, hcz4_1, hcz4_2, hcz4_3, hcz4_4, hfz4_0, hfz4_1, hfz4_2, hfz4_3, hfz4_4⟩ := bk5 (HM.bx 0 rfl)) | ((with_reducible refine gate_callee (f := 32) rfl ?_); refine pC (some 8) rfl #[.agg #[.int .i64 a0_0, .int .i64 a0_1, .slice A0_2 l0_2.length c0_2, .slice A0_3 l0_3.length c0_3, .slice A0_4 l0_4.length c0_4]] rfl Try.func32 (spec_ThreeOk.calls k a0_0 a0_1 _ _ l0_2 _ _ l0_3 _ _ l0_4 t269 _ (HM.came HR0_2.out) HC0_2.out (HM.came HR0_3.out) HC0_3.out (HM.came HR0_4.out) HC0_4.out A5.out) ?_; rintro e w6 ⟨rfl, hR⟩; refine ⟨_, rfl, ?_⟩; replace HM := HM.call hR; clear hR))
 replace HM := nzM HM
 replace H := IB H
 rcases H with ⟨c7, H⟩ | ⟨c7, H⟩
 ·subst c7
  replace H := BN H; obtain ⟨⟨t270, t271, t272, t275, t278⟩, A9, H⟩ := H
  have H' := Aside0.mk H
  clear H
  obtain ⟨hcz8_0, hcz8_1, hcz8_2, hcz8_3, hcz8_4, hfz8_0, hfz8_1, hfz8_2, hfz8_3, hfz8_4⟩ := bk5 (HM.bx 0 rfl)
  go_wp2_with (first | ((with_reducible refine gate_callee (f := 48) rfl ?_); refine pC (some 12) rfl #[.agg #[.int .i64 a0_0, .int .i64 a0_1, .slice A0_2 l0_2.length c0_2, .slice A0_3 l0_3.length c0_3, .slice A0_4 l0_4.length c0_4]] rfl Try.func48 (spec_l10Copy.calls a0_0 a0_1 _ _ l0_2 _ _ l0_3 _ _ l0_4 t270 t271 t272 t275 t278 _ (HM.came HR0_2.out) HC0_2.out (HM.came HR0_3.out) HC0_3.out (HM.came HR0_4.out) HC0_4.out A9.out) ?_; rintro e w10 ⟨v273, v276, v279, rfl, hR⟩; refine ⟨_, rfl, ?_⟩; replace HM := HM.call hR; clear hR) | ((with_reducible refine gate_dst (N := 5) rfl ?_); refine pB 5 32 [.int .i64 0, .int .i64 0, .slice none 0 0, .slice none 0 0, .slice none 0 0] HM rfl ?_; clear HM; intro gb281 w11 HM; obtain ⟨Xo12, ko12, eo12⟩ := HM.rdR 2 rfl; subst eo12; obtain ⟨Xo13, ko13, eo13⟩ := HM.rdR 3 rfl; subst eo13; obtain ⟨Xo14, ko14, eo14⟩ := HM.rdR 4 rfl; subst eo14) | ((with_reducible refine gate_st (p := 5) rfl ?_); refine pS 5 5 0 [.int .i64 t270, .int .i64 t271, .slice Xo12 t272.length ko12, .slice Xo13 t275.length ko13, .slice Xo14 t278.length ko14] HM rfl rfl ?_; clear HM; intro w15 HM))
  go_loopg [] k (fun kq w' => ∃ (x269000_1 : Int) (x269001_1 : Int) (x282003_1 : List (S95)) (u282003 : Value), Aside0 (spec_EvictMain.l0 kq t270 t271 t272 x282003_1 t278 = some (r1, r2, r3, r4, r5, r6, r7)) ∧ Aside0 (kq ≤ k) ∧ Mem w [] w' [rowR k95 95 (.slice Xo12 t272.length ko12) t272, rowR k95 95 u282003 x282003_1, rowR (Kd.int .i64) 3 (.slice Xo14 t278.length ko14) t278, box 32 gb267 [.int .i64 a0_0, .int .i64 a0_1, .slice A0_2 l0_2.length c0_2, .slice A0_3 l0_3.length c0_3, .slice A0_4 l0_4.length c0_4], box 32 gb268 [.int .i64 x269000_1, .int .i64 x269001_1, .slice none 0 0, .slice none 0 0, .slice none 0 0], box 32 gb281 [.int .i64 t270, .int .i64 t271, (.slice Xo12 t272.length ko12), u282003, (.slice Xo14 t278.length ko14)]])
  case atStart => exact ⟨(0), (0), (t275), (.slice Xo13 t275.length ko13), H', ⟨Nat.le_refl _⟩, (MD HM).pick [2, 3, 4, 0, 1, 5]⟩
  case round =>
   clear H' HM
   obtain ⟨x269000_1, x269001_1, x282003_1, u282003, HA, HK1, HM⟩ := hrel
   cases gk with
   | zero => exact absurd HA.out (by simp [spec_EvictMain.l0])
   | succ k1 =>
    have H := HA.out
    clear HA
    simp only [spec_EvictMain.l0] at H
    obtain ⟨hcz16_0, hcz16_1, hcz16_2, hcz16_3, hcz16_4, hfz16_0, hfz16_1, hfz16_2, hfz16_3, hfz16_4⟩ := bk5 (HM.bx 5 rfl)
    obtain ⟨Xo17, ko17, eo17⟩ := HM.rdR 1 rfl
    subst eo17
    go_upto_if 16 with (fail)
    replace H := IT H; rcases H with ⟨c18, H⟩ | ⟨c18, H⟩
    ·replace c18 : (x282003_1.length : Int) > 0 := c18
     have c18b0 : decide (0 < (x282003_1.length : Int)) = true := decide_eq_true c18
     have c18b1 : decide (0 < x282003_1.length) = true := decide_eq_true (by omega)
     have c18b9 : decide (0 < x282003_1.length) = true := decide_eq_true (by omega)
     clear c18
     (first | rw [c18b0] | rw [c18b9] | (simp only [i64_w, i32_w]; rw [c18b0]) | skip)
     replace H := GD H; obtain ⟨c19, H⟩ := H
     replace c19 : 0 < (x282003_1.length : Int) := c19
     have c19b0 : decide (0 < (x282003_1.length : Int)) = true := decide_eq_true c19
     have c19b1 : decide (0 < x282003_1.length) = true := decide_eq_true (by omega)
     have c19b9 : decide (0 < x282003_1.length) = true := decide_eq_true (by omega)
     clear c19
     replace H := BLt H; obtain ⟨y284, Ny284, H⟩ := H
     replace Ny284 := Aside0.mk Ny284
     replace H := GD H; obtain ⟨c24, H⟩ := H
     have c24b0 := eq_true c24
     have c24b1 : decide (1 ≤ (x282003_1.length : Int)) = true := decide_eq_true c24
     clear c24
     replace H := BLt H; obtain ⟨_, rfl, H⟩ := H
     replace H := GD H; obtain ⟨c26, H⟩ := H
     have LMc26 := Aside0.mk c26
     clear c26
     replace H := BLt H; obtain ⟨y291, Ny291, H⟩ := H
     replace Ny291 := Aside0.mk Ny291
     have p282 : 0 ≤ (0 : Int) := (by omega)
     have q282 : (0 : Int) < (x282003_1.length : Int) := of_decide_eq_true AS
     obtain ⟨ad282, e282, hx282_0, hx282_1, hx282_2⟩ := at_T95 (HM.CR 1 rfl).2.2 0 p282 q282
     cases e282
     have qi282 : (0 < x282003_1.length) = True := eq_true (by omega)
     (try rw [show ((0 : Int)).toNat = 0 from rfl] at hx282_0)
     (try rw [show 0 * 3 = 0 from rfl] at hx282_0)
     (try rw [Addr.add_zero'] at hx282_0)
     (try rw [show ((0 : Int)).toNat = 0 from rfl] at hx282_1)
     (try rw [show 0 * 3 = 0 from rfl] at hx282_1)
     (try rw [Addr.add_zero'] at hx282_1)
     (try rw [show ((0 : Int)).toNat = 0 from rfl] at hx282_2)
     (try rw [show 0 * 3 = 0 from rfl] at hx282_2)
     (try rw [Addr.add_zero'] at hx282_2)
     replace p282 := eq_true p282
     replace q282 := eq_true q282
     go_upto_if 29 with (first | ((with_reducible refine gate_dst (N := 6) rfl ?_); refine pB 6 95 [.string (⟨#[]⟩ : ByteArray), .string (⟨#[]⟩ : ByteArray), .int .i64 0] HM rfl ?_; clear HM; intro gb283 w20 HM) | ((with_reducible refine gate_st (p := 6) rfl ?_); refine pS 6 6 0 [.string ((rd_T95 x282003_1 0).f0), .string ((rd_T95 x282003_1 0).f1), .int .i64 ((rd_T95 x282003_1 0).f2)] HM rfl rfl ?_; clear HM; intro w21 HM) | ((with_reducible refine gate_dst (N := 21) rfl ?_); refine pL 21 k95 95 ([] : List (S95)) [] (Reps.none _ _) HM rfl ?_; clear HM; intro v285 w22 HM; replace HM := HM.nm 7 rfl Ny284.out; obtain ⟨hcz23_0, hcz23_1, hcz23_2, hcz23_3, hcz23_4, hfz23_0, hfz23_1, hfz23_2, hfz23_3, hfz23_4⟩ := bk5 (HM.bx 5 rfl)) | ((with_reducible refine gate_sl (t := 30) rfl ?_); refine pRd 30 95 k95 _ _ 1 x282003_1 (some ad282) ko17 rfl Try.underlying30 info95 (HM.CR 1 rfl).2.2 (HM.CR 1 rfl).2.1 (by omega) (of_decide_eq_true AS) ?_; intro Yx25 bx25 hYx25 hbx25; have HYx25 := Aside0.mk hYx25; have HBx25 := Aside0.mk hbx25; clear hYx25 hbx25) | ((with_reducible refine gate_builtin (b := .append) (xs := #[.tmp 21, .tmp 24]) rfl ?_); refine pA 7 (.tmp 21) (.tmp 24) 30 95 k95 v285 y284 (x282003_1.drop 1) Yx25 ((x282003_1.drop 1).length) bx25 HM rfl Try.underlying30 info95 rfl HYx25.out (by have h_ := LMc26.out; omega) ?_; clear HM; intro v292 w27 HM; replace HM := HM.nm 7 rfl Ny291.out; obtain ⟨Xo28, ko28, eo28⟩ := HM.rdR 7 rfl; subst eo28) | ((with_reducible refine gate_st (p := 26) rfl ?_); refine pS 5 26 3 [.slice Xo28 y291.length ko28] HM rfl rfl ?_; clear HM; intro w29 HM; obtain ⟨hcz30_0, hcz30_1, hcz30_2, hfz30_0, hfz30_1, hfz30_2⟩ := bk3 (HM.bx 6 rfl)))
     replace HM := nzM HM
     replace H := IT H; rcases H with ⟨c31, H⟩ | ⟨c31, H⟩
     ·have c31b0 : (((rd_T95 x282003_1 0).f2) == 0) = true := beq_iff_eq.mpr c31
      have c31b1 : (((rd_T95 x282003_1 0).f2) != 0) = false := bne_eq_false_iff_eq.mpr c31
      clear c31
      (first | rw [c31b0] | (simp only [i64_w, i32_w]; rw [c31b0]) | skip)
      try go_wp2
      refine RGN 6 [0, 1, 2, 3, 4, 5] (fun a0 b a w' => a = putSel a0 b [(0, 30, .agg #[.int .i64 t270, .int .i64 t271, .slice Xo12 t272.length ko12, .slice Xo28 y291.length ko28, .slice Xo14 t278.length ko14]), (1, 31, .pointer (some ⟨gb283, 0, none⟩)), (2, 32, .string ((rd_T95 x282003_1 0).f0)), (4, 3, .string ((rd_T95 x282003_1 0).f0)), (5, 4, .bool true)] ∧ Mem w [] w' [rowR k95 95 (.slice Xo12 t272.length ko12) t272, rowR k95 95 (.slice (some ad282) x282003_1.length ko17) x282003_1, rowR (Kd.int .i64) 3 (.slice Xo14 t278.length ko14) t278, box 32 gb267 [.int .i64 a0_0, .int .i64 a0_1, .slice A0_2 l0_2.length c0_2, .slice A0_3 l0_3.length c0_3, .slice A0_4 l0_4.length c0_4], sel (b 3) (box 32 gb268 [.int .i64 t270, .int .i64 t271, .slice Xo12 t272.length ko12, .slice Xo28 y291.length ko28, .slice Xo14 t278.length ko14]) (box 32 gb268 [.int .i64 x269000_1, .int .i64 x269001_1, .slice none 0 0, .slice none 0 0, .slice none 0 0]), box 32 gb281 [.int .i64 t270, .int .i64 t271, .slice Xo12 t272.length ko12, .slice Xo28 y291.length ko28, .slice Xo14 t278.length ko14], box 95 gb283 [.string ((rd_T95 x282003_1 0).f0), .string ((rd_T95 x282003_1 0).f1), .int .i64 ((rd_T95 x282003_1 0).f2)], rowR k95 95 (.slice Xo28 y291.length ko28) y291]) spec_EvictMain.tab8 spec_EvictMain.bits8 ?_ ?_ ?_
      ·exact ⟨PS0' rfl _, (HM.drew).pick [0, 1, 2, 3, 4, 5, 6, 7]⟩
      ·clear HM
       refine steps_cons ?_ ?_
       ·rintro b a w ⟨ha, HM⟩ hb hon hoff
        refine ⟨_, rfl, fun K hK => ?_⟩
        obtain ⟨hcz35_0, hcz35_1, hcz35_2, hcz35_3, hcz35_4, hfz35_0, hfz35_1, hfz35_2, hfz35_3, hfz35_4⟩ := bk5 (HM.bx 5 rfl)
        have e5 := POF ha 5
        replace ha := Aside0.mk ha
        exact VL (.agg #[.int .i64 t270, .int .i64 t271, .slice Xo12 t272.length ko12, .slice Xo28 y291.length ko28, .slice Xo14 t278.length ko14]) (hK.out _ _ ⟨PUT ha 0 hb, HM⟩)
       refine steps_cons ?_ ?_
       ·rintro b a w ⟨ha, HM⟩ hb hon hoff
        refine ⟨_, rfl, fun K hK => ?_⟩
        have e6 := POF ha 6
        replace ha := Aside0.mk ha
        exact VL (.pointer (some ⟨gb283, 0, none⟩)) (hK.out _ _ ⟨PUT ha 1 hb, HM⟩)
       refine steps_cons ?_ ?_
       ·rintro b a w ⟨ha, HM⟩ hb hon hoff
        refine ⟨_, rfl, fun K hK => ?_⟩
        obtain ⟨hcz36_0, hcz36_1, hcz36_2, hfz36_0, hfz36_1, hfz36_2⟩ := bk3 (HM.bx 6 rfl)
        have e31 := PON ha 1 (hon 1 (by kernel_rfl))
        replace ha := Aside0.mk ha
        exact VL (.string ((rd_T95 x282003_1 0).f0)) (hK.out _ _ ⟨PUT ha 2 hb, HM⟩)
       refine steps_cons ?_ ?_
       ·rintro b a w ⟨ha, HM⟩ hb hon hoff
        refine ⟨_, rfl, fun K hK => ?_⟩
        replace HM := HM.sF 4 rfl hb
        have e2 := POF ha 2
        have e30 := PON ha 0 (hon 0 (by kernel_rfl))
        replace ha := Aside0.mk ha
        refine ST (eS 4 2 0 [.int .i64 t270, .int .i64 t271, .slice Xo12 t272.length ko12, .slice Xo28 y291.length ko28, .slice Xo14 t278.length ko14] HM rfl rfl ?_ (hp := (eval_of e2)) (hx := (by rw [eval_of e30]; rfl)))
        clear HM
        intro w37 HM
        exact hK.out _ _ ⟨PUS ha, (HM).pick [0, 1, 2, 3, 4, 5, 6, 7]⟩
       refine steps_cons ?_ ?_
       ·rintro b a w ⟨ha, HM⟩ hb hon hoff
        refine ⟨_, rfl, fun K hK => ?_⟩
        have e32 := PON ha 2 (hon 2 (by kernel_rfl))
        replace ha := Aside0.mk ha
        exact VL (.string ((rd_T95 x282003_1 0).f0)) (hK.out _ _ ⟨PUT ha 3 hb, HM⟩)
       refine steps_cons ?_ ?_
       ·rintro b a w ⟨ha, HM⟩ hb hon hoff
        refine ⟨_, rfl, fun K hK => ?_⟩
        replace ha := Aside0.mk ha
        exact VL (.bool true) (hK.out _ _ ⟨PUT ha 4 hb, HM⟩)
       exact steps_nil
      rintro _ w38 ⟨rfl, HM⟩
      replace HM := HM.sT 4 rfl rfl
      simp only [putSel, if_true, Act.put, List.setIfInBounds_toArray, List.set_cons_zero, List.set_cons_succ, gt_iff_lt, ge_iff_le]
      simp only [Option.some.injEq, Prod.mk.injEq] at H
      obtain ⟨rfl, rfl, rfl, rfl, rfl, rfl, rfl⟩ := H
      go_wp2
      refine bodyPost_ret (results_ctt rfl _ _ gb268 32 #[.int .i64 t270, .int .i64 t271, .slice Xo12 t272.length ko12, .slice Xo28 y291.length ko28, .slice Xo14 t278.length ko14] (0, 0) _ rfl (HM.bx 4 rfl) Try.underlying32 rfl (by kernel_rfl)) rfl ?_
      exact ⟨_, _, _, ER, (MD HM).pick [0, 7, 2]⟩
     ·have c31b0 : (((rd_T95 x282003_1 0).f2) == 0) = false := beq_eq_false_iff_ne.mpr c31
      have c31b1 : (((rd_T95 x282003_1 0).f2) != 0) = true := bne_iff_ne.mpr c31
      (first | rw [c31b0] | (simp only [i64_w, i32_w]; rw [c31b0]) | skip)
      replace H := GD H; obtain ⟨c42, H⟩ := H
      have LMc42 := Aside0.mk c42
      clear c42
      have H' := Aside0.mk H
      clear H
      go_wp2_with (first | ((with_reducible refine gate_st (p := 36) rfl ?_); refine pS 6 36 2 [.int .i64 (wrap64 (((rd_T95 x282003_1 0).f2) - 1))] HM rfl rfl ?_; clear HM; intro w39 HM; obtain ⟨hcz40_0, hcz40_1, hcz40_2, hcz40_3, hcz40_4, hfz40_0, hfz40_1, hfz40_2, hfz40_3, hfz40_4⟩ := bk5 (HM.bx 5 rfl); obtain ⟨hcz41_0, hcz41_1, hcz41_2, hfz41_0, hfz41_1, hfz41_2⟩ := bk3 (HM.bx 6 rfl)) | ((with_reducible refine gate_dst (N := 40) rfl ?_); refine pL 40 k95 95 [(⟨(rd_T95 x282003_1 0).f0, (rd_T95 x282003_1 0).f1, wrap64 (((rd_T95 x282003_1 0).f2) - 1)⟩ : S95)] [.string ((rd_T95 x282003_1 0).f0), .string ((rd_T95 x282003_1 0).f1), .int .i64 (wrap64 (((rd_T95 x282003_1 0).f2) - 1))] (Reps.c3 (show Kd.M k95 _ _ _ (⟨(rd_T95 x282003_1 0).f0, (rd_T95 x282003_1 0).f1, wrap64 (((rd_T95 x282003_1 0).f2) - 1)⟩ : S95) [.string ((rd_T95 x282003_1 0).f0), .string ((rd_T95 x282003_1 0).f1), .int .i64 (wrap64 (((rd_T95 x282003_1 0).f2) - 1))] from (k95_mkM _ _ _ (⟨(rd_T95 x282003_1 0).f0, (rd_T95 x282003_1 0).f1, wrap64 (((rd_T95 x282003_1 0).f2) - 1)⟩ : S95))) (Reps.none _ _)) HM rfl ?_; clear HM; intro v44 w43 HM; obtain ⟨Xv44, kv44, ev44⟩ := HM.rdR 8 rfl; subst ev44) | ((with_reducible refine gate_builtin (b := .append) (xs := #[.tmp 38, .tmp 40]) rfl ?_); refine pA 7 (.tmp 38) (.tmp 40) 30 95 k95 (.slice Xo28 y291.length ko28) y291 [(⟨(rd_T95 x282003_1 0).f0, (rd_T95 x282003_1 0).f1, wrap64 (((rd_T95 x282003_1 0).f2) - 1)⟩ : S95)] Xv44 ([(⟨(rd_T95 x282003_1 0).f0, (rd_T95 x282003_1 0).f1, wrap64 (((rd_T95 x282003_1 0).f2) - 1)⟩ : S95)].length) kv44 HM rfl Try.underlying30 info95 rfl (HM.CR 8 rfl).2.2 (by have h_ := LMc42.out; simp only [List.length_singleton]; omega) ?_; clear HM; intro v295 w45 HM; obtain ⟨Xo46, ko46, eo46⟩ := HM.rdR 7 rfl; subst eo46) | ((with_reducible refine gate_st (p := 42) rfl ?_); refine pS 5 42 3 [.slice Xo46 (y291 ++ [(⟨(rd_T95 x282003_1 0).f0, (rd_T95 x282003_1 0).f1, wrap64 (((rd_T95 x282003_1 0).f2) - 1)⟩ : S95)]).length ko46] HM rfl rfl ?_; clear HM; intro w47 HM))
      go_roundg k1
      case measure => have := HK1.out; omega
      case rel => exact ⟨(x269000_1), (x269001_1), ((y291 ++ [(⟨(rd_T95 x282003_1 0).f0, (rd_T95 x282003_1 0).f1, wrap64 (((rd_T95 x282003_1 0).f2) - 1)⟩ : S95)])), (.slice Xo46 (y291 ++ [(⟨(rd_T95 x282003_1 0).f0, (rd_T95 x282003_1 0).f1, wrap64 (((rd_T95 x282003_1 0).f2) - 1)⟩ : S95)]).length ko46), H', ⟨by have := HK1.out; omega⟩, (MD HM).pick [0, 7, 2, 3, 4, 5]⟩
    ·replace c18 : ¬ ((x282003_1.length : Int) > 0) := c18
     have c18b0 : decide (0 < (x282003_1.length : Int)) = false := decide_eq_false c18
     have c18b1 : decide (0 < x282003_1.length) = false := decide_eq_false (by omega)
     have c18b9 : decide (0 < x282003_1.length) = false := decide_eq_false (by omega)
     clear c18
     (first | rw [c18b0] | rw [c18b9] | (simp only [i64_w, i32_w]; rw [c18b0]) | skip)
     simp only [Option.some.injEq, Prod.mk.injEq] at H
     obtain ⟨rfl, rfl, rfl, rfl, rfl, rfl, rfl⟩ := H
     go_wp2_with (first | ((with_reducible refine gate_st (p := 2) rfl ?_); refine pS 4 2 0 [.int .i64 t270, .int .i64 t271, .slice Xo12 t272.length ko12, .slice Xo17 x282003_1.length ko17, .slice Xo14 t278.length ko14] HM rfl rfl ?_; clear HM; intro w48 HM))
     refine bodyPost_ret (results_ctt rfl _ _ gb268 32 #[.int .i64 t270, .int .i64 t271, .slice Xo12 t272.length ko12, .slice Xo17 x282003_1.length ko17, .slice Xo14 t278.length ko14] (0, 0) _ rfl (HM.bx 4 rfl) Try.underlying32 rfl (by kernel_rfl)) rfl ?_
     exact ⟨_, _, _, ER, (MD HM).pick [0, 1, 2]⟩
 ·subst c7
  simp only [Option.some.injEq, Prod.mk.injEq] at H
  obtain ⟨rfl, rfl, rfl, rfl, rfl, rfl, rfl⟩ := H
  go_wp2_with (first | ((with_reducible refine gate_st (p := 2) rfl ?_); refine pS 1 2 0 [.int .i64 0, .int .i64 0, .slice none 0 0, .slice none 0 0, .slice none 0 0] HM rfl rfl ?_; clear HM; intro w49 HM; replace HM := HM.nl k95 95; replace HM := HM.nl k95 95; replace HM := HM.nl (Kd.int .i64) 3))
  refine bodyPost_ret (results_ctt rfl _ _ gb268 32 #[.int .i64 0, .int .i64 0, .slice none 0 0, .slice none 0 0, .slice none 0 0] (0, 0) _ rfl (HM.bx 1 rfl) Try.underlying32 rfl (by kernel_rfl)) rfl ?_
  exact ⟨_, _, _, ER, (MD HM).pick [2, 3, 4]⟩
end Go.Proofs.Ytdeijmofaapgdaa.G
