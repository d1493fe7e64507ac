/- Part 3 of the claim FnExactMend, merged by pack.py (this session's program) out of: the print's words, cut to what is needed; texts that gen.py printed (it runs the kit's print in place); texts of this session. -/
import Derived.RegionTactic
import Derived.Shelf.RegionOpenPlain
import Derived.Test.YtnlnifpehndacaaKFnExactMend1
namespace Go.Proofs.Ytnlnifpehndacaa.CutL
end Go.Proofs.Ytnlnifpehndacaa.CutL
namespace Go.Proofs.Ytnlnifpehndacaa.Man
end Go.Proofs.Ytnlnifpehndacaa.Man
namespace Go.Proofs.Ytnlnifpehndacaa.Mm
end Go.Proofs.Ytnlnifpehndacaa.Mm
namespace Go.Proofs.Ytnlnifpehndacaa.Sh
end Go.Proofs.Ytnlnifpehndacaa.Sh
set_option maxHeartbeats 8000000
set_option maxRecDepth 100000
namespace Go.Proofs.Ytnlnifpehndacaa.G
open Go.RowKit Go.Proofs.YtnlnifpehndacaaW.PrintWords Go.Proofs.YtnlnifpehndacaaW.PrintLast Go.Proofs.YtnlnifpehndacaaW.PrintMore Go.Proofs.Ytnlnifpehndacaa.Sh
attribute [local go_sem] max2_int min2_int max_two min_two max_three min_three max_four min_four
set_option linter.unusedVariables false
set_option linter.unusedSimpArgs false
def impl_within.f (a0 : Int) (a1 : Int) (a2 : Int) : Option (Bool) := if a0 ≥ a1 then (some (decide (a0 ≤ a2))) else (some false)
theorem impl_within.calls (a0 : Int) (a1 : Int) (a2 : Int) (r : Bool) (w : World) (h : impl_within.f a0 a1 a2 = some r) :
  Calls Try.prog 66 #[.int .i64 a0, .int .i64 a1, .int .i64 a2] w fun e w' => e = .returned (.bool r) ∧ Drawn0 w w' := by
 have H : (if a0 ≥ a1 then (some (decide (a0 ≤ a2))) else (some false)) = some r := h
 clear h
 by_cases c4 : a0 ≥ a1
 ·rw [if_pos c4] at H
  have c4b0 : decide (a1 ≤ a0) = true := decide_eq_true c4
  clear c4
  obtain rfl := Option.some.inj H
  go_enter Try.func66, Try.ntmps66
  go_wp2
  go_ret
  exact ⟨by first | rfl | (simp; done) | (simp [*]; done), DR⟩
 ·rw [if_neg c4] at H
  have c4b0 : decide (a1 ≤ a0) = false := decide_eq_false c4
  clear c4
  obtain rfl := Option.some.inj H
  go_enter Try.func66, Try.ntmps66
  go_wp2
  go_ret
  exact ⟨by first | rfl | (simp; done) | (simp [*]; done), DR⟩
def impl_isNum.f (a0 : Int) : Option (Bool) := (impl_within.f a0 0 4294967295).bind fun t294 => (some t294)
theorem impl_isNum.calls (a0 : Int) (r : Bool) (w : World) (h : impl_isNum.f a0 = some r) :
  Calls Try.prog 68 #[.int .i64 a0] w fun e w' => e = .returned (.bool r) ∧ Drawn0 w w' := by
 have H : ((impl_within.f a0 0 4294967295).bind fun t294 => (some t294)) = some r := h
 clear h
 replace H := BS H
 obtain ⟨t294, A20, H⟩ := H
 have A2 := Aside0.mk A20
 clear A20
 obtain rfl := Option.some.inj H
 go_enter Try.func68, Try.ntmps68
 go_wp2_with (first | ((with_reducible refine gate_callee (f := 66) rfl ?_); refine goesL_ (some 4) rfl rfl Try.func66 (by kernel_rfl) rfl #[.int .i64 a0, .int .i64 0, .int .i64 4294967295] rfl AQ ?_; (with_reducible refine (impl_within.calls a0 0 4294967295 t294 _ A2.out).mono ?_); rintro e w' ⟨rfl, ⟨nd, rfl⟩⟩; refine ⟨_, rfl, ?_⟩))
 go_ret
 exact ⟨by first | rfl | (simp; done) | (simp [*]; done), DR⟩
end Go.Proofs.Ytnlnifpehndacaa.G

namespace Go.Proofs.Ytnlnifpehndacaa.G
open Go.RowKit Go.Proofs.YtnlnifpehndacaaW.PrintWords Go.Proofs.YtnlnifpehndacaaW.PrintLast Go.Proofs.YtnlnifpehndacaaW.PrintMore Go.Proofs.Ytnlnifpehndacaa.Sh
attribute [local go_sem] max2_int min2_int max_two min_two max_three min_three max_four min_four
set_option linter.unusedVariables false
set_option linter.unusedSimpArgs false
open Go.Proofs.Ytnlnifpehndacaa.Man
def impl_Three_ghosts.f (a0 : Int) (a1 : Int) : Option Int := some (max 1 (wrap64 (a0 - a1)))
set_option maxHeartbeats 2000000 in
set_option maxRecDepth 100000 in
theorem impl_Three_ghosts.calls (g : Nat) (a0 : Int) (a1 : Int) (x2 x3 x4 : Value) (r : Int) (w : World) (hb : w.heap[g]? = some (.cells #[.int .i64 a0, .int .i64 a1, x2, x3, x4] 25 (0, 0))) (h : impl_Three_ghosts.f a0 a1 = some r) :
  Calls Try.prog 67 #[.pointer (some ⟨g, 0, none⟩)] w fun e w' => e = .returned (.int .i64 r) ∧ ∃ nd, w' = w.drewN nd := by
 unfold impl_Three_ghosts.f at h
 obtain rfl := Option.some.inj h
 clear h
 have hu45 := Try.underlying25
 have c0 : w.cell? ⟨g, 0, none⟩ = some (.int .i64 a0) := blk_cell hb 0
 have c1 : w.cell? ⟨g, 1, none⟩ = some (.int .i64 a1) := blk_cell hb 1
 have c2 : w.drew.cell? ⟨g, 0, none⟩ = some (.int .i64 a0) := blk_cell (blk_drew hb) 0
 have c3 : w.drew.cell? ⟨g, 1, none⟩ = some (.int .i64 a1) := blk_cell (blk_drew hb) 1
 have mixed : Try.prog.follows .mixedOrders = true := by kernel_rfl
 clear hb
 go_enter Try.func67, Try.ntmps67
 go_wp2
 go_region_o
 go_wp2
 ·go_ret
  exact ⟨by rw [show max 1 (wrap64 (a0 - a1)) = wrap64 (a0 - a1) by omega]; rfl, 1, rfl⟩
 ·go_ret
  exact ⟨by rw [show max 1 (wrap64 (a0 - a1)) = 1 by omega]; rfl, 1, rfl⟩
end Go.Proofs.Ytnlnifpehndacaa.G

namespace Go.Proofs.Ytnlnifpehndacaa.G
open Go.RowKit Go.Proofs.YtnlnifpehndacaaW.PrintWords Go.Proofs.YtnlnifpehndacaaW.PrintLast Go.Proofs.YtnlnifpehndacaaW.PrintMore Go.Proofs.Ytnlnifpehndacaa.Sh
attribute [local go_sem] max2_int min2_int max_two min_two max_three min_three max_four min_four
set_option linter.unusedVariables false
set_option linter.unusedSimpArgs false
def slices_Index_int_int.l0 : Nat → List Int → Int → Int → Int → Option (Int)
 | 0, _, _, _, _ => none
 | k + 1, x0, x1, x7, x8 => if x8 < x7 then (if 0 ≤ x8 then (if x8 < (x0.length : Int) then (if x1 = (rd x0 x8) then (some x8) else (slices_Index_int_int.l0 k x0 x1 x7 (wrap64 (x8 + 1)))) else (none)) else (none)) else (some (-1))
def slices_Index_int_int.f (k : Nat) (l0 : List Int) (a1 : Int) : Option (Int) := slices_Index_int_int.l0 k l0 a1 (l0.length : Int) 0
theorem slices_Index_int_int.mono_l : ∀ k, (∀ y0 y1 y2 y3, LeO (slices_Index_int_int.l0 k y0 y1 y2 y3) (slices_Index_int_int.l0 (k + 1) y0 y1 y2 y3))
 | 0 => fun _ _ _ _ r h => by simp [slices_Index_int_int.l0] at h
 | k + 1 => by
  have ih0 := slices_Index_int_int.mono_l k
  ·intro y0 y1 y2 y3
   unfold slices_Index_int_int.l0
   repeat' first | (with_reducible first | exact ih0 _ _ _ _ | exact LeO.refl _ | exact LeO.none _ | refine LeO.ite ?_ ?_ | refine LeO.bind ?_ (fun _ => ?_)) | exact LeO.none _ | refine LeO.ite ?_ ?_ | refine LeO.bind ?_ (fun _ => ?_)
theorem slices_Index_int_int.mono : ∀ a0 a1 k, LeO (slices_Index_int_int.f k a0 a1) (slices_Index_int_int.f (k + 1) a0 a1) := by
 intro a0 a1 k
 have ih0 := slices_Index_int_int.mono_l k
 unfold slices_Index_int_int.f
 repeat' first | (with_reducible first | exact ih0 _ _ _ _ | exact LeO.refl _ | exact LeO.none _ | refine LeO.ite ?_ ?_ | refine LeO.bind ?_ (fun _ => ?_)) | exact LeO.none _ | refine LeO.ite ?_ ?_ | refine LeO.bind ?_ (fun _ => ?_)
theorem slices_Index_int_int.calls (k : Nat) (A0 : Option Addr) (c0 : Nat) (l0 : List Int) (a1 : Int) (r : Int) (w : World) (hr0 : Kd.C (Kd.int .i64) w A0 l0.length l0) (hc0 : l0.length ≤ c0) (h : slices_Index_int_int.f k l0 a1 = some r) :
  Calls Try.prog 92 #[.slice A0 l0.length c0, .int .i64 a1] w fun e w' => e = .returned (.int .i64 r) ∧ Drawn0 w w' := by
 have HR0 := Aside0.mk hr0
 have HC0 := Aside0.mk hc0
 clear hr0 hc0
 have H : (slices_Index_int_int.l0 k l0 a1 (l0.length : Int) 0) = some r := h
 clear h
 have H' := Aside0.mk H
 clear H
 go_enter Try.func92, Try.ntmps92
 go_wp2
 go_loopg [8] k (fun kq v8 w' => ∃ (x8_1 : Int), v8 = .int .i64 x8_1 ∧ Aside0 (slices_Index_int_int.l0 kq l0 a1 (l0.length : Int) x8_1 = some r) ∧ Aside0 (kq ≤ k) ∧ Drawn0 w w')
 case atStart => exact ⟨(0), RS, H', ⟨Nat.le_refl _⟩, DR⟩
 case round =>
  clear H'
  try clear p2
  obtain ⟨x8_1, rfl, HA, HK1, ⟨m1, rfl⟩⟩ := hrel
  cases gk with
  | zero => exact absurd HA.out (by simp [slices_Index_int_int.l0])
  | succ k1 =>
   have H := HA.out
   clear HA
   simp only [slices_Index_int_int.l0] at H
   by_cases c3 : x8_1 < (l0.length : Int)
   ·rw [if_pos c3] at H
    have c3b0 : decide (x8_1 < (l0.length : Int)) = true := decide_eq_true c3
    clear c3
    by_cases c4 : 0 ≤ x8_1
    ·rw [if_pos c4] at H
     have c4b0 : decide (0 ≤ x8_1) = true := decide_eq_true c4
     clear c4
     by_cases c5 : x8_1 < (l0.length : Int)
     ·rw [if_pos c5] at H
      have c5b0 : decide (x8_1 < (l0.length : Int)) = true := decide_eq_true c5
      clear c5
      by_cases c6 : a1 = (rd l0 x8_1)
      ·rw [if_pos c6] at H
       have c6b0 : (a1 == (rd l0 x8_1)) = true := beq_iff_eq.mpr c6
       have c6b1 : (a1 != (rd l0 x8_1)) = false := bne_eq_false_iff_eq.mpr c6
       clear c6
       obtain rfl := Option.some.inj H
       have p368 : 0 ≤ (x8_1 : Int) := of_decide_eq_true AS
       have q368 : x8_1 < (l0.length : Int) := of_decide_eq_true AS
       obtain ⟨ad368, e368, hx368_0⟩ := Kd.at_int HR0.out x8_1 p368 q368
       cases e368
       replace p368 := eq_true p368
       replace q368 := eq_true q368
       go_wp2
       go_ret
       exact ⟨by first | rfl | (simp; done) | (simp [*]; done), DR⟩
      ·rw [if_neg c6] at H
       have c6b0 : (a1 == (rd l0 x8_1)) = false := beq_eq_false_iff_ne.mpr c6
       have c6b1 : (a1 != (rd l0 x8_1)) = true := bne_iff_ne.mpr c6
       have H' := Aside0.mk H
       clear H
       have p368 : 0 ≤ (x8_1 : Int) := of_decide_eq_true AS
       have q368 : x8_1 < (l0.length : Int) := of_decide_eq_true AS
       obtain ⟨ad368, e368, hx368_0⟩ := Kd.at_int HR0.out x8_1 p368 q368
       cases e368
       replace p368 := eq_true p368
       replace q368 := eq_true q368
       go_wp2
       go_roundg k1
       case measure => have := HK1.out; omega
       case rel => exact ⟨(wrap64 (x8_1 + 1)), RS, H', ⟨by have := HK1.out; omega⟩, DR⟩
     ·rw [if_neg c5] at H
      exact absurd H (by simp)
    ·rw [if_neg c4] at H
     exact absurd H (by simp)
   ·rw [if_neg c3] at H
    have c3b0 : decide (x8_1 < (l0.length : Int)) = false := decide_eq_false c3
    clear c3
    obtain rfl := Option.some.inj H
    go_wp2
    go_ret
    exact ⟨by first | rfl | (simp; done) | (simp [*]; done), DR⟩
def slices_Contains_int_int.f (k : Nat) (l0 : List Int) (a1 : Int) : Option (Bool) := (slices_Index_int_int.f k l0 a1).bind fun t370 => (some (decide (t370 ≥ 0)))
theorem slices_Contains_int_int.mono : ∀ a0 a1 k, LeO (slices_Contains_int_int.f k a0 a1) (slices_Contains_int_int.f (k + 1) a0 a1) := by
 intro a0 a1 k
 unfold slices_Contains_int_int.f
 repeat' first | (with_reducible first | exact slices_Index_int_int.mono _ _ _ | exact LeO.refl _ | exact LeO.none _ | refine LeO.ite ?_ ?_ | refine LeO.bind ?_ (fun _ => ?_)) | exact LeO.none _ | refine LeO.ite ?_ ?_ | refine LeO.bind ?_ (fun _ => ?_)
theorem slices_Contains_int_int.calls (k : Nat) (A0 : Option Addr) (c0 : Nat) (l0 : List Int) (a1 : Int) (r : Bool) (w : World) (hr0 : Kd.C (Kd.int .i64) w A0 l0.length l0) (hc0 : l0.length ≤ c0) (h : slices_Contains_int_int.f k l0 a1 = some r) :
  Calls Try.prog 69 #[.slice A0 l0.length c0, .int .i64 a1] w fun e w' => e = .returned (.bool r) ∧ Drawn0 w w' := by
 have HR0 := Aside0.mk hr0
 have HC0 := Aside0.mk hc0
 clear hr0 hc0
 have H : ((slices_Index_int_int.f k l0 a1).bind fun t370 => (some (decide (t370 ≥ 0)))) = some r := h
 clear h
 replace H := BS H
 obtain ⟨t370, A30, H⟩ := H
 have A3 := Aside0.mk A30
 clear A30
 obtain rfl := Option.some.inj H
 go_enter Try.func69, Try.ntmps69
 go_wp2_with (first | ((with_reducible refine gate_callee (f := 92) rfl ?_); refine goesL_ (some 7) rfl rfl Try.func92 (by kernel_rfl) rfl #[.slice A0 l0.length c0, .int .i64 a1] rfl AQ ?_; (with_reducible refine (slices_Index_int_int.calls k _ _ l0 a1 t370 _ ?side1 ?side2 A3.out).mono ?_); (case side1 => repeat (first | exact HR0.out | (with_reducible refine Kd.C_alloc ?_ _) | (with_reducible refine Kd.C_drewN ?_ _) | (with_reducible refine Kd.C_drew ?_))); (case side2 => exact HC0.out); rintro e w' ⟨rfl, ⟨nd, rfl⟩⟩; refine ⟨_, rfl, ?_⟩))
 go_ret
 exact ⟨by first | rfl | (simp; done) | (simp [*]; done), DR⟩
end Go.Proofs.Ytnlnifpehndacaa.G

namespace Go.Proofs.Ytnlnifpehndacaa.G
open Go.RowKit Go.Proofs.YtnlnifpehndacaaW.PrintWords Go.Proofs.YtnlnifpehndacaaW.PrintLast Go.Proofs.YtnlnifpehndacaaW.PrintMore Go.Proofs.Ytnlnifpehndacaa.Sh
attribute [local go_sem] max2_int min2_int max_two min_two max_three min_three max_four min_four
set_option linter.unusedVariables false
set_option linter.unusedSimpArgs false
open Go.Proofs.Ytnlnifpehndacaa.Mm
def impl_copyItems.f (l0 : List (S76)) : Option ((List (S76))) := if ([] : List (S76)).length + l0.length < 3518437208883 then (some (([] : List (S76)) ++ l0)) else (none)
theorem impl_copyItems.calls (A0 : Option Addr) (c0 : Nat) (l0 : List (S76)) (r : List (S76)) (w : World) (hr0 : Kd.C k76 w A0 l0.length l0) (hc0 : l0.length ≤ c0) (h : impl_copyItems.f l0 = some r) :
  Calls Try.prog 70 #[.slice A0 l0.length c0] w fun e w' => ∃ v0_ : Value, e = .returned (v0_) ∧ Mem w [] w' [rowR k76 76 v0_ r] := by
 have HR0 := Aside0.mk hr0
 have HC0 := Aside0.mk hc0
 clear hr0 hc0
 have HM := Mem.nil w
 have H := h
 clear h
 unfold impl_copyItems.f at H
 go_enter Try.func70, Try.ntmps70
 replace H := GD H; obtain ⟨c2, H⟩ := H
 have LMc2 := Aside0.mk c2
 clear c2
 obtain rfl := Option.some.inj H
 go_wp2_with (first | ((with_reducible refine gate_builtin (b := .append) (xs := #[.const (.slice none 0 0), .tmp 3]) rfl ?_); refine pAn (.const (.slice none 0 0)) (.tmp 3) 22 76 k76 l0 A0 l0.length c0 HM rfl Try.underlying22 info76 (HM.came HR0.out) (by have h_ := LMc2.out; omega) ?_; clear HM; intro v372 w3 HM))
 go_ret
 exact ⟨_, ER, (MD HM).pick [0]⟩
end Go.Proofs.Ytnlnifpehndacaa.G

namespace Go.Proofs.Ytnlnifpehndacaa.G
open Go.RowKit Go.Proofs.YtnlnifpehndacaaW.PrintWords Go.Proofs.YtnlnifpehndacaaW.PrintLast Go.Proofs.YtnlnifpehndacaaW.PrintMore Go.Proofs.Ytnlnifpehndacaa.Sh
attribute [local go_sem] max2_int min2_int max_two min_two max_three min_three max_four min_four
set_option linter.unusedVariables false
set_option linter.unusedSimpArgs false
def impl_isPlain.l0 : Nat → ByteArray → Int → Option (Bool)
 | 0, _, _ => none
 | k + 1, x0, x3 => if x3 < (x0.size : Int) then (if 0 ≤ x3 then (if (bt x0 x3) = 32 then (some false) else (if (bt x0 x3) = 10 then (some false) else (impl_isPlain.l0 k x0 (wrap64 (x3 + 1))))) else (none)) else (some true)
def impl_isPlain.f (k : Nat) (a0 : ByteArray) : Option (Bool) := impl_isPlain.l0 k a0 0
theorem impl_isPlain.calls (k : Nat) (a0 : ByteArray) (r : Bool) (w : World) (h : impl_isPlain.f k a0 = some r) :
  Calls Try.prog 100 #[.string a0] w fun e w' => e = .returned (.bool r) ∧ Drawn0 w w' := by
 have H : (impl_isPlain.l0 k a0 0) = some r := h
 clear h
 have H' := Aside0.mk H
 clear H
 go_enter Try.func100, Try.ntmps100
 go_wp2
 go_loopg [3] k (fun kq v3 w' => ∃ (x3_1 : Int), v3 = .int .i64 x3_1 ∧ Aside0 (impl_isPlain.l0 kq a0 x3_1 = some r) ∧ Aside0 (kq ≤ k) ∧ Drawn0 w w')
 case atStart => exact ⟨(0), RS, H', ⟨Nat.le_refl _⟩, DR⟩
 case round =>
  clear H'
  try clear c1
  obtain ⟨x3_1, rfl, HA, HK1, ⟨m1, rfl⟩⟩ := hrel
  cases gk with
  | zero => exact absurd HA.out (by simp [impl_isPlain.l0])
  | succ k1 =>
   have H := HA.out
   clear HA
   simp only [impl_isPlain.l0] at H
   by_cases c2 : x3_1 < (a0.size : Int)
   ·rw [if_pos c2] at H
    have c2b0 : decide (x3_1 < (a0.size : Int)) = true := decide_eq_true c2
    clear c2
    by_cases c3 : 0 ≤ x3_1
    ·rw [if_pos c3] at H
     have c3b0 : decide (0 ≤ x3_1) = true := decide_eq_true c3
     clear c3
     by_cases c5 : (bt a0 x3_1) = 32
     ·rw [if_pos c5] at H
      have c5b0 : ((bt a0 x3_1) == 32) = true := beq_iff_eq.mpr c5
      have c5b1 : ((bt a0 x3_1) != 32) = false := bne_eq_false_iff_eq.mpr c5
      clear c5
      obtain rfl := Option.some.inj H
      have p4 : 0 ≤ (x3_1 : Int) := of_decide_eq_true AS
      have q4 : x3_1 < (a0.size : Int) := of_decide_eq_true AS
      have hx4 := bt_at a0 x3_1
      replace p4 := eq_true p4
      replace q4 := eq_true q4
      go_wp2
      go_ret
      exact ⟨by first | rfl | (simp; done) | (simp [*]; done), DR⟩
     ·rw [if_neg c5] at H
      have c5b0 : ((bt a0 x3_1) == 32) = false := beq_eq_false_iff_ne.mpr c5
      have c5b1 : ((bt a0 x3_1) != 32) = true := bne_iff_ne.mpr c5
      by_cases c7 : (bt a0 x3_1) = 10
      ·rw [if_pos c7] at H
       have c7b0 : ((bt a0 x3_1) == 10) = true := beq_iff_eq.mpr c7
       have c7b1 : ((bt a0 x3_1) != 10) = false := bne_eq_false_iff_eq.mpr c7
       clear c7
       obtain rfl := Option.some.inj H
       have p4 : 0 ≤ (x3_1 : Int) := of_decide_eq_true AS
       have q4 : x3_1 < (a0.size : Int) := of_decide_eq_true AS
       have hx4 := bt_at a0 x3_1
       replace p4 := eq_true p4
       replace q4 := eq_true q4
       have p6 : 0 ≤ (x3_1 : Int) := of_decide_eq_true AS
       have q6 : x3_1 < (a0.size : Int) := of_decide_eq_true AS
       have hx6 := bt_at a0 x3_1
       replace p6 := eq_true p6
       replace q6 := eq_true q6
       go_wp2
       go_ret
       exact ⟨by first | rfl | (simp; done) | (simp [*]; done), DR⟩
      ·rw [if_neg c7] at H
       have c7b0 : ((bt a0 x3_1) == 10) = false := beq_eq_false_iff_ne.mpr c7
       have c7b1 : ((bt a0 x3_1) != 10) = true := bne_iff_ne.mpr c7
       have H' := Aside0.mk H
       clear H
       have p4 : 0 ≤ (x3_1 : Int) := of_decide_eq_true AS
       have q4 : x3_1 < (a0.size : Int) := of_decide_eq_true AS
       have hx4 := bt_at a0 x3_1
       replace p4 := eq_true p4
       replace q4 := eq_true q4
       have p6 : 0 ≤ (x3_1 : Int) := of_decide_eq_true AS
       have q6 : x3_1 < (a0.size : Int) := of_decide_eq_true AS
       have hx6 := bt_at a0 x3_1
       replace p6 := eq_true p6
       replace q6 := eq_true q6
       go_wp2
       go_roundg k1
       case measure => have := HK1.out; omega
       case rel => exact ⟨(wrap64 (x3_1 + 1)), RS, H', ⟨by have := HK1.out; omega⟩, DR⟩
    ·rw [if_neg c3] at H
     exact absurd H (by simp)
   ·rw [if_neg c2] at H
    have c2b0 : decide (x3_1 < (a0.size : Int)) = false := decide_eq_false c2
    clear c2
    obtain rfl := Option.some.inj H
    go_wp2
    go_ret
    exact ⟨by first | rfl | (simp; done) | (simp [*]; done), DR⟩
end Go.Proofs.Ytnlnifpehndacaa.G

namespace Go.Proofs.Ytnlnifpehndacaa.G
open Go.RowKit Go.Proofs.YtnlnifpehndacaaW.PrintWords Go.Proofs.YtnlnifpehndacaaW.PrintLast Go.Proofs.YtnlnifpehndacaaW.PrintMore Go.Proofs.Ytnlnifpehndacaa.Sh
attribute [local go_sem] max2_int min2_int max_two min_two max_three min_three max_four min_four
set_option linter.unusedVariables false
set_option linter.unusedSimpArgs false
open Go.Proofs.Ytnlnifpehndacaa.Mm
def impl_ItemOk.f (k : Nat) (a0_0 : ByteArray) (a0_1 : ByteArray) (a0_2 : Int) : Option (Bool) := (impl_within.f (a0_0.size : Int) 1 20).bind fun t327 => (if t327 = true then (if (a0_1.size : Int) ≤ 40 then ((impl_isPlain.f k a0_0).bind fun t328 => (if t328 = true then ((impl_isPlain.f k a0_1).bind fun t329 => (if t329 = true then ((impl_within.f a0_2 0 3).bind fun t330 => (some t330)) else (some false))) else (some false))) else (some false)) else (some false))
theorem impl_ItemOk.calls (k : Nat) (a0_0 : ByteArray) (a0_1 : ByteArray) (a0_2 : Int) (r : Bool) (w : World)  (h : impl_ItemOk.f k a0_0 a0_1 a0_2 = some r) :
  Calls Try.prog 93 #[.agg #[.string a0_0, .string a0_1, .int .i64 a0_2]] w fun e w' => e = .returned (.bool r) ∧ Mem w [] w' [] := by
 have hu76 := Try.underlying76
 have HM := Mem.nil w
 have H := h
 clear h
 unfold impl_ItemOk.f at H
 go_enter Try.func93, Try.ntmps93
 replace H := BN H; obtain ⟨t327, A4, H⟩ := H
 replace H := IB H
 rcases H with ⟨c6, H⟩ | ⟨c6, H⟩
 ·subst c6
  replace H := IT H; rcases H with ⟨c8, H⟩ | ⟨c8, H⟩
  ·replace c8 : (a0_1.size : Int) ≤ 40 := c8
   have c8b0 := decide_eq_true c8
   have c8b1 : decide (a0_1.size ≤ 40) = true := decide_eq_true (by omega)
   clear c8
   replace H := BN H; obtain ⟨t328, A9, H⟩ := H
   replace H := IB H
   rcases H with ⟨c11, H⟩ | ⟨c11, H⟩
   ·subst c11
    replace H := BN H; obtain ⟨t329, A13, H⟩ := H
    replace H := IB H
    rcases H with ⟨c15, H⟩ | ⟨c15, H⟩
    ·subst c15
     replace H := BN H; obtain ⟨t330, A17, H⟩ := H
     obtain rfl := Option.some.inj H
     go_wp2_with (first | ((with_reducible refine gN 1 rfl ?_); refine pB 1 76 [.string a0_0, .string a0_1, .int .i64 a0_2] HM rfl ?_; clear HM; intro gb326 w2 HM; obtain ⟨_,_,_,_,_,_⟩ := bk3 (HM.bx 0 rfl)) | ((with_reducible refine gC 66 rfl ?_); refine pC (some 6) rfl #[.int .i64 (a0_0.size : Int), .int .i64 1, .int .i64 20] rfl Try.func66 (impl_within.calls (a0_0.size : Int) 1 20 true _ A4.out) ?_; rintro e w5 ⟨rfl, hd⟩; refine ⟨_, rfl, ?_⟩; replace HM := HM.drawn hd; clear hd; obtain ⟨_,_,_,_,_,_⟩ := bk3 (HM.bx 0 rfl)) | ((with_reducible refine gC 100 rfl ?_); refine pC (some 16) rfl #[.string a0_0] rfl Try.func100 (impl_isPlain.calls k a0_0 true _ A9.out) ?_; rintro e w10 ⟨rfl, hd⟩; refine ⟨_, rfl, ?_⟩; replace HM := HM.drawn hd; clear hd; obtain ⟨_,_,_,_,_,_⟩ := bk3 (HM.bx 0 rfl)) | ((with_reducible refine gC 100 rfl ?_); refine pC (some 21) rfl #[.string a0_1] rfl Try.func100 (impl_isPlain.calls k a0_1 true _ A13.out) ?_; rintro e w14 ⟨rfl, hd⟩; refine ⟨_, rfl, ?_⟩; replace HM := HM.drawn hd; clear hd; obtain ⟨_,_,_,_,_,_⟩ := bk3 (HM.bx 0 rfl)) | ((with_reducible refine gC 66 rfl ?_); refine pC (some 26) rfl #[.int .i64 a0_2, .int .i64 0, .int .i64 3] rfl Try.func66 (impl_within.calls a0_2 0 3 t330 _ A17.out) ?_; rintro e w18 ⟨rfl, hd⟩; refine ⟨_, rfl, ?_⟩; replace HM := HM.drawn hd; clear hd))
     go_ret
     exact ⟨ER, (MD HM).pick []⟩
    ·subst c15
     obtain rfl := Option.some.inj H
     go_wp2_with (first | ((with_reducible refine gN 1 rfl ?_); refine pB 1 76 [.string a0_0, .string a0_1, .int .i64 a0_2] HM rfl ?_; clear HM; intro gb326 w2 HM; obtain ⟨_,_,_,_,_,_⟩ := bk3 (HM.bx 0 rfl)) | ((with_reducible refine gC 66 rfl ?_); refine pC (some 6) rfl #[.int .i64 (a0_0.size : Int), .int .i64 1, .int .i64 20] rfl Try.func66 (impl_within.calls (a0_0.size : Int) 1 20 true _ A4.out) ?_; rintro e w5 ⟨rfl, hd⟩; refine ⟨_, rfl, ?_⟩; replace HM := HM.drawn hd; clear hd; obtain ⟨_,_,_,_,_,_⟩ := bk3 (HM.bx 0 rfl)) | ((with_reducible refine gC 100 rfl ?_); refine pC (some 16) rfl #[.string a0_0] rfl Try.func100 (impl_isPlain.calls k a0_0 true _ A9.out) ?_; rintro e w10 ⟨rfl, hd⟩; refine ⟨_, rfl, ?_⟩; replace HM := HM.drawn hd; clear hd; obtain ⟨_,_,_,_,_,_⟩ := bk3 (HM.bx 0 rfl)) | ((with_reducible refine gC 100 rfl ?_); refine pC (some 21) rfl #[.string a0_1] rfl Try.func100 (impl_isPlain.calls k a0_1 false _ A13.out) ?_; rintro e w14 ⟨rfl, hd⟩; refine ⟨_, rfl, ?_⟩; replace HM := HM.drawn hd; clear hd))
     go_ret
     exact ⟨ER, (MD HM).pick []⟩
   ·subst c11
    obtain rfl := Option.some.inj H
    go_wp2_with (first | ((with_reducible refine gN 1 rfl ?_); refine pB 1 76 [.string a0_0, .string a0_1, .int .i64 a0_2] HM rfl ?_; clear HM; intro gb326 w2 HM; obtain ⟨_,_,_,_,_,_⟩ := bk3 (HM.bx 0 rfl)) | ((with_reducible refine gC 66 rfl ?_); refine pC (some 6) rfl #[.int .i64 (a0_0.size : Int), .int .i64 1, .int .i64 20] rfl Try.func66 (impl_within.calls (a0_0.size : Int) 1 20 true _ A4.out) ?_; rintro e w5 ⟨rfl, hd⟩; refine ⟨_, rfl, ?_⟩; replace HM := HM.drawn hd; clear hd; obtain ⟨_,_,_,_,_,_⟩ := bk3 (HM.bx 0 rfl)) | ((with_reducible refine gC 100 rfl ?_); refine pC (some 16) rfl #[.string a0_0] rfl Try.func100 (impl_isPlain.calls k a0_0 false _ A9.out) ?_; rintro e w10 ⟨rfl, hd⟩; refine ⟨_, rfl, ?_⟩; replace HM := HM.drawn hd; clear hd))
    go_ret
    exact ⟨ER, (MD HM).pick []⟩
  ·replace c8 : ¬ ((a0_1.size : Int) ≤ 40) := c8
   have c8b0 := decide_eq_false c8
   have c8b1 : decide (a0_1.size ≤ 40) = false := decide_eq_false (by omega)
   clear c8
   obtain rfl := Option.some.inj H
   go_wp2_with (first | ((with_reducible refine gN 1 rfl ?_); refine pB 1 76 [.string a0_0, .string a0_1, .int .i64 a0_2] HM rfl ?_; clear HM; intro gb326 w2 HM; obtain ⟨_,_,_,_,_,_⟩ := bk3 (HM.bx 0 rfl)) | ((with_reducible refine gC 66 rfl ?_); refine pC (some 6) rfl #[.int .i64 (a0_0.size : Int), .int .i64 1, .int .i64 20] rfl Try.func66 (impl_within.calls (a0_0.size : Int) 1 20 true _ A4.out) ?_; rintro e w5 ⟨rfl, hd⟩; refine ⟨_, rfl, ?_⟩; replace HM := HM.drawn hd; clear hd; obtain ⟨_,_,_,_,_,_⟩ := bk3 (HM.bx 0 rfl)))
   go_ret
   exact ⟨ER, (MD HM).pick []⟩
 ·subst c6
  obtain rfl := Option.some.inj H
  go_wp2_with (first | ((with_reducible refine gN 1 rfl ?_); refine pB 1 76 [.string a0_0, .string a0_1, .int .i64 a0_2] HM rfl ?_; clear HM; intro gb326 w2 HM; obtain ⟨_,_,_,_,_,_⟩ := bk3 (HM.bx 0 rfl)) | ((with_reducible refine gC 66 rfl ?_); refine pC (some 6) rfl #[.int .i64 (a0_0.size : Int), .int .i64 1, .int .i64 20] rfl Try.func66 (impl_within.calls (a0_0.size : Int) 1 20 false _ A4.out) ?_; rintro e w5 ⟨rfl, hd⟩; refine ⟨_, rfl, ?_⟩; replace HM := HM.drawn hd; clear hd))
  go_ret
  exact ⟨ER, (MD HM).pick []⟩
end Go.Proofs.Ytnlnifpehndacaa.G

namespace Go.Proofs.Ytnlnifpehndacaa.G
open Go.RowKit Go.Proofs.YtnlnifpehndacaaW.PrintWords Go.Proofs.YtnlnifpehndacaaW.PrintLast Go.Proofs.YtnlnifpehndacaaW.PrintMore Go.Proofs.Ytnlnifpehndacaa.Sh
attribute [local go_sem] max2_int min2_int max_two min_two max_three min_three max_four min_four
set_option linter.unusedVariables false
set_option linter.unusedSimpArgs false
open Go.Proofs.Ytnlnifpehndacaa.Man
theorem impl_itemAt.closure (key : ByteArray) (B : Nat) (W : World) (x0 x1 : ByteArray) (x2 : Int) (hcell : W.cell? ⟨B, 0, none⟩ = some (.string key)) (hB : B < W.heap.size) :
  Calls Try.prog 102 #[.agg #[.string x0, .string x1, .int .i64 x2], .pointer (some ⟨B, 0, none⟩)] W fun e w' => e = .returned (.bool (x0.toList == key.toList)) ∧ Below W.heap.size W w' := by
 have hne : B ≠ W.heap.size := by omega
 have hu := Try.underlying76
 go_enter Try.func102, Try.ntmps102
 go_wp2
 go_ret
 exact ⟨rfl, by repeat (first | exact Below.refl _ _ | apply below_alloc)⟩
def impl_itemAt.idx (key : ByteArray) : List S76 → Nat → Int
 | [], _ => -1
 | x :: r, i => if x.f0.toList = key.toList then (i : Int) else impl_itemAt.idx key r (i + 1)
theorem impl_itemAt.idx_at (key : ByteArray) (l : List S76) (i : Nat) (h : i < l.length) : impl_itemAt.idx key (l.drop i) i = if (rd_T76 l (i : Int)).f0.toList = key.toList then (i : Int) else impl_itemAt.idx key (l.drop (i + 1)) (i + 1) := by
 rw [List.drop_eq_getElem_cons h, impl_itemAt.idx]
 have e : rd_T76 l (i : Int) = l[i] := by
  show l.getD (i : Int).toNat _ = _
  simp [List.getD_eq_getElem?_getD, h]
 rw [e]
theorem impl_itemAt.idx_end (key : ByteArray) (l : List S76) (i : Nat) (h : ¬ i < l.length) : impl_itemAt.idx key (l.drop i) i = -1 := by
 rw [List.drop_of_length_le (by omega)]; rfl
set_option maxHeartbeats 1000000 in
theorem impl_itemAt.indexFunc (key : ByteArray) (B : Nat) (A0 : Option Addr) (c0 : Nat) (l0 : List S76) (w : World) (hcell : w.cell? ⟨B, 0, none⟩ = some (.string key)) (hB : B < w.heap.size) (hr0 : Kd.C k76 w A0 l0.length l0) (hc0 : l0.length ≤ c0) :
  Calls Try.prog 101 #[.slice A0 l0.length c0, .func (.func 102) #[] #[.pointer (some ⟨B, 0, none⟩)]] w fun e w' => e = .returned (.int .i64 (impl_itemAt.idx key l0 0)) ∧ Below w.heap.size w w' := by
 have HR0 := Aside0.mk hr0
 have HC0 := Aside0.mk hc0
 have HL := Aside0.mk (show l0.length ≤ 9223372036854775807 from hr0.2.1)
 have HX := Aside0.mk hcell
 have HBB := Aside0.mk hB
 clear hr0 hc0 hcell hB
 have HB := Aside0.mk (Below.refl w.heap.size w)
 obtain ⟨R, hR⟩ : ∃ R, R = impl_itemAt.idx key l0 0 := ⟨_, rfl⟩
 rw [← hR]
 have HN := Aside0.mk (show impl_itemAt.idx key (l0.drop 0) 0 = R from hR.symm)
 clear hR
 go_enter Try.func101, Try.ntmps101
 go_wp2
 go_loopg [5, 8] l0.length (fun kq _ v8 w' => ∃ x : Int, v8 = .int .i64 x ∧ Aside0 (∃ n : Nat, x = (n : Int) ∧ impl_itemAt.idx key (l0.drop n) n = R ∧ n + kq = l0.length) ∧ Aside0 (Below w.heap.size w w'))
 case atStart => exact ⟨0, rfl, ⟨0, rfl, HN.out, Nat.zero_add _⟩, HB⟩
 case round =>
  clear HN
  obtain ⟨x, rfl, HN, HB⟩ := hrel
  have hcl : ∀ y : S76, Calls Try.prog 102 #[.agg #[.string y.f0, .string y.f1, .int .i64 y.f2], .pointer (some ⟨B, 0, none⟩)] wr fun e w' => e = .returned (.bool (y.f0.toList == key.toList)) ∧ Below wr.heap.size wr w' := fun y => impl_itemAt.closure key B wr y.f0 y.f1 y.f2 ((HB.out.cell (World.block_lt_of_cell? w _ HX.out)).trans HX.out) (Nat.lt_of_lt_of_le HBB.out HB.out.size)
  by_cases hlt : x < (l0.length : Int)
  ·have hd : decide (x < (l0.length : Int)) = true := decide_eq_true hlt
   have hn0 : 0 ≤ x := by obtain ⟨n, rfl, _⟩ := HN.out; exact Int.natCast_nonneg n
   obtain ⟨ad, hA, hx0, hx1, hx2⟩ := at_T76 HR0.out x hn0 hlt
   subst hA
   replace hx0 := (HB.out.cell (World.block_lt_of_cell? w _ hx0)).trans hx0
   replace hx1 := (HB.out.cell (World.block_lt_of_cell? w _ hx1)).trans hx1
   replace hx2 := (HB.out.cell (World.block_lt_of_cell? w _ hx2)).trans hx2
   have hcall := hcl (rd_T76 l0 x)
   clear hcl
   have H0 := Aside0.mk hn0
   have H1 := Aside0.mk hlt
   replace hn0 := eq_true hn0
   replace hlt := eq_true hlt
   obtain ⟨y, hy⟩ : ∃ y, rd_T76 l0 x = y := ⟨_, rfl⟩
   rw [hy] at hx0 hx1 hx2 hcall
   have HY := Aside0.mk hy
   clear hy
   by_cases c : y.f0.toList = key.toList
   ·rw [show (y.f0.toList == key.toList) = true from beq_iff_eq.mpr c] at hcall
    have C := Aside0.mk c
    clear c
    go_wp2_with fail
    refine hcall.mono ?_
    rintro e w' ⟨rfl, hb'⟩
    have HB' := Aside0.mk hb'
    clear hb' hcall
    go_wp2
    go_ret
    refine ⟨?_, below_step HB.out HB'.out⟩
    obtain ⟨n, rfl, hn, hk⟩ := HN.out
    have e := impl_itemAt.idx_at key l0 n (Int.ofNat_lt.mp H1.out)
    rw [HY.out, if_pos C.out, hn] at e
    rw [e]
    rfl
   ·rw [show (y.f0.toList == key.toList) = false from beq_eq_false_iff_ne.mpr c] at hcall
    have C := Aside0.mk c
    clear c
    go_wp2_with fail
    refine hcall.mono ?_
    rintro e w' ⟨rfl, hb'⟩
    have HB' := Aside0.mk hb'
    clear hb' hcall
    go_wp2
    obtain ⟨n, rfl, hn, hk⟩ := HN.out
    have hlt' := Int.ofNat_lt.mp H1.out
    go_roundg (gk - 1)
    case measure => omega
    case rel =>
     have e := impl_itemAt.idx_at key l0 n hlt'
     rw [HY.out, if_neg C.out, hn] at e
     exact ⟨_, rfl, ⟨n + 1, wsucc_ (by have := HL.out; omega), e.symm, by omega⟩, ⟨below_step HB.out HB'.out⟩⟩
  ·have hd : decide (x < (l0.length : Int)) = false := decide_eq_false hlt
   clear hcl
   have HLT := Aside0.mk hlt
   clear hlt
   go_wp2
   go_ret
   obtain ⟨n, rfl, hn, hk⟩ := HN.out
   have hlt' := HLT.out
   rw [impl_itemAt.idx_end key l0 n (by omega)] at hn
   exact ⟨by rw [← hn]; rfl, HB.out⟩
def impl_itemAt.f (l0 : List S76) (a1 : ByteArray) : Option Int := some (impl_itemAt.idx a1 l0 0)
theorem impl_itemAt.calls (A0 : Option Addr) (c0 : Nat) (l0 : List S76) (a1 : ByteArray) (r : Int) (w : World) (hr0 : Kd.C k76 w A0 l0.length l0) (hc0 : l0.length ≤ c0) (h : impl_itemAt.f l0 a1 = some r) :
  Calls Try.prog 94 #[.slice A0 l0.length c0, .string a1] w fun e w' => e = .returned (.int .i64 r) ∧ Below w.heap.size w w' := by
 obtain rfl := Option.some.inj h
 have hb0 : Below w.heap.size w (w.alloc (.cells #[.string a1] 9)) := below_alloc (Below.refl _ w) _
 have hcall := impl_itemAt.indexFunc a1 w.heap.size A0 c0 l0 (w.alloc (.cells #[.string a1] 9)) (by simp) (by simp) (Kd.C_below hr0 hb0) hc0
 have HB := Aside0.mk hb0
 clear h hr0 hc0 hb0
 obtain ⟨R, hR⟩ : ∃ R, R = impl_itemAt.idx a1 l0 0 := ⟨_, rfl⟩
 rw [← hR] at hcall ⊢
 have HR := Aside0.mk hR
 clear hR
 go_enter Try.func94, Try.ntmps94
 go_wp2_with fail
 refine hcall.mono ?_
 rintro e w' ⟨rfl, hb'⟩
 have HB' := Aside0.mk hb'
 clear hb' hcall
 go_wp2
 go_ret
 exact ⟨rfl, below_step HB.out HB'.out⟩
end Go.Proofs.Ytnlnifpehndacaa.G

namespace Go.Proofs.Ytnlnifpehndacaa.G
open Go.RowKit Go.Proofs.YtnlnifpehndacaaW.PrintWords Go.Proofs.YtnlnifpehndacaaW.PrintLast Go.Proofs.YtnlnifpehndacaaW.PrintMore Go.Proofs.Ytnlnifpehndacaa.Sh
attribute [local go_sem] max2_int min2_int max_two min_two max_three min_three max_four min_four
set_option linter.unusedVariables false
set_option linter.unusedSimpArgs false
open Go.Proofs.Ytnlnifpehndacaa.Mm
def impl_areItems.l0 : Nat → List (S76) → List (S76) → Int → Int → Option (Bool)
 | 0, _, _, _, _ => none
 | k + 1, x0, x5, x6, x7 => if x7 < x6 then (if 0 ≤ x7 then (if x7 < (x5.length : Int) then ((impl_ItemOk.f k ((rd_T76 x5 x7).f0) ((rd_T76 x5 x7).f1) ((rd_T76 x5 x7).f2)).bind fun t376 => (if t376 = true then ((impl_itemAt.f x0 ((rd_T76 x5 x7).f0)).bind fun t377 => (if t377 = x7 then (impl_areItems.l0 k x0 x5 x6 (wrap64 (x7 + 1))) else (some false))) else (some false))) else (none)) else (none)) else (some true)
def impl_areItems.f (k : Nat) (l0 : List (S76)) : Option (Bool) := impl_areItems.l0 k l0 l0 (l0.length : Int) 0
theorem impl_areItems.calls (k : Nat) (A0 : Option Addr) (c0 : Nat) (l0 : List (S76)) (r : Bool) (w : World) (hr0 : Kd.C k76 w A0 l0.length l0) (hc0 : l0.length ≤ c0) (h : impl_areItems.f k l0 = some r) :
  Calls Try.prog 71 #[.slice A0 l0.length c0] w fun e w' => e = .returned (.bool r) ∧ Mem w [] w' [] := by
 have hu76 := Try.underlying76
 have HR0 := Aside0.mk hr0
 have HC0 := Aside0.mk hc0
 clear hr0 hc0
 have HM := Mem.nil w
 have H := h
 clear h
 unfold impl_areItems.f at H
 go_enter Try.func71, Try.ntmps71
 have H' := Aside0.mk H
 clear H
 go_wp2
 go_loopg [7] k (fun kq v7 w' => ∃ (x7_1 : Int), v7 = .int .i64 x7_1 ∧ Aside0 (impl_areItems.l0 kq l0 l0 (l0.length : Int) x7_1 = some r) ∧ Aside0 (kq ≤ k) ∧ Mem w [] w' [])
 case atStart => exact ⟨(0), RS, H', ⟨Nat.le_refl _⟩, (MD HM).pick []⟩
 case round =>
  clear H' HM
  obtain ⟨x7_1, rfl, HA, HK1, HM⟩ := hrel
  cases gk with
  | zero => exact absurd HA.out (by simp [impl_areItems.l0])
  | succ k1 =>
   have H := HA.out
   clear HA
   simp only [impl_areItems.l0] at H
   go_upto_if 8 with (fail)
   replace H := IT H; rcases H with ⟨c2, H⟩ | ⟨c2, H⟩
   ·have c2b0 := decide_eq_true c2
    clear c2
    first|rw [c2b0]|(simp only [i64_w, i32_w]; rw [c2b0])|skip
    replace H := GD H; obtain ⟨c3, H⟩ := H
    have c3b0 := decide_eq_true c3
    clear c3
    replace H := GD H; obtain ⟨c4, H⟩ := H
    have c4b0 := decide_eq_true c4
    clear c4
    replace H := BN H; obtain ⟨t376, A8, H⟩ := H
    replace H := IB H
    rcases H with ⟨c10, H⟩ | ⟨c10, H⟩
    ·subst c10
     replace H := BN H; obtain ⟨t377, A12, H⟩ := H
     have p374 : 0 ≤ (x7_1 : Int) := of_decide_eq_true AS
     have q374 : (x7_1 : Int) < (l0.length : Int) := of_decide_eq_true AS
     obtain ⟨ad374, e374, hx374_0, hx374_1, hx374_2⟩ := at_T76 (HM.came HR0.out) x7_1 p374 q374
     cases e374
     replace p374 := eq_true p374
     replace q374 := eq_true q374
     go_upto_if 22 with (first | ((with_reducible refine gN 4 rfl ?_); refine pB 4 76 [.string (⟨#[]⟩ : ByteArray), .string (⟨#[]⟩ : ByteArray), .int .i64 0] HM rfl ?_; clear HM; intro gb375 w5 HM) | ((with_reducible refine gS 4 rfl ?_); refine pS 0 4 0 [.string ((rd_T76 l0 x7_1).f0), .string ((rd_T76 l0 x7_1).f1), .int .i64 ((rd_T76 l0 x7_1).f2)] HM rfl rfl ?_; clear HM; intro w6 HM; obtain ⟨_,_,_,_,_,_⟩ := bk3 (HM.bx 0 rfl)) | ((with_reducible refine gC 93 rfl ?_); refine pC (some 13) rfl #[.agg #[.string ((rd_T76 l0 x7_1).f0), .string ((rd_T76 l0 x7_1).f1), .int .i64 ((rd_T76 l0 x7_1).f2)]] rfl Try.func93 (impl_ItemOk.calls k1 ((rd_T76 l0 x7_1).f0) ((rd_T76 l0 x7_1).f1) ((rd_T76 l0 x7_1).f2) true _ A8.out) ?_; rintro e w9 ⟨rfl, hR⟩; refine ⟨_, rfl, ?_⟩; replace HM := HM.call hR; clear hR; obtain ⟨_,_,_,_,_,_⟩ := bk3 (HM.bx 0 rfl)) | ((with_reducible refine gC 94 rfl ?_); refine pC (some 19) rfl #[.slice (some ad374) l0.length c0, .string ((rd_T76 l0 x7_1).f0)] rfl Try.func94 (impl_itemAt.calls (some ad374) c0 l0 ((rd_T76 l0 x7_1).f0) t377 _ (HM.came HR0.out) HC0.out A12.out) ?_; rintro e w13 ⟨rfl, hb⟩; refine ⟨_, rfl, ?_⟩; replace HM := HM.below hb; clear hb))
     replace HM := nzM HM
     replace H := IT H; rcases H with ⟨c14, H⟩ | ⟨c14, H⟩
     ·obtain ⟨c14b0, c14b1⟩ := BE c14
      clear c14
      first|rw [c14b0]|(simp only [i64_w, i32_w]; rw [c14b0])|skip
      have H' := Aside0.mk H
      clear H
      go_wp2
      go_roundg k1
      case measure => have := HK1.out; omega
      case rel => exact ⟨(wrap64 (x7_1 + 1)), RS, H', ⟨by have := HK1.out; omega⟩, (MD HM).pick []⟩
     ·obtain ⟨c14b0, c14b1⟩ := BF c14
      first|rw [c14b0]|(simp only [i64_w, i32_w]; rw [c14b0])|skip
      obtain rfl := Option.some.inj H
      go_wp2
      go_ret
      exact ⟨ER, (MD HM).pick []⟩
    ·subst c10
     obtain rfl := Option.some.inj H
     have p374 : 0 ≤ (x7_1 : Int) := of_decide_eq_true AS
     have q374 : (x7_1 : Int) < (l0.length : Int) := of_decide_eq_true AS
     obtain ⟨ad374, e374, hx374_0, hx374_1, hx374_2⟩ := at_T76 (HM.came HR0.out) x7_1 p374 q374
     cases e374
     replace p374 := eq_true p374
     replace q374 := eq_true q374
     go_wp2_with (first | ((with_reducible refine gN 4 rfl ?_); refine pB 4 76 [.string (⟨#[]⟩ : ByteArray), .string (⟨#[]⟩ : ByteArray), .int .i64 0] HM rfl ?_; clear HM; intro gb375 w5 HM) | ((with_reducible refine gS 4 rfl ?_); refine pS 0 4 0 [.string ((rd_T76 l0 x7_1).f0), .string ((rd_T76 l0 x7_1).f1), .int .i64 ((rd_T76 l0 x7_1).f2)] HM rfl rfl ?_; clear HM; intro w6 HM; obtain ⟨_,_,_,_,_,_⟩ := bk3 (HM.bx 0 rfl)) | ((with_reducible refine gC 93 rfl ?_); refine pC (some 13) rfl #[.agg #[.string ((rd_T76 l0 x7_1).f0), .string ((rd_T76 l0 x7_1).f1), .int .i64 ((rd_T76 l0 x7_1).f2)]] rfl Try.func93 (impl_ItemOk.calls k1 ((rd_T76 l0 x7_1).f0) ((rd_T76 l0 x7_1).f1) ((rd_T76 l0 x7_1).f2) false _ A8.out) ?_; rintro e w9 ⟨rfl, hR⟩; refine ⟨_, rfl, ?_⟩; replace HM := HM.call hR; clear hR))
     go_ret
     exact ⟨ER, (MD HM).pick []⟩
   ·have c2b0 := decide_eq_false c2
    clear c2
    first|rw [c2b0]|(simp only [i64_w, i32_w]; rw [c2b0])|skip
    obtain rfl := Option.some.inj H
    go_wp2
    go_ret
    exact ⟨ER, (MD HM).pick []⟩
mutual
def impl_ThreeOk.j0 : Nat → Bool → Int → Int → List (S76) → List (S76) → List Int → Option (Bool)
 | 0, _, _, _, _, _, _ => none
 | k + 1, x24, x379000, x379001, x379002, x379003, x379004 => if x24 = true then (some false) else (impl_ThreeOk.l0 k x379004 (x379004.length : Int) 0 x379000 x379001 x379002 x379003 x379004)
def impl_ThreeOk.l0 : Nat → List Int → Int → Int → Int → Int → List (S76) → List (S76) → List Int → Option (Bool)
 | 0, _, _, _, _, _, _, _, _ => none
 | k + 1, x26, x27, x28, x379000, x379001, x379002, x379003, x379004 => if x28 < x27 then (if 0 ≤ x28 then (if x28 < (x26.length : Int) then ((impl_isNum.f (rd x26 x28)).bind fun t390 => (if t390 = true then (if x28 ≤ (x379004.length : Int) then ((slices_Contains_int_int.f k (x379004.take (x28 : Int).toNat) (rd x26 x28)).bind fun t392 => (if t392 = true then (some false) else (impl_ThreeOk.l0 k x26 x27 (wrap64 (x28 + 1)) x379000 x379001 x379002 x379003 x379004))) else (none)) else (some false))) else (none)) else (none)) else ((impl_copyItems.f x379002).bind fun t382 => (if t382.length + x379003.length < 3518437208883 then ((some (t382 ++ x379003 : List (S76))).bind fun y385 => (if (y385.length : Int) ≤ x379000 then ((impl_areItems.f k y385).bind fun t388 => (some t388)) else (some false))) else (none)))
end
def impl_ThreeOk.f (k : Nat) (a0_0 : Int) (a0_1 : Int) (l0_2 : List (S76)) (l0_3 : List (S76)) (l0_4 : List Int) : Option (Bool) := (impl_within.f a0_0 1 60).bind fun t379 => (if t379 = true then ((impl_within.f a0_1 1 a0_0).bind fun t380 => (if t380 = true then ((impl_Three_ghosts.f a0_0 a0_1).bind fun t381 => (impl_ThreeOk.j0 k (decide ((l0_4.length : Int) > t381)) a0_0 a0_1 l0_2 l0_3 l0_4)) else (impl_ThreeOk.j0 k true a0_0 a0_1 l0_2 l0_3 l0_4))) else (impl_ThreeOk.j0 k true a0_0 a0_1 l0_2 l0_3 l0_4))
def impl_ThreeOk.T1 : Bool × List (List Nat × List Nat) := (true, [([], []), ([0], [0]), ([1], [1]), ([2], [2]), ([3, 2], [3]), ([4], [4]), ([5, 4], [4, 5]), ([4], [4]), ([7, 4], [4, 7]), ([6, 8, 4, 4], [4, 6, 8]), ([9, 4], [4, 9]), ([4, 10], [4, 10]), ([11, 9], [11]), ([12], [12]), ([13, 12], [12, 13]), ([14, 12], [12, 14]), ([12, 12], [12]), ([15, 16, 12], [12, 15, 16]), ([12, 17], [12, 17])])
def impl_ThreeOk.B1 : List Nat := [0, 1, 3, 7, 15, 31, 63, 31, 159, 511, 1023, 2047, 4095, 8191, 16383, 32767, 8191, 131071, 262143]
theorem impl_ThreeOk.tab1 : rtab .any (opsOf Try.f29 1) = impl_ThreeOk.T1 := by kernel_rfl
theorem impl_ThreeOk.bits1 : waitsOk impl_ThreeOk.T1.2 impl_ThreeOk.B1 = true := by kernel_rfl
def impl_ThreeOk.T9 : Bool × List (List Nat × List Nat) := (true, [([], []), ([0], [0]), ([1], [1]), ([], []), ([3], [3]), ([2, 4, 2], [2, 4]), ([5, 5, 0, 1, 2, 3, 4, 5], [5])])
def impl_ThreeOk.B9 : List Nat := [0, 1, 3, 0, 8, 31, 63]
theorem impl_ThreeOk.tab9 : rtab .any (opsOf Try.f29 9) = impl_ThreeOk.T9 := by kernel_rfl
theorem impl_ThreeOk.bits9 : waitsOk impl_ThreeOk.T9.2 impl_ThreeOk.B9 = true := by kernel_rfl
theorem impl_ThreeOk.calls (k : Nat) (a0_0 : Int) (a0_1 : Int) (A0_2 : Option Addr) (c0_2 : Nat) (l0_2 : List (S76)) (A0_3 : Option Addr) (c0_3 : Nat) (l0_3 : List (S76)) (A0_4 : Option Addr) (c0_4 : Nat) (l0_4 : List Int) (r : Bool) (w : World) (hr0_2 : Kd.C k76 w A0_2 l0_2.length l0_2) (hc0_2 : l0_2.length ≤ c0_2) (hr0_3 : Kd.C k76 w A0_3 l0_3.length l0_3) (hc0_3 : l0_3.length ≤ c0_3) (hr0_4 : Kd.C (Kd.int .i64) w A0_4 l0_4.length l0_4) (hc0_4 : l0_4.length ≤ c0_4) (h : impl_ThreeOk.f k a0_0 a0_1 l0_2 l0_3 l0_4 = some r) :
  Calls Try.prog 29 #[.agg #[.int .i64 a0_0, .int .i64 a0_1, .slice A0_2 l0_2.length c0_2, .slice A0_3 l0_3.length c0_3, .slice A0_4 l0_4.length c0_4]] w fun e w' => e = .returned (.bool r) ∧ Mem w [] w' [] := by
 have hu25 := Try.underlying25
 have HR0_2 := Aside0.mk hr0_2
 have HC0_2 := Aside0.mk hc0_2
 clear hr0_2 hc0_2
 have HR0_3 := Aside0.mk hr0_3
 have HC0_3 := Aside0.mk hc0_3
 clear hr0_3 hc0_3
 have HR0_4 := Aside0.mk hr0_4
 have HC0_4 := Aside0.mk hc0_4
 clear hr0_4 hc0_4
 have HM := Mem.nil w
 have H := h
 clear h
 unfold impl_ThreeOk.f at H
 go_enter Try.func29, Try.ntmps29
 have HC3 := Aside0.mk H
 clear H
 go_upto_region 1 with (first | ((with_reducible refine gN 1 rfl ?_); refine pB 1 25 [.int .i64 a0_0, .int .i64 a0_1, .slice A0_2 l0_2.length c0_2, .slice A0_3 l0_3.length c0_3, .slice A0_4 l0_4.length c0_4] HM rfl ?_; clear HM; intro gb378 w2 HM))
 go_cut [24] (fun v24 wc => ∃ (kq : Nat) (x24_2 : Bool), v24 = .bool x24_2 ∧ Aside0 (impl_ThreeOk.j0 kq x24_2 a0_0 a0_1 l0_2 l0_3 l0_4 = some r) ∧ Aside0 (kq ≤ k) ∧ Mem w [] wc [box 25 gb378 [.int .i64 a0_0, .int .i64 a0_1, .slice A0_2 l0_2.length c0_2, .slice A0_3 l0_3.length c0_3, .slice A0_4 l0_4.length c0_4]])
 case first =>
  have H := HC3.out
  clear HC3
  try go_wp2
  replace H := BN H; obtain ⟨t379, A4, H⟩ := H
  replace H := IB H
  rcases H with ⟨c5, H⟩ | ⟨c5, H⟩
  ·subst c5
   replace H := BN H; obtain ⟨t380, A6, H⟩ := H
   replace H := IB H
   rcases H with ⟨c7, H⟩ | ⟨c7, H⟩
   ·subst c7
    replace H := BN H; obtain ⟨t381, A8, H⟩ := H
    refine RGN 19 [0, 1, 2, 3, 4, 5, 6, 7, 8, 9, 10, 11, 12, 13, 14, 15, 16, 17, 18] (fun a0 b a w' => a = putSel a0 b [(0, 6, .pointer (some ⟨gb378, 0, none⟩)), (1, 7, .int .i64 a0_0), (2, 8, .bool true), (3, 9, .bool (!true)), (4, 10, .bool (!true)), (5, 11, .pointer (some ⟨gb378, 1, none⟩)), (6, 12, .int .i64 a0_1), (7, 13, .pointer (some ⟨gb378, 0, none⟩)), (8, 14, .int .i64 a0_0), (9, 15, .bool true), (10, 16, .bool (!true)), (11, 17, .bool (!true)), (12, 18, .bool (!true)), (13, 19, .pointer (some ⟨gb378, 4, none⟩)), (14, 20, .slice A0_4 l0_4.length c0_4), (15, 21, .int .i64 (l0_4.length : Int)), (16, 22, .int .i64 t381), (17, 23, .bool (decide ((l0_4.length : Int) > t381))), (18, 24, .bool (decide ((l0_4.length : Int) > t381)))] ∧ Mem w [] w' [box 25 gb378 [.int .i64 a0_0, .int .i64 a0_1, .slice A0_2 l0_2.length c0_2, .slice A0_3 l0_3.length c0_3, .slice A0_4 l0_4.length c0_4]]) impl_ThreeOk.tab1 impl_ThreeOk.bits1 ?_ ?_ ?_
    ·exact ⟨PS0' rfl _, (HM.drew).pick [0]⟩
    ·clear HM
     refine SY ?_ ?_
     ·intro b a w ha HM hb hon hoff K hK
      have e1 := PG ha 1
      exact VL (.pointer (some ⟨gb378, 0, none⟩)) (hK.out _ _ ⟨PUT ha 0 hb, HM⟩)
     refine SY ?_ ?_
     ·intro b a w ha HM hb hon hoff K hK
      obtain ⟨_,_,_,_,_,_,_,_,_,_⟩ := bk5 (HM.bx 0 rfl)
      have e6 := PE ha 0 hon
      exact VL (.int .i64 a0_0) (hK.out _ _ ⟨PUT ha 1 hb, HM⟩)
     refine SY ?_ ?_
     ·intro b a w ha HM hb hon hoff K hK
      have e7 := PE ha 1 hon
      refine ST (eC (some 8) rfl #[.int .i64 a0_0, .int .i64 1, .int .i64 60] rfl Try.func66 (impl_within.calls a0_0 1 60 true _ A4.out) ?_ (hargs := by (simp only [List.map_toArray, List.map_cons, List.map_nil, evc, eval_of e7]) <;> rfl))
      rintro e w17 ⟨rfl, hd⟩
      refine ⟨_, rfl, ?_⟩
      replace HM := HM.drawn hd
      clear hd
      exact hK.out _ _ ⟨PUT ha 2 hb, (HM).pick [0]⟩
     refine SY ?_ ?_
     ·intro b a w ha HM hb hon hoff K hK
      have e8 := PE ha 2 hon
      exact VL (.bool (!true)) (hK.out _ _ ⟨PUT ha 3 hb, HM⟩)
     refine SY ?_ ?_
     ·intro b a w ha HM hb hon hoff K hK
      have e9 := PE ha 3 hon
      exact VL (.bool (!true)) (hK.out _ _ ⟨PUT ha 4 hb, HM⟩)
     refine SY ?_ ?_
     ·intro b a w ha HM hb hon hoff K hK
      have e1 := PG ha 1
      have e10 := PE ha 4 hon
      exact VL (.pointer (some ⟨gb378, 1, none⟩)) (hK.out _ _ ⟨PUT ha 5 hb, HM⟩) (hw := wanted_on rfl rfl rfl (e10.trans (by first | rfl | (simp [*]; done))))
     refine SY ?_ ?_
     ·intro b a w ha HM hb hon hoff K hK
      obtain ⟨_,_,_,_,_,_,_,_,_,_⟩ := bk5 (HM.bx 0 rfl)
      have e11 := PE ha 5 hon
      have e10 := PE ha 4 hon
      exact VL (.int .i64 a0_1) (hK.out _ _ ⟨PUT ha 6 hb, HM⟩) (hw := wanted_on rfl rfl rfl (e10.trans (by first | rfl | (simp [*]; done))))
     refine SY ?_ ?_
     ·intro b a w ha HM hb hon hoff K hK
      have e1 := PG ha 1
      have e10 := PE ha 4 hon
      exact VL (.pointer (some ⟨gb378, 0, none⟩)) (hK.out _ _ ⟨PUT ha 7 hb, HM⟩) (hw := wanted_on rfl rfl rfl (e10.trans (by first | rfl | (simp [*]; done))))
     refine SY ?_ ?_
     ·intro b a w ha HM hb hon hoff K hK
      obtain ⟨_,_,_,_,_,_,_,_,_,_⟩ := bk5 (HM.bx 0 rfl)
      have e13 := PE ha 7 hon
      have e10 := PE ha 4 hon
      exact VL (.int .i64 a0_0) (hK.out _ _ ⟨PUT ha 8 hb, HM⟩) (hw := wanted_on rfl rfl rfl (e10.trans (by first | rfl | (simp [*]; done))))
     refine SY ?_ ?_
     ·intro b a w ha HM hb hon hoff K hK
      have e12 := PE ha 6 hon
      have e14 := PE ha 8 hon
      have e10 := PE ha 4 hon
      refine ST (eC (some 15) rfl #[.int .i64 a0_1, .int .i64 1, .int .i64 a0_0] rfl Try.func66 (impl_within.calls a0_1 1 a0_0 true _ A6.out) ?_ (hargs := by (simp only [List.map_toArray, List.map_cons, List.map_nil, evc, eval_of e12, eval_of e14]) <;> rfl)) (hw := wanted_on rfl rfl rfl (e10.trans (by first | rfl | (simp [*]; done))))
      rintro e w20 ⟨rfl, hd⟩
      refine ⟨_, rfl, ?_⟩
      replace HM := HM.drawn hd
      clear hd
      exact hK.out _ _ ⟨PUT ha 9 hb, (HM).pick [0]⟩
     refine SY ?_ ?_
     ·intro b a w ha HM hb hon hoff K hK
      have e15 := PE ha 9 hon
      have e10 := PE ha 4 hon
      exact VL (.bool (!true)) (hK.out _ _ ⟨PUT ha 10 hb, HM⟩) (hw := wanted_on rfl rfl rfl (e10.trans (by first | rfl | (simp [*]; done))))
     refine SY ?_ ?_
     ·intro b a w ha HM hb hon hoff K hK
      have e10 := PE ha 4 hon
      have e16 := PE ha 10 hon
      exact VL (.bool (!true)) (hK.out _ _ ⟨PUT ha 11 hb, HM⟩)
     refine SY ?_ ?_
     ·intro b a w ha HM hb hon hoff K hK
      have e17 := PE ha 11 hon
      exact VL (.bool (!true)) (hK.out _ _ ⟨PUT ha 12 hb, HM⟩)
     refine SY ?_ ?_
     ·intro b a w ha HM hb hon hoff K hK
      have e1 := PG ha 1
      have e18 := PE ha 12 hon
      exact VL (.pointer (some ⟨gb378, 4, none⟩)) (hK.out _ _ ⟨PUT ha 13 hb, HM⟩) (hw := wanted_on rfl rfl rfl (e18.trans (by first | rfl | (simp [*]; done))))
     refine SY ?_ ?_
     ·intro b a w ha HM hb hon hoff K hK
      obtain ⟨_,_,_,_,_,_,_,_,_,_⟩ := bk5 (HM.bx 0 rfl)
      have e19 := PE ha 13 hon
      have e18 := PE ha 12 hon
      exact VL (.slice A0_4 l0_4.length c0_4) (hK.out _ _ ⟨PUT ha 14 hb, HM⟩) (hw := wanted_on rfl rfl rfl (e18.trans (by first | rfl | (simp [*]; done))))
     refine SY ?_ ?_
     ·intro b a w ha HM hb hon hoff K hK
      have e20 := PE ha 14 hon
      have e18 := PE ha 12 hon
      exact VL (.int .i64 (l0_4.length : Int)) (hK.out _ _ ⟨PUT ha 15 hb, HM⟩) (hw := wanted_on rfl rfl rfl (e18.trans (by first | rfl | (simp [*]; done))))
     refine SY ?_ ?_
     ·intro b a w ha HM hb hon hoff K hK
      have e1 := PG ha 1
      have e18 := PE ha 12 hon
      refine ST (eC (some 22) rfl #[.pointer (some ⟨gb378, 0, none⟩)] rfl Try.func67 (impl_Three_ghosts.calls gb378 a0_0 a0_1 _ _ _ t381 _ (HM.bx 0 rfl) A8.out) ?_ (hargs := by (simp only [List.map_toArray, List.map_cons, List.map_nil, evc, eval_of e1]) <;> rfl)) (hw := wanted_on rfl rfl rfl (e18.trans (by first | rfl | (simp [*]; done))))
      rintro e w22 ⟨rfl, nd_, rfl⟩
      refine ⟨_, rfl, ?_⟩
      replace HM := HM.drewN nd_
      exact hK.out _ _ ⟨PUT ha 16 hb, (HM).pick [0]⟩
     refine SY ?_ ?_
     ·intro b a w ha HM hb hon hoff K hK
      have e21 := PE ha 15 hon
      have e22 := PE ha 16 hon
      have e18 := PE ha 12 hon
      exact VL (.bool (decide ((l0_4.length : Int) > t381))) (hK.out _ _ ⟨PUT ha 17 hb, HM⟩) (hw := wanted_on rfl rfl rfl (e18.trans (by first | rfl | (simp [*]; done))))
     refine SY ?_ ?_
     ·intro b a w ha HM hb hon hoff K hK
      have e18 := PE ha 12 hon
      have e23 := PE ha 17 hon
      exact VL (.bool (decide ((l0_4.length : Int) > t381))) (hK.out _ _ ⟨PUT ha 18 hb, HM⟩)
     exact steps_nil
    rintro _ w23 ⟨rfl, HM⟩
    simp only [putSel, if_true, Act.put, List.setIfInBounds_toArray, List.set_cons_zero, List.set_cons_succ, gt_iff_lt, ge_iff_le]
    have H' := Aside0.mk H
    clear H
    go_wp2
    go_meet
    case rel => exact ⟨_, (decide ((l0_4.length : Int) > t381)), RS, H', ⟨by first | omega | exact Nat.le_refl _⟩, (MD HM).pick [0]⟩
   ·subst c7
    refine RGN 19 [0, 1, 2, 3, 4, 5, 6, 7, 8, 9, 10, 11, 12, 13, 14, 15, 16, 17, 18] (fun a0 b a w' => a = putSel a0 b [(0, 6, .pointer (some ⟨gb378, 0, none⟩)), (1, 7, .int .i64 a0_0), (2, 8, .bool true), (3, 9, .bool (!true)), (4, 10, .bool (!true)), (5, 11, .pointer (some ⟨gb378, 1, none⟩)), (6, 12, .int .i64 a0_1), (7, 13, .pointer (some ⟨gb378, 0, none⟩)), (8, 14, .int .i64 a0_0), (9, 15, .bool false), (10, 16, .bool (!false)), (11, 17, .bool (!false)), (12, 18, .bool (!false)), (13, 19, undef), (14, 20, undef), (15, 21, undef), (16, 22, undef), (17, 23, undef), (18, 24, .bool true)] ∧ Mem w [] w' [box 25 gb378 [.int .i64 a0_0, .int .i64 a0_1, .slice A0_2 l0_2.length c0_2, .slice A0_3 l0_3.length c0_3, .slice A0_4 l0_4.length c0_4]]) impl_ThreeOk.tab1 impl_ThreeOk.bits1 ?_ ?_ ?_
    ·exact ⟨PS0' rfl _, (HM.drew).pick [0]⟩
    ·clear HM
     refine SY ?_ ?_
     ·intro b a w ha HM hb hon hoff K hK
      have e1 := PG ha 1
      exact VL (.pointer (some ⟨gb378, 0, none⟩)) (hK.out _ _ ⟨PUT ha 0 hb, HM⟩)
     refine SY ?_ ?_
     ·intro b a w ha HM hb hon hoff K hK
      obtain ⟨_,_,_,_,_,_,_,_,_,_⟩ := bk5 (HM.bx 0 rfl)
      have e6 := PE ha 0 hon
      exact VL (.int .i64 a0_0) (hK.out _ _ ⟨PUT ha 1 hb, HM⟩)
     refine SY ?_ ?_
     ·intro b a w ha HM hb hon hoff K hK
      have e7 := PE ha 1 hon
      refine ST (eC (some 8) rfl #[.int .i64 a0_0, .int .i64 1, .int .i64 60] rfl Try.func66 (impl_within.calls a0_0 1 60 true _ A4.out) ?_ (hargs := by (simp only [List.map_toArray, List.map_cons, List.map_nil, evc, eval_of e7]) <;> rfl))
      rintro e w30 ⟨rfl, hd⟩
      refine ⟨_, rfl, ?_⟩
      replace HM := HM.drawn hd
      clear hd
      exact hK.out _ _ ⟨PUT ha 2 hb, (HM).pick [0]⟩
     refine SY ?_ ?_
     ·intro b a w ha HM hb hon hoff K hK
      have e8 := PE ha 2 hon
      exact VL (.bool (!true)) (hK.out _ _ ⟨PUT ha 3 hb, HM⟩)
     refine SY ?_ ?_
     ·intro b a w ha HM hb hon hoff K hK
      have e9 := PE ha 3 hon
      exact VL (.bool (!true)) (hK.out _ _ ⟨PUT ha 4 hb, HM⟩)
     refine SY ?_ ?_
     ·intro b a w ha HM hb hon hoff K hK
      have e1 := PG ha 1
      have e10 := PE ha 4 hon
      exact VL (.pointer (some ⟨gb378, 1, none⟩)) (hK.out _ _ ⟨PUT ha 5 hb, HM⟩) (hw := wanted_on rfl rfl rfl (e10.trans (by first | rfl | (simp [*]; done))))
     refine SY ?_ ?_
     ·intro b a w ha HM hb hon hoff K hK
      obtain ⟨_,_,_,_,_,_,_,_,_,_⟩ := bk5 (HM.bx 0 rfl)
      have e11 := PE ha 5 hon
      have e10 := PE ha 4 hon
      exact VL (.int .i64 a0_1) (hK.out _ _ ⟨PUT ha 6 hb, HM⟩) (hw := wanted_on rfl rfl rfl (e10.trans (by first | rfl | (simp [*]; done))))
     refine SY ?_ ?_
     ·intro b a w ha HM hb hon hoff K hK
      have e1 := PG ha 1
      have e10 := PE ha 4 hon
      exact VL (.pointer (some ⟨gb378, 0, none⟩)) (hK.out _ _ ⟨PUT ha 7 hb, HM⟩) (hw := wanted_on rfl rfl rfl (e10.trans (by first | rfl | (simp [*]; done))))
     refine SY ?_ ?_
     ·intro b a w ha HM hb hon hoff K hK
      obtain ⟨_,_,_,_,_,_,_,_,_,_⟩ := bk5 (HM.bx 0 rfl)
      have e13 := PE ha 7 hon
      have e10 := PE ha 4 hon
      exact VL (.int .i64 a0_0) (hK.out _ _ ⟨PUT ha 8 hb, HM⟩) (hw := wanted_on rfl rfl rfl (e10.trans (by first | rfl | (simp [*]; done))))
     refine SY ?_ ?_
     ·intro b a w ha HM hb hon hoff K hK
      have e12 := PE ha 6 hon
      have e14 := PE ha 8 hon
      have e10 := PE ha 4 hon
      refine ST (eC (some 15) rfl #[.int .i64 a0_1, .int .i64 1, .int .i64 a0_0] rfl Try.func66 (impl_within.calls a0_1 1 a0_0 false _ A6.out) ?_ (hargs := by (simp only [List.map_toArray, List.map_cons, List.map_nil, evc, eval_of e12, eval_of e14]) <;> rfl)) (hw := wanted_on rfl rfl rfl (e10.trans (by first | rfl | (simp [*]; done))))
      rintro e w33 ⟨rfl, hd⟩
      refine ⟨_, rfl, ?_⟩
      replace HM := HM.drawn hd
      clear hd
      exact hK.out _ _ ⟨PUT ha 9 hb, (HM).pick [0]⟩
     refine SY ?_ ?_
     ·intro b a w ha HM hb hon hoff K hK
      have e15 := PE ha 9 hon
      have e10 := PE ha 4 hon
      exact VL (.bool (!false)) (hK.out _ _ ⟨PUT ha 10 hb, HM⟩) (hw := wanted_on rfl rfl rfl (e10.trans (by first | rfl | (simp [*]; done))))
     refine SY ?_ ?_
     ·intro b a w ha HM hb hon hoff K hK
      have e10 := PE ha 4 hon
      have e16 := PE ha 10 hon
      exact VL (.bool (!false)) (hK.out _ _ ⟨PUT ha 11 hb, HM⟩)
     refine SY ?_ ?_
     ·intro b a w ha HM hb hon hoff K hK
      have e17 := PE ha 11 hon
      exact VL (.bool (!false)) (hK.out _ _ ⟨PUT ha 12 hb, HM⟩)
     refine SY ?_ ?_
     ·intro b a w ha HM hb hon hoff K hK
      have e18 := PE ha 12 hon
      exact VN ( wanted_off rfl rfl rfl (e18.trans (by first | rfl | (simp [*]; done)))) (hK.out _ _ ⟨PUT ha 13 hb, HM⟩)
     refine SY ?_ ?_
     ·intro b a w ha HM hb hon hoff K hK
      have e18 := PE ha 12 hon
      exact VN ( wanted_off rfl rfl rfl (e18.trans (by first | rfl | (simp [*]; done)))) (hK.out _ _ ⟨PUT ha 14 hb, HM⟩)
     refine SY ?_ ?_
     ·intro b a w ha HM hb hon hoff K hK
      have e18 := PE ha 12 hon
      exact VN ( wanted_off rfl rfl rfl (e18.trans (by first | rfl | (simp [*]; done)))) (hK.out _ _ ⟨PUT ha 15 hb, HM⟩)
     refine SY ?_ ?_
     ·intro b a w ha HM hb hon hoff K hK
      have e18 := PE ha 12 hon
      exact VN ( wanted_off rfl rfl rfl (e18.trans (by first | rfl | (simp [*]; done)))) (hK.out _ _ ⟨PUT ha 16 hb, HM⟩)
     refine SY ?_ ?_
     ·intro b a w ha HM hb hon hoff K hK
      have e18 := PE ha 12 hon
      exact VN ( wanted_off rfl rfl rfl (e18.trans (by first | rfl | (simp [*]; done)))) (hK.out _ _ ⟨PUT ha 17 hb, HM⟩)
     refine SY ?_ ?_
     ·intro b a w ha HM hb hon hoff K hK
      have e18 := PE ha 12 hon
      have e23 := PE ha 17 hon
      exact VL (.bool true) (hK.out _ _ ⟨PUT ha 18 hb, HM⟩)
     exact steps_nil
    rintro _ w34 ⟨rfl, HM⟩
    simp only [putSel, if_true, Act.put, List.setIfInBounds_toArray, List.set_cons_zero, List.set_cons_succ, gt_iff_lt, ge_iff_le]
    have H' := Aside0.mk H
    clear H
    go_wp2
    go_meet
    case rel => exact ⟨_, (true), RS, H', ⟨by first | omega | exact Nat.le_refl _⟩, (MD HM).pick [0]⟩
  ·subst c5
   refine RGN 19 [0, 1, 2, 3, 4, 5, 6, 7, 8, 9, 10, 11, 12, 13, 14, 15, 16, 17, 18] (fun a0 b a w' => a = putSel a0 b [(0, 6, .pointer (some ⟨gb378, 0, none⟩)), (1, 7, .int .i64 a0_0), (2, 8, .bool false), (3, 9, .bool (!false)), (4, 10, .bool (!false)), (5, 11, undef), (6, 12, undef), (7, 13, undef), (8, 14, undef), (9, 15, undef), (10, 16, undef), (11, 17, .bool true), (12, 18, .bool true), (13, 19, undef), (14, 20, undef), (15, 21, undef), (16, 22, undef), (17, 23, undef), (18, 24, .bool true)] ∧ Mem w [] w' [box 25 gb378 [.int .i64 a0_0, .int .i64 a0_1, .slice A0_2 l0_2.length c0_2, .slice A0_3 l0_3.length c0_3, .slice A0_4 l0_4.length c0_4]]) impl_ThreeOk.tab1 impl_ThreeOk.bits1 ?_ ?_ ?_
   ·exact ⟨PS0' rfl _, (HM.drew).pick [0]⟩
   ·clear HM
    refine SY ?_ ?_
    ·intro b a w ha HM hb hon hoff K hK
     have e1 := PG ha 1
     exact VL (.pointer (some ⟨gb378, 0, none⟩)) (hK.out _ _ ⟨PUT ha 0 hb, HM⟩)
    refine SY ?_ ?_
    ·intro b a w ha HM hb hon hoff K hK
     obtain ⟨_,_,_,_,_,_,_,_,_,_⟩ := bk5 (HM.bx 0 rfl)
     have e6 := PE ha 0 hon
     exact VL (.int .i64 a0_0) (hK.out _ _ ⟨PUT ha 1 hb, HM⟩)
    refine SY ?_ ?_
    ·intro b a w ha HM hb hon hoff K hK
     have e7 := PE ha 1 hon
     refine ST (eC (some 8) rfl #[.int .i64 a0_0, .int .i64 1, .int .i64 60] rfl Try.func66 (impl_within.calls a0_0 1 60 false _ A4.out) ?_ (hargs := by (simp only [List.map_toArray, List.map_cons, List.map_nil, evc, eval_of e7]) <;> rfl))
     rintro e w38 ⟨rfl, hd⟩
     refine ⟨_, rfl, ?_⟩
     replace HM := HM.drawn hd
     clear hd
     exact hK.out _ _ ⟨PUT ha 2 hb, (HM).pick [0]⟩
    refine SY ?_ ?_
    ·intro b a w ha HM hb hon hoff K hK
     have e8 := PE ha 2 hon
     exact VL (.bool (!false)) (hK.out _ _ ⟨PUT ha 3 hb, HM⟩)
    refine SY ?_ ?_
    ·intro b a w ha HM hb hon hoff K hK
     have e9 := PE ha 3 hon
     exact VL (.bool (!false)) (hK.out _ _ ⟨PUT ha 4 hb, HM⟩)
    refine SY ?_ ?_
    ·intro b a w ha HM hb hon hoff K hK
     have e10 := PE ha 4 hon
     exact VN ( wanted_off rfl rfl rfl (e10.trans (by first | rfl | (simp [*]; done)))) (hK.out _ _ ⟨PUT ha 5 hb, HM⟩)
    refine SY ?_ ?_
    ·intro b a w ha HM hb hon hoff K hK
     have e10 := PE ha 4 hon
     exact VN ( wanted_off rfl rfl rfl (e10.trans (by first | rfl | (simp [*]; done)))) (hK.out _ _ ⟨PUT ha 6 hb, HM⟩)
    refine SY ?_ ?_
    ·intro b a w ha HM hb hon hoff K hK
     have e10 := PE ha 4 hon
     exact VN ( wanted_off rfl rfl rfl (e10.trans (by first | rfl | (simp [*]; done)))) (hK.out _ _ ⟨PUT ha 7 hb, HM⟩)
    refine SY ?_ ?_
    ·intro b a w ha HM hb hon hoff K hK
     have e10 := PE ha 4 hon
     exact VN ( wanted_off rfl rfl rfl (e10.trans (by first | rfl | (simp [*]; done)))) (hK.out _ _ ⟨PUT ha 8 hb, HM⟩)
    refine SY ?_ ?_
    ·intro b a w ha HM hb hon hoff K hK
     have e10 := PE ha 4 hon
     exact VN ( wanted_off rfl rfl rfl (e10.trans (by first | rfl | (simp [*]; done)))) (hK.out _ _ ⟨PUT ha 9 hb, HM⟩)
    refine SY ?_ ?_
    ·intro b a w ha HM hb hon hoff K hK
     have e10 := PE ha 4 hon
     exact VN ( wanted_off rfl rfl rfl (e10.trans (by first | rfl | (simp [*]; done)))) (hK.out _ _ ⟨PUT ha 10 hb, HM⟩)
    refine SY ?_ ?_
    ·intro b a w ha HM hb hon hoff K hK
     have e10 := PE ha 4 hon
     have e16 := PE ha 10 hon
     exact VL (.bool true) (hK.out _ _ ⟨PUT ha 11 hb, HM⟩)
    refine SY ?_ ?_
    ·intro b a w ha HM hb hon hoff K hK
     have e17 := PE ha 11 hon
     exact VL (.bool true) (hK.out _ _ ⟨PUT ha 12 hb, HM⟩)
    refine SY ?_ ?_
    ·intro b a w ha HM hb hon hoff K hK
     have e18 := PE ha 12 hon
     exact VN ( wanted_off rfl rfl rfl (e18.trans (by first | rfl | (simp [*]; done)))) (hK.out _ _ ⟨PUT ha 13 hb, HM⟩)
    refine SY ?_ ?_
    ·intro b a w ha HM hb hon hoff K hK
     have e18 := PE ha 12 hon
     exact VN ( wanted_off rfl rfl rfl (e18.trans (by first | rfl | (simp [*]; done)))) (hK.out _ _ ⟨PUT ha 14 hb, HM⟩)
    refine SY ?_ ?_
    ·intro b a w ha HM hb hon hoff K hK
     have e18 := PE ha 12 hon
     exact VN ( wanted_off rfl rfl rfl (e18.trans (by first | rfl | (simp [*]; done)))) (hK.out _ _ ⟨PUT ha 15 hb, HM⟩)
    refine SY ?_ ?_
    ·intro b a w ha HM hb hon hoff K hK
     have e18 := PE ha 12 hon
     exact VN ( wanted_off rfl rfl rfl (e18.trans (by first | rfl | (simp [*]; done)))) (hK.out _ _ ⟨PUT ha 16 hb, HM⟩)
    refine SY ?_ ?_
    ·intro b a w ha HM hb hon hoff K hK
     have e18 := PE ha 12 hon
     exact VN ( wanted_off rfl rfl rfl (e18.trans (by first | rfl | (simp [*]; done)))) (hK.out _ _ ⟨PUT ha 17 hb, HM⟩)
    refine SY ?_ ?_
    ·intro b a w ha HM hb hon hoff K hK
     have e18 := PE ha 12 hon
     have e23 := PE ha 17 hon
     exact VL (.bool true) (hK.out _ _ ⟨PUT ha 18 hb, HM⟩)
    exact steps_nil
   rintro _ w39 ⟨rfl, HM⟩
   simp only [putSel, if_true, Act.put, List.setIfInBounds_toArray, List.set_cons_zero, List.set_cons_succ, gt_iff_lt, ge_iff_le]
   have H' := Aside0.mk H
   clear H
   go_wp2
   go_meet
   case rel => exact ⟨_, (true), RS, H', ⟨by first | omega | exact Nat.le_refl _⟩, (MD HM).pick [0]⟩
 case rest =>
  clear HC3 HM
  obtain ⟨kq, x24_2, rfl, HA, HJ2, HM⟩ := hcut
  cases kq with
  | zero => exact absurd HA.out (by simp [impl_ThreeOk.j0])
  | succ kj2 =>
   have H := HA.out
   clear HA
   simp only [impl_ThreeOk.j0] at H
   go_upto_if 24 with (fail)
   replace H := IB H
   rcases H with ⟨c40, H⟩ | ⟨c40, H⟩
   ·subst c40
    obtain rfl := Option.some.inj H
    go_wp2
    go_ret
    exact ⟨ER, (MD HM).pick []⟩
   ·subst c40
    have H' := Aside0.mk H
    clear H
    obtain ⟨_,_,_,_,_,_,_,_,_,_⟩ := bk5 (HM.bx 0 rfl)
    go_wp2
    go_loopg [28] kj2 (fun kq v28 w' => ∃ (x28_2 : Int), v28 = .int .i64 x28_2 ∧ Aside0 (impl_ThreeOk.l0 kq l0_4 (l0_4.length : Int) x28_2 a0_0 a0_1 l0_2 l0_3 l0_4 = some r) ∧ Aside0 (kq ≤ kj2) ∧ Mem w [] w' [box 25 gb378 [.int .i64 a0_0, .int .i64 a0_1, .slice A0_2 l0_2.length c0_2, .slice A0_3 l0_3.length c0_3, .slice A0_4 l0_4.length c0_4]])
    case atStart => exact ⟨(0), RS, H', ⟨Nat.le_refl _⟩, (MD HM).pick [0]⟩
    case round =>
     clear H' HM
     obtain ⟨x28_2, rfl, HA, HK2, HM⟩ := hrel
     cases gk with
     | zero => exact absurd HA.out (by simp [impl_ThreeOk.l0])
     | succ k2 =>
      have H := HA.out
      clear HA
      simp only [impl_ThreeOk.l0] at H
      go_upto_if 29 with (fail)
      replace H := IT H; rcases H with ⟨c42, H⟩ | ⟨c42, H⟩
      ·have c42b0 := decide_eq_true c42
       clear c42
       first|rw [c42b0]|(simp only [i64_w, i32_w]; rw [c42b0])|skip
       replace H := GD H; obtain ⟨c43, H⟩ := H
       have c43b0 := decide_eq_true c43
       clear c43
       replace H := GD H; obtain ⟨c44, H⟩ := H
       have c44b0 := decide_eq_true c44
       clear c44
       replace H := BN H; obtain ⟨t390, A45, H⟩ := H
       replace H := IB H
       rcases H with ⟨c47, H⟩ | ⟨c47, H⟩
       ·subst c47
        have c49b0 := eq_true (of_decide_eq_true AS : 0 ≤ x28_2)
        replace H := GD H; obtain ⟨c50, H⟩ := H
        have c50b0 := eq_true c50
        have c50b1 : decide (x28_2 ≤ (l0_4.length : Int)) = true := decide_eq_true c50
        clear c50
        replace H := BN H; obtain ⟨t392, A52, H⟩ := H
        have p389 : 0 ≤ (x28_2 : Int) := of_decide_eq_true AS
        have q389 : (x28_2 : Int) < (l0_4.length : Int) := of_decide_eq_true AS
        obtain ⟨ad389, e389, hx389_0⟩ := Kd.at_int (HM.came HR0_4.out) x28_2 p389 q389
        cases e389
        replace p389 := eq_true p389
        replace q389 := eq_true q389
        go_upto_if 43 with (first | ((with_reducible refine gC 68 rfl ?_); refine pC (some 34) rfl #[.int .i64 (rd l0_4 x28_2)] rfl Try.func68 (impl_isNum.calls (rd l0_4 x28_2) true _ A45.out) ?_; rintro e w46 ⟨rfl, hd⟩; refine ⟨_, rfl, ?_⟩; replace HM := HM.drawn hd; clear hd; obtain ⟨_,_,_,_,_,_,_,_,_,_⟩ := bk5 (HM.bx 0 rfl)) | ((with_reducible refine gate_sl (t := 23) rfl ?_); refine pRtf 23 3 (Kd.int .i64) _ _ x28_2 l0_4 (some ad389) c0_4 rfl Try.underlying23 info3 HC0_4.out (of_decide_eq_true AS) (of_decide_eq_true AS) ?_; intro Yx51 bx51 hYx51 hbx51; have HYx51 := Aside0.mk hYx51; have HBx51 := Aside0.mk hbx51; clear hYx51 hbx51; have hlx51 : (l0_4.take (x28_2 : Int).toNat).length = (x28_2 : Int).toNat := by rw [List.length_take]; have h_ : (x28_2 : Int) ≤ ((l0_4.length : Int) : Int) := of_decide_eq_true AS; omega) | ((with_reducible refine gC 69 rfl ?_); refine pC (some 42) rfl #[.slice Yx51 (l0_4.take (x28_2 : Int).toNat).length bx51, .int .i64 (rd l0_4 x28_2)] rfl Try.func69 (slices_Contains_int_int.calls k2 _ _ (l0_4.take (x28_2 : Int).toNat) (rd l0_4 x28_2) t392 _ (HYx51.out _ (HM.came HR0_4.out)) HBx51.out A52.out) ?_ (hargs := by (try simp only [List.map_toArray, List.map_cons, List.map_nil]); first | done | rfl | (rw [hlx51]; rfl) | (simp only [List.length_take]; rfl)); rintro e w53 ⟨rfl, hd⟩; refine ⟨_, rfl, ?_⟩; replace HM := HM.drawn hd; clear hd))
        replace H := IB H
        rcases H with ⟨c54, H⟩ | ⟨c54, H⟩
        ·subst c54
         obtain rfl := Option.some.inj H
         go_wp2
         go_ret
         exact ⟨ER, (MD HM).pick []⟩
        ·subst c54
         have H' := Aside0.mk H
         clear H
         go_wp2
         go_roundg k2
         case measure => have := HJ2.out; have := HK2.out; omega
         case rel => exact ⟨(wrap64 (x28_2 + 1)), RS, H', ⟨by have := HJ2.out; have := HK2.out; omega⟩, (MD HM).pick [0]⟩
       ·subst c47
        obtain rfl := Option.some.inj H
        have p389 : 0 ≤ (x28_2 : Int) := of_decide_eq_true AS
        have q389 : (x28_2 : Int) < (l0_4.length : Int) := of_decide_eq_true AS
        obtain ⟨ad389, e389, hx389_0⟩ := Kd.at_int (HM.came HR0_4.out) x28_2 p389 q389
        cases e389
        replace p389 := eq_true p389
        replace q389 := eq_true q389
        go_wp2_with (first | ((with_reducible refine gC 68 rfl ?_); refine pC (some 34) rfl #[.int .i64 (rd l0_4 x28_2)] rfl Try.func68 (impl_isNum.calls (rd l0_4 x28_2) false _ A45.out) ?_; rintro e w46 ⟨rfl, hd⟩; refine ⟨_, rfl, ?_⟩; replace HM := HM.drawn hd; clear hd))
        go_ret
        exact ⟨ER, (MD HM).pick []⟩
      ·have c42b0 := decide_eq_false c42
       clear c42
       first|rw [c42b0]|(simp only [i64_w, i32_w]; rw [c42b0])|skip
       try go_wp2
       replace H := BN H; obtain ⟨t382, A55, H⟩ := H
       replace H := GD H; obtain ⟨c56, H⟩ := H
       have LMc56 := Aside0.mk c56
       clear c56
       replace H := BLt H; obtain ⟨y385, Ny385, H⟩ := H
       replace Ny385 := Aside0.mk Ny385
       refine RGN 7 [0, 1, 2, 3, 4, 5, 6] (fun a0 b a w' => ∃ (v383 : Value) (v386 : Value), a = putSel a0 b [(0, 45, .pointer (some ⟨gb378, 2, none⟩)), (1, 46, .slice A0_2 l0_2.length c0_2), (2, 47, v383), (3, 48, .pointer (some ⟨gb378, 3, none⟩)), (4, 49, .slice A0_3 l0_3.length c0_3), (5, 50, v386), (6, 5, v386)] ∧ Mem w [] w' [box 25 gb378 [.int .i64 a0_0, .int .i64 a0_1, .slice A0_2 l0_2.length c0_2, .slice A0_3 l0_3.length c0_3, .slice A0_4 l0_4.length c0_4], sel (b 5) (rowR k76 76 v386 y385) (sel (b 2) (rowR k76 76 v383 t382) (emp))]) impl_ThreeOk.tab9 impl_ThreeOk.bits9 ?_ ?_ ?_
       ·exact ⟨.bool false, .bool false, PS0' rfl _, (HM.drew.ems 1).pick [0, 1]⟩
       ·clear HM
        refine SZ ?_ ?_
        ·rintro b a w ⟨v383, v386, ha, HM⟩ hb hon hoff K hK
         replace ha := Aside0.mk ha
         have e1 := PG ha 1
         exact VL (.pointer (some ⟨gb378, 2, none⟩)) (hK.out _ _ ⟨v383, v386, PUT ha 0 hb, HM⟩)
        refine SZ ?_ ?_
        ·rintro b a w ⟨v383, v386, ha, HM⟩ hb hon hoff K hK
         replace ha := Aside0.mk ha
         obtain ⟨_,_,_,_,_,_,_,_,_,_⟩ := bk5 (HM.bx 0 rfl)
         have e45 := PE ha 0 hon
         exact VL (.slice A0_2 l0_2.length c0_2) (hK.out _ _ ⟨v383, v386, PUT ha 1 hb, HM⟩)
        refine SZ ?_ ?_
        ·rintro b a w ⟨v383, v386, ha, HM⟩ hb hon hoff K hK
         replace ha := Aside0.mk ha
         have e46 := PE ha 1 hon
         refine ST (eC (some 47) rfl #[.slice A0_2 l0_2.length c0_2] rfl Try.func70 (impl_copyItems.calls _ _ l0_2 t382 _ (HM.came HR0_2.out) HC0_2.out A55.out) ?_ (hargs := by (simp only [List.map_toArray, List.map_cons, List.map_nil, evc, eval_of e46]) <;> rfl))
         rintro e w62 ⟨v383, rfl, hR⟩
         refine ⟨_, rfl, ?_⟩
         replace HM := HM.call hR
         clear hR
         exact hK.out _ _ ⟨v383, v386, PUT ha 2 hb, (HM.iF 2 rfl (hoff 5 rfl)).pick [0, 2]⟩
        refine SZ ?_ ?_
        ·rintro b a w ⟨v383, v386, ha, HM⟩ hb hon hoff K hK
         replace ha := Aside0.mk ha
         have e1 := PG ha 1
         exact VL (.pointer (some ⟨gb378, 3, none⟩)) (hK.out _ _ ⟨v383, v386, PUT ha 3 hb, HM⟩)
        refine SZ ?_ ?_
        ·rintro b a w ⟨v383, v386, ha, HM⟩ hb hon hoff K hK
         replace ha := Aside0.mk ha
         obtain ⟨_,_,_,_,_,_,_,_,_,_⟩ := bk5 (HM.bx 0 rfl)
         have e48 := PE ha 3 hon
         exact VL (.slice A0_3 l0_3.length c0_3) (hK.out _ _ ⟨v383, v386, PUT ha 4 hb, HM⟩)
        refine SZ ?_ ?_
        ·rintro b a w ⟨v383, v386, ha, HM⟩ hb hon hoff K hK
         replace ha := Aside0.mk ha
         replace HM := (HM.sF 1 rfl hb).sT 1 rfl (hon 2 rfl)
         have e47 := PE ha 2 hon
         have e49 := PE ha 4 hon
         refine ST (eA 1 (.tmp 47) (.tmp 49) 22 76 k76 v383 t382 l0_3 A0_3 l0_3.length c0_3 HM rfl Try.underlying22 info76 rfl (HM.came HR0_3.out) (by have h_ := LMc56.out; omega) ?_ (ops := #[]) (hw := by rfl) (hs := (eval_of e47)) (hx := (eval_of e49)))
         clear HM
         intro v386 w64 HM
         replace HM := HM.nm 1 rfl Ny385.out
         exact hK.out _ _ ⟨v383, v386, PUT (PCH ha 6 (hoff 6 rfl)) 5 hb, (HM).pick [0, 1]⟩
        refine SZ ?_ ?_
        ·rintro b a w ⟨v383, v386, ha, HM⟩ hb hon hoff K hK
         replace ha := Aside0.mk ha
         have e50 := PE ha 5 hon
         exact VL (v386) (hK.out _ _ ⟨v383, v386, PUT ha 6 hb, HM⟩)
        exact steps_nil
       rintro _ w65 ⟨v383, v386, rfl, HM⟩
       replace HM := HM.sT 1 rfl rfl
       simp only [putSel, if_true, Act.put, List.setIfInBounds_toArray, List.set_cons_zero, List.set_cons_succ, gt_iff_lt, ge_iff_le]
       replace H := IT H; rcases H with ⟨c68, H⟩ | ⟨c68, H⟩
       ·have c68b0 := decide_eq_true c68
        clear c68
        replace H := BN H; obtain ⟨t388, A69, H⟩ := H
        obtain rfl := Option.some.inj H
        obtain ⟨Xo66, ko66, rfl⟩ := HM.rdR 1 rfl
        obtain ⟨_,_,_,_,_,_,_,_,_,_⟩ := bk5 (HM.bx 0 rfl)
        go_wp2_with (first | ((with_reducible refine gC 71 rfl ?_); refine pC (some 58) rfl #[.slice Xo66 y385.length ko66] rfl Try.func71 (impl_areItems.calls k2 _ _ y385 t388 _ (HM.CR 1 rfl).2.2 (HM.CR 1 rfl).2.1 A69.out) ?_; rintro e w70 ⟨rfl, hR⟩; refine ⟨_, rfl, ?_⟩; replace HM := HM.call hR; clear hR))
        go_ret
        exact ⟨ER, (MD HM).pick []⟩
       ·have c68b0 := decide_eq_false c68
        clear c68
        obtain rfl := Option.some.inj H
        obtain ⟨Xo66, ko66, rfl⟩ := HM.rdR 1 rfl
        obtain ⟨_,_,_,_,_,_,_,_,_,_⟩ := bk5 (HM.bx 0 rfl)
        go_wp2
        go_ret
        exact ⟨ER, (MD HM).pick []⟩
def impl_split.l0 : Nat → ByteArray → Int → List ByteArray → Int → Int → Option (List ByteArray)
 | 0, _, _, _, _, _ => none
 | k + 1, x0, x1, x5, x6, x7 => if x7 < (x0.size : Int) then (if 0 ≤ x7 then (if (bt x0 x7) = x1 then (if 0 ≤ x6 then (if x6 ≤ x7 then (if x7 ≤ (x0.size : Int) then (if x5.length < 8796093022208 then (impl_split.l0 k x0 x1 (x5 ++ [x0.extract (x6 : Int).toNat (x7 : Int).toNat]) (wrap64 (x7 + 1)) (wrap64 (x7 + 1))) else (none)) else (none)) else (none)) else (none)) else (impl_split.l0 k x0 x1 x5 x6 (wrap64 (x7 + 1)))) else (none)) else (if 0 ≤ x6 then (if x6 ≤ (x0.size : Int) then (if x5.length < 8796093022208 then (some (x5 ++ [x0.extract (x6 : Int).toNat x0.size])) else (none)) else (none)) else (none))
def impl_split.f (k : Nat) (a0 : ByteArray) (a1 : Int) : Option (List ByteArray) := impl_split.l0 k a0 a1 (([] : List ByteArray)) 0 0
theorem impl_split.calls (k : Nat) (a0 : ByteArray) (a1 : Int) (r : List ByteArray) (w : World)  (h : impl_split.f k a0 a1 = some r) :
  Calls Try.prog 26 #[.string a0, .int .u8 a1] w fun e w' => ∃ v0_ : Value, e = .returned (v0_) ∧ Mem w [] w' [rowR Kd.string 9 v0_ r] := by
 have HM := Mem.nil w
 have H := h
 clear h
 unfold impl_split.f at H
 go_enter Try.func26, Try.ntmps26
 have H' := Aside0.mk H
 clear H
 go_wp2_with (first | ((with_reducible refine gN 8 rfl ?_); refine pL 8 Kd.string 9 ([] : List ByteArray) [] (Reps.none _ _) HM rfl ?_; clear HM; intro v282 w3 HM))
 go_loopg [5, 6, 7] k (fun kq v5 v6 v7 w' => ∃ (x5_1 : List ByteArray) (x6_1 : Int) (x7_1 : Int), v6 = .int .i64 x6_1 ∧ v7 = .int .i64 x7_1 ∧ Aside0 (impl_split.l0 kq a0 a1 x5_1 x6_1 x7_1 = some r) ∧ Aside0 (kq ≤ k) ∧ Mem w [] w' [rowR Kd.string 9 v5 x5_1])
 case atStart => exact ⟨((([] : List ByteArray))), (0), (0), RS, RS, H', ⟨Nat.le_refl _⟩, (MD HM).pick [0]⟩
 case round =>
  clear H' HM
  obtain ⟨x5_1, x6_1, x7_1, rfl, rfl, HA, HK1, HM⟩ := hrel
  cases gk with
  | zero => exact absurd HA.out (by simp [impl_split.l0])
  | succ k1 =>
   have H := HA.out
   clear HA
   simp only [impl_split.l0] at H
   go_upto_if 12 with (fail)
   replace H := IT H; rcases H with ⟨c4, H⟩ | ⟨c4, H⟩
   ·have c4b0 := decide_eq_true c4
    clear c4
    first|rw [c4b0]|(simp only [i64_w, i32_w]; rw [c4b0])|skip
    replace H := GD H; obtain ⟨c5, H⟩ := H
    have c5b0 := decide_eq_true c5
    clear c5
    have p6 : 0 ≤ (x7_1 : Int) := of_decide_eq_true AS
    have q6 : x7_1 < (a0.size : Int) := of_decide_eq_true AS
    have hx6 := bt_at a0 x7_1
    replace p6 := eq_true p6
    replace q6 := eq_true q6
    go_upto_if 19 with (fail)
    replace H := IT H; rcases H with ⟨c7, H⟩ | ⟨c7, H⟩
    ·obtain ⟨c7b0, c7b1⟩ := BE c7
     clear c7
     first|rw [c7b0]|(simp only [i64_w, i32_w]; rw [c7b0])|skip
     replace H := GD H; obtain ⟨c8, H⟩ := H
     have c8b0 := eq_true c8
     have c8b1 : decide (0 ≤ x6_1) = true := decide_eq_true c8
     clear c8
     replace H := GD H; obtain ⟨c9, H⟩ := H
     have c9b0 := eq_true c9
     have c9b1 : decide (x6_1 ≤ x7_1) = true := decide_eq_true c9
     clear c9
     replace H := GD H; obtain ⟨c10, H⟩ := H
     have c10b0 := eq_true c10
     have c10b1 : decide (x7_1 ≤ (a0.size : Int)) = true := decide_eq_true c10
     clear c10
     replace H := GD H; obtain ⟨c11, H⟩ := H
     have LMc11 := Aside0.mk c11
     clear c11
     have H' := Aside0.mk H
     clear H
     go_wp2_with (first | ((with_reducible refine gN 25 rfl ?_); refine pL 25 Kd.string 9 [a0.extract (x6_1 : Int).toNat (x7_1 : Int).toNat] [.string (a0.extract (x6_1 : Int).toNat (x7_1 : Int).toNat)] (Reps.one (show Kd.M Kd.string _ _ _ (a0.extract (x6_1 : Int).toNat (x7_1 : Int).toNat) [.string (a0.extract (x6_1 : Int).toNat (x7_1 : Int).toNat)] from rfl) (Reps.none _ _)) HM rfl ?_; clear HM; intro v13 w12 HM; obtain ⟨Xv13, kv13, rfl⟩ := HM.rdR 1 rfl) | ((with_reducible refine gate_builtin (b := .append) (xs := #[.tmp 20, .tmp 25]) rfl ?_); refine pA 0 (.tmp 20) (.tmp 25) 33 9 Kd.string u5 x5_1 [a0.extract (x6_1 : Int).toNat (x7_1 : Int).toNat] Xv13 ([a0.extract (x6_1 : Int).toNat (x7_1 : Int).toNat].length) kv13 HM rfl Try.underlying33 info9 rfl (HM.CR 1 rfl).2.2 (by have h_ := LMc11.out; simp only [List.length_singleton]; omega) ?_; clear HM; intro v285 w14 HM))
     go_roundg k1
     case measure => have := HK1.out; omega
     case rel => exact ⟨((x5_1 ++ [a0.extract (x6_1 : Int).toNat (x7_1 : Int).toNat])), (wrap64 (x7_1 + 1)), (wrap64 (x7_1 + 1)), RS, RS, H', ⟨by have := HK1.out; omega⟩, (MD HM).pick [0]⟩
    ·obtain ⟨c7b0, c7b1⟩ := BF c7
     first|rw [c7b0]|(simp only [i64_w, i32_w]; rw [c7b0])|skip
     have H' := Aside0.mk H
     clear H
     go_wp2
     go_roundg k1
     case measure => have := HK1.out; omega
     case rel => exact ⟨(x5_1), (x6_1), (wrap64 (x7_1 + 1)), RS, RS, H', ⟨by have := HK1.out; omega⟩, (MD HM).pick [0]⟩
   ·have c4b0 := decide_eq_false c4
    clear c4
    first|rw [c4b0]|(simp only [i64_w, i32_w]; rw [c4b0])|skip
    replace H := GD H; obtain ⟨c15, H⟩ := H
    have c15b0 := eq_true c15
    have c15b1 : decide (0 ≤ x6_1) = true := decide_eq_true c15
    clear c15
    replace H := GD H; obtain ⟨c16, H⟩ := H
    have c16b0 := eq_true c16
    have c16b1 : decide (x6_1 ≤ (a0.size : Int)) = true := decide_eq_true c16
    clear c16
    replace H := GD H; obtain ⟨c17, H⟩ := H
    have LMc17 := Aside0.mk c17
    clear c17
    obtain rfl := Option.some.inj H
    go_wp2_with (first | ((with_reducible refine gN 33 rfl ?_); refine pL 33 Kd.string 9 [a0.extract (x6_1 : Int).toNat a0.size] [.string (a0.extract (x6_1 : Int).toNat a0.size)] (Reps.one (show Kd.M Kd.string _ _ _ (a0.extract (x6_1 : Int).toNat a0.size) [.string (a0.extract (x6_1 : Int).toNat a0.size)] from rfl) (Reps.none _ _)) HM rfl ?_; clear HM; intro v19 w18 HM; obtain ⟨Xv19, kv19, rfl⟩ := HM.rdR 1 rfl) | ((with_reducible refine gate_builtin (b := .append) (xs := #[.tmp 29, .tmp 33]) rfl ?_); refine pA 0 (.tmp 29) (.tmp 33) 33 9 Kd.string u5 x5_1 [a0.extract (x6_1 : Int).toNat a0.size] Xv19 ([a0.extract (x6_1 : Int).toNat a0.size].length) kv19 HM rfl Try.underlying33 info9 rfl (HM.CR 1 rfl).2.2 (by have h_ := LMc17.out; simp only [List.length_singleton]; omega) ?_; clear HM; intro v288 w20 HM))
    go_ret
    exact ⟨_, ER, (MD HM).pick [0]⟩
def impl_Cut.f (k : Nat) (a0 : ByteArray) : Option (List ByteArray) := (impl_split.f k a0 32).bind fun t290 => (some t290)
theorem impl_Cut.calls (k : Nat) (a0 : ByteArray) (r : List ByteArray) (w : World)  (h : impl_Cut.f k a0 = some r) :
  Calls Try.prog 40 #[.string a0] w fun e w' => ∃ v0_ : Value, e = .returned (v0_) ∧ Mem w [] w' [rowR Kd.string 9 v0_ r] := by
 have HM := Mem.nil w
 have H := h
 clear h
 unfold impl_Cut.f at H
 go_enter Try.func40, Try.ntmps40
 replace H := BN H; obtain ⟨t290, A2, H⟩ := H
 obtain rfl := Option.some.inj H
 go_wp2_with (first | ((with_reducible refine gC 26 rfl ?_); refine pC (some 4) rfl #[.string a0, .int .u8 32] rfl Try.func26 (impl_split.calls k a0 32 t290 _ A2.out) ?_; rintro e w3 ⟨v291, rfl, hR⟩; refine ⟨_, rfl, ?_⟩; replace HM := HM.call hR; clear hR))
 go_ret
 exact ⟨_, ER, (MD HM).pick [0]⟩
def impl_NumText.l0 : Nat → Int → ByteArray → Option (ByteArray)
 | 0, _, _ => none
 | k + 1, x0, x3 => if x0 > 9 then ((some (([(wrap64 (48 + (Int.tmod x0 10))) % 256] : List Int) : List Int)).bind fun y296 => (if (strOfNums y296).size + x3.size ≤ 9223372036854775807 then (impl_NumText.l0 k (wrap64 (Int.tdiv x0 10)) ((strOfNums y296) ++ x3)) else (none))) else ((some (([(wrap64 (48 + x0)) % 256] : List Int) : List Int)).bind fun y299 => (if (strOfNums y299).size + x3.size ≤ 9223372036854775807 then (some ((strOfNums y299) ++ x3)) else (none)))
def impl_NumText.f (k : Nat) (a0 : Int) : Option (ByteArray) := (impl_isNum.f a0).bind fun t295 => (if t295 = true then (impl_NumText.l0 k a0 (⟨#[]⟩ : ByteArray)) else (some (⟨#[]⟩ : ByteArray)))
theorem impl_NumText.calls (k : Nat) (a0 : Int) (r : ByteArray) (w : World)  (h : impl_NumText.f k a0 = some r) :
  Calls Try.prog 79 #[.int .i64 a0] w fun e w' => e = .returned (.string r) ∧ Mem w [] w' [] := by
 have HM := Mem.nil w
 have H := h
 clear h
 unfold impl_NumText.f at H
 go_enter Try.func79, Try.ntmps79
 replace H := BN H; obtain ⟨t295, A2, H⟩ := H
 go_upto_if 6 with (first | ((with_reducible refine gC 68 rfl ?_); refine pC (some 5) rfl #[.int .i64 a0] rfl Try.func68 (impl_isNum.calls a0 t295 _ A2.out) ?_; rintro e w3 ⟨rfl, hd⟩; refine ⟨_, rfl, ?_⟩; replace HM := HM.drawn hd; clear hd))
 replace H := IB H
 rcases H with ⟨c4, H⟩ | ⟨c4, H⟩
 ·subst c4
  have H' := Aside0.mk H
  clear H
  go_wp2
  go_loopg [0, 3] k (fun kq v0 v3 w' => ∃ (x0_1 : Int) (x3_1 : ByteArray), v0 = .int .i64 x0_1 ∧ v3 = .string x3_1 ∧ Aside0 (impl_NumText.l0 kq x0_1 x3_1 = some r) ∧ Aside0 (kq ≤ k) ∧ Mem w [] w' [])
  case atStart => exact ⟨(a0), ((⟨#[]⟩ : ByteArray)), RS, RS, H', ⟨Nat.le_refl _⟩, (MD HM).pick []⟩
  case round =>
   clear H' HM
   obtain ⟨x0_1, x3_1, rfl, rfl, HA, HK1, HM⟩ := hrel
   cases gk with
   | zero => exact absurd HA.out (by simp [impl_NumText.l0])
   | succ k1 =>
    have H := HA.out
    clear HA
    simp only [impl_NumText.l0] at H
    go_upto_if 8 with (fail)
    replace H := IT H; rcases H with ⟨c5, H⟩ | ⟨c5, H⟩
    ·have c5b0 : decide (9 < x0_1) = true := decide_eq_true c5
     clear c5
     first|rw [c5b0]|(simp only [i64_w, i32_w]; rw [c5b0])|skip
     replace H := BLt H; obtain ⟨y296, Ny296, H⟩ := H
     replace Ny296 := Aside0.mk Ny296
     replace H := GD H; obtain ⟨c8, H⟩ := H
     have c8b0 := eq_true c8
     have c8b1 : decide ((strOfNums y296).size + x3_1.size ≤ 9223372036854775807) = true := decide_eq_true c8
     try have c8b2 : (9223372036854775807 < (strOfNums y296).size + x3_1.size) = False := eq_false (Nat.not_lt.2 c8)
     have H' := Aside0.mk H
     clear H
     go_wp2_with (first | ((with_reducible refine gN 13 rfl ?_); refine pL 13 (Kd.int .u8) 5 ([(wrap64 (48 + (Int.tmod x0_1 10))) % 256] : List Int) [.int .u8 ((wrap64 (48 + (Int.tmod x0_1 10))) % 256)] (Reps.one (show Kd.M (Kd.int .u8) _ _ _ ((wrap64 (48 + (Int.tmod x0_1 10))) % 256) [.int .u8 ((wrap64 (48 + (Int.tmod x0_1 10))) % 256)] from rfl) (Reps.none _ _)) HM rfl ?_; clear HM; intro v297 w6 HM; replace HM := HM.nm 0 rfl Ny296.out; have hcv7 := HM.str 0 rfl Try.underlying105 Try.underlying5 Try.underlying9))
     go_roundg k1
     case measure => have := HK1.out; omega
     case rel => exact ⟨(wrap64 (Int.tdiv x0_1 10)), ((strOfNums y296) ++ x3_1), RS, RS, H', ⟨by have := HK1.out; omega⟩, (MD HM).pick []⟩
    ·have c5b0 : decide (9 < x0_1) = false := decide_eq_false c5
     clear c5
     first|rw [c5b0]|(simp only [i64_w, i32_w]; rw [c5b0])|skip
     replace H := BLt H; obtain ⟨y299, Ny299, H⟩ := H
     replace Ny299 := Aside0.mk Ny299
     replace H := GD H; obtain ⟨c11, H⟩ := H
     have c11b0 := eq_true c11
     have c11b1 : decide ((strOfNums y299).size + x3_1.size ≤ 9223372036854775807) = true := decide_eq_true c11
     try have c11b2 : (9223372036854775807 < (strOfNums y299).size + x3_1.size) = False := eq_false (Nat.not_lt.2 c11)
     obtain rfl := Option.some.inj H
     go_wp2_with (first | ((with_reducible refine gN 22 rfl ?_); refine pL 22 (Kd.int .u8) 5 ([(wrap64 (48 + x0_1)) % 256] : List Int) [.int .u8 ((wrap64 (48 + x0_1)) % 256)] (Reps.one (show Kd.M (Kd.int .u8) _ _ _ ((wrap64 (48 + x0_1)) % 256) [.int .u8 ((wrap64 (48 + x0_1)) % 256)] from rfl) (Reps.none _ _)) HM rfl ?_; clear HM; intro v300 w9 HM; replace HM := HM.nm 0 rfl Ny299.out; have hcv10 := HM.str 0 rfl Try.underlying105 Try.underlying5 Try.underlying9))
     go_ret
     exact ⟨ER, (MD HM).pick []⟩
 ·subst c4
  obtain rfl := Option.some.inj H
  go_wp2
  go_ret
  exact ⟨ER, (MD HM).pick []⟩
def impl_TextNum.l0 : Nat → ByteArray → Int → Int → Option (Int × Bool)
 | 0, _, _, _ => none
 | k + 1, x0, x4, x5 => if x5 < (x0.size : Int) then (if 0 ≤ x5 then (if (bt x0 x5) < 48 then (some (0, false)) else (if (bt x0 x5) > 57 then (some (0, false)) else (impl_TextNum.l0 k x0 (wrap64 ((wrap64 (10 * x4)) + (((bt x0 x5) - 48) % 256))) (wrap64 (x5 + 1))))) else (none)) else ((impl_NumText.f k x4).bind fun t303 => (if t303.toList = x0.toList then (some (x4, true)) else (some (0, false))))
def impl_TextNum.f (k : Nat) (a0 : ByteArray) : Option (Int × Bool) := (impl_within.f (a0.size : Int) 1 10).bind fun t302 => (if t302 = true then (impl_TextNum.l0 k a0 0 0) else (some (0, false)))
theorem impl_TextNum.calls (k : Nat) (a0 : ByteArray) (r1 : Int) (r2 : Bool) (w : World)  (h : impl_TextNum.f k a0 = some (r1, r2)) :
  Calls Try.prog 41 #[.string a0] w fun e w' => e = .returned (.tuple #[.int .i64 r1, .bool r2]) ∧ Mem w [] w' [] := by
 have HM := Mem.nil w
 have H := h
 clear h
 unfold impl_TextNum.f at H
 go_enter Try.func41, Try.ntmps41
 replace H := BN H; obtain ⟨t302, A2, H⟩ := H
 go_upto_if 9 with (first | ((with_reducible refine gC 66 rfl ?_); refine pC (some 8) rfl #[.int .i64 (a0.size : Int), .int .i64 1, .int .i64 10] rfl Try.func66 (impl_within.calls (a0.size : Int) 1 10 t302 _ A2.out) ?_; rintro e w3 ⟨rfl, hd⟩; refine ⟨_, rfl, ?_⟩; replace HM := HM.drawn hd; clear hd))
 replace H := IB H
 rcases H with ⟨c4, H⟩ | ⟨c4, H⟩
 ·subst c4
  have H' := Aside0.mk H
  clear H
  go_wp2
  go_loopg [4, 5] k (fun kq v4 v5 w' => ∃ (x4_1 : Int) (x5_1 : Int), v4 = .int .i64 x4_1 ∧ v5 = .int .i64 x5_1 ∧ Aside0 (impl_TextNum.l0 kq a0 x4_1 x5_1 = some (r1, r2)) ∧ Aside0 (kq ≤ k) ∧ Mem w [] w' [])
  case atStart => exact ⟨(0), (0), RS, RS, H', ⟨Nat.le_refl _⟩, (MD HM).pick []⟩
  case round =>
   clear H' HM
   obtain ⟨x4_1, x5_1, rfl, rfl, HA, HK1, HM⟩ := hrel
   cases gk with
   | zero => exact absurd HA.out (by simp [impl_TextNum.l0])
   | succ k1 =>
    have H := HA.out
    clear HA
    simp only [impl_TextNum.l0] at H
    go_upto_if 13 with (fail)
    replace H := IT H; rcases H with ⟨c5, H⟩ | ⟨c5, H⟩
    ·have c5b0 := decide_eq_true c5
     clear c5
     first|rw [c5b0]|(simp only [i64_w, i32_w]; rw [c5b0])|skip
     replace H := GD H; obtain ⟨c6, H⟩ := H
     have c6b0 := decide_eq_true c6
     clear c6
     replace H := IT H; rcases H with ⟨c8, H⟩ | ⟨c8, H⟩
     ·have c8b0 := decide_eq_true c8
      clear c8
      simp only [Option.some.injEq, Prod.mk.injEq] at H
      obtain ⟨rfl, rfl⟩ := H
      have p7 : 0 ≤ (x5_1 : Int) := of_decide_eq_true AS
      have q7 : x5_1 < (a0.size : Int) := of_decide_eq_true AS
      have hx7 := bt_at a0 x5_1
      replace p7 := eq_true p7
      replace q7 := eq_true q7
      go_wp2
      go_ret2
      exact ⟨ER, (MD HM).pick []⟩
     ·have c8b0 := decide_eq_false c8
      clear c8
      have p7 : 0 ≤ (x5_1 : Int) := of_decide_eq_true AS
      have q7 : x5_1 < (a0.size : Int) := of_decide_eq_true AS
      have hx7 := bt_at a0 x5_1
      replace p7 := eq_true p7
      replace q7 := eq_true q7
      have p9 : 0 ≤ (x5_1 : Int) := of_decide_eq_true AS
      have q9 : x5_1 < (a0.size : Int) := of_decide_eq_true AS
      have hx9 := bt_at a0 x5_1
      replace p9 := eq_true p9
      replace q9 := eq_true q9
      go_upto_if 25 with (fail)
      replace H := IT H; rcases H with ⟨c10, H⟩ | ⟨c10, H⟩
      ·have c10b0 : decide (57 < (bt a0 x5_1)) = true := decide_eq_true c10
       clear c10
       first|rw [c10b0]|(simp only [i64_w, i32_w]; rw [c10b0])|skip
       simp only [Option.some.injEq, Prod.mk.injEq] at H
       obtain ⟨rfl, rfl⟩ := H
       go_wp2
       go_ret2
       exact ⟨ER, (MD HM).pick []⟩
      ·have c10b0 : decide (57 < (bt a0 x5_1)) = false := decide_eq_false c10
       clear c10
       first|rw [c10b0]|(simp only [i64_w, i32_w]; rw [c10b0])|skip
       have H' := Aside0.mk H
       clear H
       have p11 : 0 ≤ (x5_1 : Int) := of_decide_eq_true AS
       have q11 : x5_1 < (a0.size : Int) := of_decide_eq_true AS
       have hx11 := bt_at a0 x5_1
       replace p11 := eq_true p11
       replace q11 := eq_true q11
       go_wp2
       go_roundg k1
       case measure => have := HK1.out; omega
       case rel => exact ⟨(wrap64 ((wrap64 (10 * x4_1)) + (((bt a0 x5_1) - 48) % 256))), (wrap64 (x5_1 + 1)), RS, RS, H', ⟨by have := HK1.out; omega⟩, (MD HM).pick []⟩
    ·have c5b0 := decide_eq_false c5
     clear c5
     first|rw [c5b0]|(simp only [i64_w, i32_w]; rw [c5b0])|skip
     replace H := BN H; obtain ⟨t303, A12, H⟩ := H
     go_upto_if 37 with (first | ((with_reducible refine gC 79 rfl ?_); refine pC (some 35) rfl #[.int .i64 x4_1] rfl Try.func79 (impl_NumText.calls k1 x4_1 t303 _ A12.out) ?_; rintro e w13 ⟨rfl, hR⟩; refine ⟨_, rfl, ?_⟩; replace HM := HM.call hR; clear hR))
     replace H := IT H; rcases H with ⟨c14, H⟩ | ⟨c14, H⟩
     ·obtain ⟨c14b0, c14b1⟩ := BE c14
      clear c14
      first|rw [c14b0]|(simp only [i64_w, i32_w]; rw [c14b0])|skip
      simp only [Option.some.injEq, Prod.mk.injEq] at H
      obtain ⟨rfl, rfl⟩ := H
      go_wp2
      go_ret2
      exact ⟨ER, (MD HM).pick []⟩
     ·obtain ⟨c14b0, c14b1⟩ := BF c14
      first|rw [c14b0]|(simp only [i64_w, i32_w]; rw [c14b0])|skip
      simp only [Option.some.injEq, Prod.mk.injEq] at H
      obtain ⟨rfl, rfl⟩ := H
      go_wp2
      go_ret2
      exact ⟨ER, (MD HM).pick []⟩
 ·subst c4
  simp only [Option.some.injEq, Prod.mk.injEq] at H
  obtain ⟨rfl, rfl⟩ := H
  go_wp2
  go_ret2
  exact ⟨ER, (MD HM).pick []⟩
def impl_numbers.l0 : Nat → ByteArray → List ByteArray → List Int → List ByteArray → Int → Int → Option (List Int × Bool)
 | 0, _, _, _, _, _, _ => none
 | k + 1, x1, x6, x7, x16, x17, x18 => if x18 < x17 then (if 0 ≤ x18 then (if x18 < (x16.length : Int) then ((impl_TextNum.f k (rdOf ByteArray.empty x16 x18)).bind fun bt315 => (if bt315.2 = true then (if x7.length < 17592186044416 then (impl_numbers.l0 k x1 x6 (x7 ++ [bt315.1]) x16 x17 (wrap64 (x18 + 1))) else (none)) else (some (([] : List Int), false)))) else (none)) else (none)) else (if 0 < (x6.length : Int) then (some (x7, ((rdOf ByteArray.empty x6 0).toList == x1.toList))) else (none))
def impl_numbers.f (k : Nat) (a0 : ByteArray) (a1 : ByteArray) : Option (List Int × Bool) := (impl_Cut.f k a0).bind fun t304 => (if 1 ≤ (t304.length : Int) then ((some (t304.tail : List ByteArray)).bind fun y310 => (impl_numbers.l0 k a1 t304 (([] : List Int)) y310 (y310.length : Int) 0)) else (none))
theorem impl_numbers.calls (k : Nat) (a0 : ByteArray) (a1 : ByteArray) (r1 : List Int) (r2 : Bool) (w : World)  (h : impl_numbers.f k a0 a1 = some (r1, r2)) :
  Calls Try.prog 27 #[.string a0, .string a1] w fun e w' => ∃ v0_ : Value, e = .returned (.tuple #[v0_, .bool r2]) ∧ Mem w [] w' [rowR (Kd.int .i64) 3 v0_ r1] := by
 have HM := Mem.nil w
 have H := h
 clear h
 unfold impl_numbers.f at H
 go_enter Try.func27, Try.ntmps27
 replace H := BN H; obtain ⟨t304, A3, H⟩ := H
 replace H := GD H; obtain ⟨c6, H⟩ := H
 have c6b0 := eq_true c6
 have c6b1 : decide (1 ≤ (t304.length : Int)) = true := decide_eq_true c6
 clear c6
 replace H := BLt H; obtain ⟨_, rfl, H⟩ := H
 have H' := Aside0.mk H
 clear H
 go_wp2_with (first | ((with_reducible refine gC 40 rfl ?_); refine pC (some 13) rfl #[.string a0] rfl Try.func40 (impl_Cut.calls k a0 t304 _ A3.out) ?_; rintro e w4 ⟨v305, rfl, hR⟩; refine ⟨_, rfl, ?_⟩; replace HM := HM.call hR; clear hR) | ((with_reducible refine gN 14 rfl ?_); refine pL 14 (Kd.int .i64) 3 ([] : List Int) [] (Reps.none _ _) HM rfl ?_; clear HM; intro v308 w5 HM; obtain ⟨Xo7, ko7, rfl⟩ := HM.rdR 0 rfl) | ((with_reducible refine gate_sl (t := 33) rfl ?_); refine pRdf 33 9 Kd.string _ _ 1 t304 Xo7 ko7 rfl Try.underlying33 info9 (HM.CR 0 rfl).2.1 (by omega) (of_decide_eq_true AS) ?_; intro Yx8 bx8 hYx8 hbx8; simp only [Int.reduceToNat, List.drop_one] at hYx8 hbx8; have HYx8 := Aside0.mk hYx8; have HBx8 := Aside0.mk hbx8; clear hYx8 hbx8))
 repeat (go_quiet (first | ((with_reducible refine gC 40 rfl ?_); refine pC (some 13) rfl #[.string a0] rfl Try.func40 (impl_Cut.calls k a0 t304 _ A3.out) ?_; rintro e w4 ⟨v305, rfl, hR⟩; refine ⟨_, rfl, ?_⟩; replace HM := HM.call hR; clear hR) | ((with_reducible refine gN 14 rfl ?_); refine pL 14 (Kd.int .i64) 3 ([] : List Int) [] (Reps.none _ _) HM rfl ?_; clear HM; intro v308 w5 HM; obtain ⟨Xo7, ko7, rfl⟩ := HM.rdR 0 rfl) | ((with_reducible refine gate_sl (t := 33) rfl ?_); refine pRdf 33 9 Kd.string _ _ 1 t304 Xo7 ko7 rfl Try.underlying33 info9 (HM.CR 0 rfl).2.1 (by omega) (of_decide_eq_true AS) ?_; intro Yx8 bx8 hYx8 hbx8; simp only [Int.reduceToNat, List.drop_one] at hYx8 hbx8; have HYx8 := Aside0.mk hYx8; have HBx8 := Aside0.mk hbx8; clear hYx8 hbx8)); try go_wp2_with (first | ((with_reducible refine gC 40 rfl ?_); refine pC (some 13) rfl #[.string a0] rfl Try.func40 (impl_Cut.calls k a0 t304 _ A3.out) ?_; rintro e w4 ⟨v305, rfl, hR⟩; refine ⟨_, rfl, ?_⟩; replace HM := HM.call hR; clear hR) | ((with_reducible refine gN 14 rfl ?_); refine pL 14 (Kd.int .i64) 3 ([] : List Int) [] (Reps.none _ _) HM rfl ?_; clear HM; intro v308 w5 HM; obtain ⟨Xo7, ko7, rfl⟩ := HM.rdR 0 rfl) | ((with_reducible refine gate_sl (t := 33) rfl ?_); refine pRdf 33 9 Kd.string _ _ 1 t304 Xo7 ko7 rfl Try.underlying33 info9 (HM.CR 0 rfl).2.1 (by omega) (of_decide_eq_true AS) ?_; intro Yx8 bx8 hYx8 hbx8; simp only [Int.reduceToNat, List.drop_one] at hYx8 hbx8; have HYx8 := Aside0.mk hYx8; have HBx8 := Aside0.mk hbx8; clear hYx8 hbx8)))
 go_loopg [7, 18] k (fun kq v7 v18 w' => ∃ (x7_1 : List Int) (x18_1 : Int), v18 = .int .i64 x18_1 ∧ Aside0 (impl_numbers.l0 kq a1 t304 x7_1 (t304.tail) ((t304.tail).length : Int) x18_1 = some (r1, r2)) ∧ Aside0 (kq ≤ k) ∧ Mem w [] w' [rowR Kd.string 9 (.slice Xo7 t304.length ko7) t304, rowR (Kd.int .i64) 3 v7 x7_1])
 case atStart => exact ⟨((([] : List Int))), (0), RS, H', ⟨Nat.le_refl _⟩, (MD HM).pick [0, 1]⟩
 case round =>
  clear H' HM
  obtain ⟨x7_1, x18_1, rfl, HA, HK1, HM⟩ := hrel
  cases gk with
  | zero => exact absurd HA.out (by simp [impl_numbers.l0])
  | succ k1 =>
   have H := HA.out
   clear HA
   simp only [impl_numbers.l0] at H
   go_upto_if 19 with (fail)
   repeat (go_quiet (fail); go_upto_if 19 with (fail))
   replace H := IT H; rcases H with ⟨c9, H⟩ | ⟨c9, H⟩
   ·have c9b0 := decide_eq_true c9
    have c9b5 := c9b0
    simp only [List.length_tail] at c9b5
    clear c9
    first|rw [c9b0]|rw [c9b5]|(simp only [i64_w, i32_w]; rw [c9b0])|skip
    replace H := GD H; obtain ⟨c10, H⟩ := H
    have c10b0 := decide_eq_true c10
    clear c10
    replace H := GD H; obtain ⟨c11, H⟩ := H
    have c11b0 := decide_eq_true c11
    have c11b5 := c11b0
    simp only [List.length_tail] at c11b5
    clear c11
    replace H := BN H; obtain ⟨⟨t315, t316⟩, A12, H⟩ := H
    have p314 : 0 ≤ (x18_1 : Int) := of_decide_eq_true AS
    have q314 : (x18_1 : Int) < ((t304.tail).length : Int) := of_decide_eq_true AS
    obtain ⟨ad314, e314, hx314_0⟩ := Kd.at_string (HYx8.out _ (HM.CR 0 rfl).2.2) x18_1 p314 q314
    cases e314
    replace p314 := eq_true p314
    replace q314 := eq_true q314
    have qt314 := q314
    simp only [List.length_tail] at qt314
    go_upto_if 28 with (first | ((with_reducible refine gC 41 rfl ?_); refine pC (some 24) rfl #[.string (rdOf ByteArray.empty (t304.tail) x18_1)] rfl Try.func41 (impl_TextNum.calls k1 (rdOf ByteArray.empty (t304.tail) x18_1) t315 t316 _ A12.out) ?_; rintro e w13 ⟨rfl, hR⟩; refine ⟨_, rfl, ?_⟩; replace HM := HM.call hR; clear hR))
    repeat (go_quiet (first | ((with_reducible refine gC 41 rfl ?_); refine pC (some 24) rfl #[.string (rdOf ByteArray.empty (t304.tail) x18_1)] rfl Try.func41 (impl_TextNum.calls k1 (rdOf ByteArray.empty (t304.tail) x18_1) t315 t316 _ A12.out) ?_; rintro e w13 ⟨rfl, hR⟩; refine ⟨_, rfl, ?_⟩; replace HM := HM.call hR; clear hR)); go_upto_if 28 with (first | ((with_reducible refine gC 41 rfl ?_); refine pC (some 24) rfl #[.string (rdOf ByteArray.empty (t304.tail) x18_1)] rfl Try.func41 (impl_TextNum.calls k1 (rdOf ByteArray.empty (t304.tail) x18_1) t315 t316 _ A12.out) ?_; rintro e w13 ⟨rfl, hR⟩; refine ⟨_, rfl, ?_⟩; replace HM := HM.call hR; clear hR)))
    replace H := IB H
    rcases H with ⟨c14, H⟩ | ⟨c14, H⟩
    ·subst c14
     replace H := GD H; obtain ⟨c15, H⟩ := H
     have LMc15 := Aside0.mk c15
     clear c15
     have H' := Aside0.mk H
     clear H
     go_wp2_with (first | ((with_reducible refine gN 31 rfl ?_); refine pL 31 (Kd.int .i64) 3 [t315] [.int .i64 t315] (Reps.one (show Kd.M (Kd.int .i64) _ _ _ t315 [.int .i64 t315] from rfl) (Reps.none _ _)) HM rfl ?_; clear HM; intro v17 w16 HM; obtain ⟨Xv17, kv17, rfl⟩ := HM.rdR 2 rfl) | ((with_reducible refine gate_builtin (b := .append) (xs := #[.tmp 29, .tmp 31]) rfl ?_); refine pA 1 (.tmp 29) (.tmp 31) 23 3 (Kd.int .i64) u7 x7_1 [t315] Xv17 ([t315].length) kv17 HM rfl Try.underlying23 info3 rfl (HM.CR 2 rfl).2.2 (by have h_ := LMc15.out; simp only [List.length_singleton]; omega) ?_; clear HM; intro v318 w18 HM))
     repeat (go_quiet (first | ((with_reducible refine gN 31 rfl ?_); refine pL 31 (Kd.int .i64) 3 [t315] [.int .i64 t315] (Reps.one (show Kd.M (Kd.int .i64) _ _ _ t315 [.int .i64 t315] from rfl) (Reps.none _ _)) HM rfl ?_; clear HM; intro v17 w16 HM; obtain ⟨Xv17, kv17, rfl⟩ := HM.rdR 2 rfl) | ((with_reducible refine gate_builtin (b := .append) (xs := #[.tmp 29, .tmp 31]) rfl ?_); refine pA 1 (.tmp 29) (.tmp 31) 23 3 (Kd.int .i64) u7 x7_1 [t315] Xv17 ([t315].length) kv17 HM rfl Try.underlying23 info3 rfl (HM.CR 2 rfl).2.2 (by have h_ := LMc15.out; simp only [List.length_singleton]; omega) ?_; clear HM; intro v318 w18 HM)); try go_wp2_with (first | ((with_reducible refine gN 31 rfl ?_); refine pL 31 (Kd.int .i64) 3 [t315] [.int .i64 t315] (Reps.one (show Kd.M (Kd.int .i64) _ _ _ t315 [.int .i64 t315] from rfl) (Reps.none _ _)) HM rfl ?_; clear HM; intro v17 w16 HM; obtain ⟨Xv17, kv17, rfl⟩ := HM.rdR 2 rfl) | ((with_reducible refine gate_builtin (b := .append) (xs := #[.tmp 29, .tmp 31]) rfl ?_); refine pA 1 (.tmp 29) (.tmp 31) 23 3 (Kd.int .i64) u7 x7_1 [t315] Xv17 ([t315].length) kv17 HM rfl Try.underlying23 info3 rfl (HM.CR 2 rfl).2.2 (by have h_ := LMc15.out; simp only [List.length_singleton]; omega) ?_; clear HM; intro v318 w18 HM)))
     go_roundg k1
     case measure => have := HK1.out; omega
     case rel => exact ⟨((x7_1 ++ [t315])), (wrap64 (x18_1 + 1)), RS, H', ⟨by have := HK1.out; omega⟩, (MD HM).pick [0, 1]⟩
    ·subst c14
     simp only [Option.some.injEq, Prod.mk.injEq] at H
     obtain ⟨rfl, rfl⟩ := H
     replace HM := HM.nl (Kd.int .i64) 3
     go_wp2
     repeat (go_quiet (fail); try go_wp2_with (fail))
     go_ret2
     exact ⟨_, ER, (MD HM).pick [2]⟩
   ·have c9b0 : decide (x18_1 < ((t304.tail).length : Int)) = false := decide_eq_false c9
    have c9b5 := c9b0
    simp only [List.length_tail] at c9b5
    clear c9
    first|rw [c9b0]|rw [c9b5]|(simp only [i64_w, i32_w]; rw [c9b0])|skip
    replace H := GD H; obtain ⟨c19, H⟩ := H
    replace c19 : 0 < (t304.length : Int) := c19
    have c19b0 : decide (0 < (t304.length : Int)) = true := decide_eq_true c19
    have c19b1 : decide (0 < t304.length) = true := decide_eq_true (by omega)
    have c19b9 : decide (0 < t304.length) = true := decide_eq_true (by omega)
    clear c19
    simp only [Option.some.injEq, Prod.mk.injEq] at H
    obtain ⟨rfl, rfl⟩ := H
    have p320 : 0 ≤ (0 : Int) := (by omega)
    have q320 : (0 : Int) < (t304.length : Int) := of_decide_eq_true AS
    obtain ⟨ad320, e320, hx320_0⟩ := Kd.at_string (HM.CR 0 rfl).2.2 0 p320 q320
    cases e320
    have qi320 : (0 < t304.length) = True := eq_true (by omega)
    (try rw [show ((0 : Int)).toNat = 0 from rfl] at hx320_0)
    (try rw [Addr.add_zero'] at hx320_0)
    replace p320 := eq_true p320
    replace q320 := eq_true q320
    go_wp2
    repeat (go_quiet (fail); try go_wp2_with (fail))
    go_ret2
    exact ⟨_, ER, (MD HM).pick [1]⟩
end Go.Proofs.Ytnlnifpehndacaa.G

namespace Go.Proofs.Ytnlnifpehndacaa.G
open Go.RowKit Go.Proofs.YtnlnifpehndacaaW.PrintWords Go.Proofs.YtnlnifpehndacaaW.PrintLast Go.Proofs.YtnlnifpehndacaaW.PrintMore Go.Proofs.Ytnlnifpehndacaa.Sh
attribute [local go_sem] max2_int min2_int max_two min_two max_three min_three max_four min_four
set_option linter.unusedVariables false
set_option linter.unusedSimpArgs false
open Go.Proofs.Ytnlnifpehndacaa.Man
open Go.Proofs.Ytnlnifpehndacaa.CutL
def strings_Cut.f (a0 : ByteArray) (a1 : ByteArray) : Option (ByteArray × ByteArray × Bool) := if a0.size < 4294967281 then (if a1 = (⟨#[61]⟩ : ByteArray) then some (cutAt a0 61) else if a1 = (⟨#[42]⟩ : ByteArray) then some (cutAt a0 42) else none) else none
theorem strings_Cut.one (a0 : ByteArray) (c : UInt8) (w : World) (hs : a0.size < 4294967281) :
  Calls Try.prog 90 #[.string a0, .string ⟨#[c]⟩] w fun e w' => e = .returned (.tuple #[.string (cutAt a0 c).1, .string (cutAt a0 c).2.1, .bool (cutAt a0 c).2.2]) ∧ Below w.heap.size w w' := by
 have hc := cut_one a0 c w hs
 clear hs
 obtain ⟨⟨x, y, z⟩, hr⟩ : ∃ r, r = cutAt a0 c := ⟨_, rfl⟩
 rw [← hr] at hc ⊢
 clear hr
 go_enter Try.func90, Try.ntmps90
 go_wp2_with fail
 refine hc.mono ?_
 rintro e w' ⟨rfl, hb⟩
 have HB := Aside0.mk hb
 clear hb hc
 go_wp2
 go_ret3
 exact ⟨rfl, HB.out⟩
theorem strings_Cut.calls (a0 : ByteArray) (a1 : ByteArray) (r1 : ByteArray) (r2 : ByteArray) (r3 : Bool) (w : World) (h : strings_Cut.f a0 a1 = some (r1, r2, r3)) :
  Calls Try.prog 90 #[.string a0, .string a1] w fun e w' => e = .returned (.tuple #[.string r1, .string r2, .bool r3]) ∧ Below w.heap.size w w' := by
 unfold strings_Cut.f at h
 by_cases c : a0.size < 4294967281
 rotate_left
 ·rw [if_neg c] at h; cases h
 rw [if_pos c] at h
 by_cases c1 : a1 = (⟨#[61]⟩ : ByteArray)
 ·rw [if_pos c1] at h
  have h := Option.some.inj h
  subst c1
  have hh := strings_Cut.one a0 61 w c
  rw [h] at hh
  exact hh
 rw [if_neg c1] at h
 by_cases c2 : a1 = (⟨#[42]⟩ : ByteArray)
 ·rw [if_pos c2] at h
  have h := Option.some.inj h
  subst c2
  have hh := strings_Cut.one a0 42 w c
  rw [h] at hh
  exact hh
 rw [if_neg c2] at h; cases h
end Go.Proofs.Ytnlnifpehndacaa.G

namespace Go.Proofs.Ytnlnifpehndacaa.G
open Go.RowKit Go.Proofs.YtnlnifpehndacaaW.PrintWords Go.Proofs.YtnlnifpehndacaaW.PrintLast Go.Proofs.YtnlnifpehndacaaW.PrintMore Go.Proofs.Ytnlnifpehndacaa.Sh
attribute [local go_sem] max2_int min2_int max_two min_two max_three min_three max_four min_four
set_option linter.unusedVariables false
set_option linter.unusedSimpArgs false
open Go.Proofs.Ytnlnifpehndacaa.Man
def strings_ContainsAny.f (a0 : ByteArray) (a1 : ByteArray) : Option Bool := if a1 = (⟨#[61, 42]⟩ : ByteArray) ∧ a0.size < 4294967281 then some (hasMark a0) else none
theorem strings_ContainsAny.calls (a0 : ByteArray) (a1 : ByteArray) (r : Bool) (w : World) (h : strings_ContainsAny.f a0 a1 = some r) :
  Calls Try.prog 99 #[.string a0, .string a1] w fun e w' => e = .returned (.bool r) ∧ Below w.heap.size w w' := by
 unfold strings_ContainsAny.f at h
 by_cases c : a1 = (⟨#[61, 42]⟩ : ByteArray) ∧ a0.size < 4294967281
 rotate_left
 ·rw [if_neg c] at h; cases h
 rw [if_pos c] at h
 obtain rfl := Option.some.inj h
 obtain ⟨rfl, hs⟩ := c
 have hc := indexAny_mark a0 hs w
 have hm := Aside0.mk (hasMark_iff a0)
 clear h hs
 obtain ⟨m, hmm⟩ : ∃ m, m = hasMark a0 := ⟨_, rfl⟩
 rw [← hmm] at hm ⊢
 clear hmm
 go_enter Try.func99, Try.ntmps99
 go_wp2_with fail
 refine hc.mono ?_
 rintro e w' ⟨q, rfl, hq, hb⟩
 have HB := Aside0.mk hb
 rw [hm.out] at hq
 clear hb hc
 by_cases hq0 : 0 ≤ q
 ·obtain rfl : m = true := hq.1 hq0
  clear hq
  go_wp2
  go_ret
  exact ⟨rfl, HB.out⟩
 ·obtain rfl : m = false := by
   cases m
   ·rfl
   ·exact absurd (hq.2 rfl) hq0
  have hd : decide (0 ≤ q) = false := decide_eq_false hq0
  clear hq
  go_wp2
  go_ret
  exact ⟨rfl, HB.out⟩
end Go.Proofs.Ytnlnifpehndacaa.G

namespace Go.Proofs.Ytnlnifpehndacaa.G
open Go.RowKit Go.Proofs.YtnlnifpehndacaaW.PrintWords Go.Proofs.YtnlnifpehndacaaW.PrintLast Go.Proofs.YtnlnifpehndacaaW.PrintMore Go.Proofs.Ytnlnifpehndacaa.Sh
attribute [local go_sem] max2_int min2_int max_two min_two max_three min_three max_four min_four
set_option linter.unusedVariables false
set_option linter.unusedSimpArgs false
open Go.Proofs.Ytnlnifpehndacaa.Mm
def impl_ItemText.f (k : Nat) (a0_0 : ByteArray) (a0_1 : ByteArray) (a0_2 : Int) : Option (ByteArray) := (impl_ItemOk.f k a0_0 a0_1 a0_2).bind fun t332 => (if t332 = true then (if a0_0.size + a0_1.size ≤ 9223372036854775807 then ((strings_ContainsAny.f (a0_0 ++ a0_1) (⟨#[61, 42]⟩ : ByteArray)).bind fun t333 => (if t333 = true then (some (⟨#[]⟩ : ByteArray)) else (if a0_0.size + 1 ≤ 9223372036854775807 then (if a0_0.size + 1 + a0_1.size ≤ 9223372036854775807 then (if a0_0.size + 1 + a0_1.size + 1 ≤ 9223372036854775807 then ((impl_NumText.f k a0_2).bind fun t334 => (if a0_0.size + 1 + a0_1.size + 1 + t334.size ≤ 9223372036854775807 then (some ((((a0_0 ++ (⟨#[61]⟩ : ByteArray)) ++ a0_1) ++ (⟨#[42]⟩ : ByteArray)) ++ t334)) else (none))) else (none)) else (none)) else (none)))) else (none)) else (some (⟨#[]⟩ : ByteArray)))
def impl_ItemText.T3 : Bool × List (List Nat × List Nat) := (true, [([], []), ([0], [0]), ([1], [1]), ([], []), ([3], [3]), ([2, 4], [2, 4]), ([5], [5]), ([], []), ([7], [7]), ([8], [8]), ([6, 9], [6, 9]), ([10, 9, 0, 1, 2, 3, 4, 5, 6, 7, 8, 9, 10], [10])])
def impl_ItemText.B3 : List Nat := [0, 1, 3, 0, 8, 31, 63, 0, 128, 384, 1023, 2047]
theorem impl_ItemText.tab3 : rtab .any (opsOf Try.f91 3) = impl_ItemText.T3 := by kernel_rfl
theorem impl_ItemText.bits3 : waitsOk impl_ItemText.T3.2 impl_ItemText.B3 = true := by kernel_rfl
theorem impl_ItemText.calls (k : Nat) (a0_0 : ByteArray) (a0_1 : ByteArray) (a0_2 : Int) (r : ByteArray) (w : World)  (h : impl_ItemText.f k a0_0 a0_1 a0_2 = some r) :
  Calls Try.prog 91 #[.agg #[.string a0_0, .string a0_1, .int .i64 a0_2]] w fun e w' => e = .returned (.string r) ∧ Mem w [] w' [] := by
 have hu76 := Try.underlying76
 have HM := Mem.nil w
 have H := h
 clear h
 unfold impl_ItemText.f at H
 go_enter Try.func91, Try.ntmps91
 replace H := BN H; obtain ⟨t332, A4, H⟩ := H
 replace H := IB H
 rcases H with ⟨c6, H⟩ | ⟨c6, H⟩
 ·subst c6
  replace H := GD H; obtain ⟨c8, H⟩ := H
  have c8b0 := eq_true c8
  have c8b1 : decide (a0_0.size + a0_1.size ≤ 9223372036854775807) = true := decide_eq_true c8
  try have c8b2 : (9223372036854775807 < a0_0.size + a0_1.size) = False := eq_false (Nat.not_lt.2 c8)
  replace H := BN H; obtain ⟨t333, A9, H⟩ := H
  go_upto_if 13 with (first | ((with_reducible refine gN 1 rfl ?_); refine pB 1 76 [.string a0_0, .string a0_1, .int .i64 a0_2] HM rfl ?_; clear HM; intro gb331 w2 HM; obtain ⟨_,_,_,_,_,_⟩ := bk3 (HM.bx 0 rfl)) | ((with_reducible refine gC 93 rfl ?_); refine pC (some 4) rfl #[.agg #[.string a0_0, .string a0_1, .int .i64 a0_2]] rfl Try.func93 (impl_ItemOk.calls k a0_0 a0_1 a0_2 true _ A4.out) ?_; rintro e w5 ⟨rfl, hR⟩; refine ⟨_, rfl, ?_⟩; replace HM := HM.call hR; clear hR; obtain ⟨_,_,_,_,_,_⟩ := bk3 (HM.bx 0 rfl)) | ((with_reducible refine gC 99 rfl ?_); refine pC (some 12) rfl #[.string (a0_0 ++ a0_1), .string (⟨#[61, 42]⟩ : ByteArray)] rfl Try.func99 (strings_ContainsAny.calls (a0_0 ++ a0_1) (⟨#[61, 42]⟩ : ByteArray) t333 _ A9.out) ?_; rintro e w10 ⟨rfl, hb⟩; refine ⟨_, rfl, ?_⟩; replace HM := HM.below hb; clear hb))
  replace HM := nzM HM
  replace H := IB H
  rcases H with ⟨c11, H⟩ | ⟨c11, H⟩
  ·subst c11
   obtain rfl := Option.some.inj H
   go_wp2
   go_ret
   exact ⟨ER, (MD HM).pick []⟩
  ·subst c11
   try go_wp2
   replace H := GD H; obtain ⟨c12, H⟩ := H
   have c12b0 := eq_true c12
   have c12b1 : decide (a0_0.size + 1 ≤ 9223372036854775807) = true := decide_eq_true c12
   try have c12b2 : (9223372036854775807 < a0_0.size + 1) = False := eq_false (Nat.not_lt.2 c12)
   replace H := GD H; obtain ⟨c13, H⟩ := H
   have c13b0 := eq_true c13
   have c13b1 : decide (a0_0.size + 1 + a0_1.size ≤ 9223372036854775807) = true := decide_eq_true c13
   try have c13b2 : (9223372036854775807 < a0_0.size + 1 + a0_1.size) = False := eq_false (Nat.not_lt.2 c13)
   replace H := GD H; obtain ⟨c14, H⟩ := H
   have c14b0 := eq_true c14
   have c14b1 : decide (a0_0.size + 1 + a0_1.size + 1 ≤ 9223372036854775807) = true := decide_eq_true c14
   try have c14b2 : (9223372036854775807 < a0_0.size + 1 + a0_1.size + 1) = False := eq_false (Nat.not_lt.2 c14)
   replace H := BN H; obtain ⟨t334, A15, H⟩ := H
   replace H := GD H; obtain ⟨c16, H⟩ := H
   have c16b0 := eq_true c16
   have c16b1 : decide (a0_0.size + 1 + a0_1.size + 1 + t334.size ≤ 9223372036854775807) = true := decide_eq_true c16
   try have c16b2 : (9223372036854775807 < a0_0.size + 1 + a0_1.size + 1 + t334.size) = False := eq_false (Nat.not_lt.2 c16)
   refine RGN 12 [0, 1, 2, 3, 4, 5, 6, 7, 8, 9, 10, 11] (fun a0 b a w' => a = putSel a0 b [(0, 14, .pointer (some ⟨gb331, 0, none⟩)), (1, 15, .string a0_0), (2, 16, .string (a0_0 ++ (⟨#[61]⟩ : ByteArray))), (3, 17, .pointer (some ⟨gb331, 1, none⟩)), (4, 18, .string a0_1), (5, 19, .string ((a0_0 ++ (⟨#[61]⟩ : ByteArray)) ++ a0_1)), (6, 20, .string (((a0_0 ++ (⟨#[61]⟩ : ByteArray)) ++ a0_1) ++ (⟨#[42]⟩ : ByteArray))), (7, 21, .pointer (some ⟨gb331, 2, none⟩)), (8, 22, .int .i64 a0_2), (9, 23, .string t334), (10, 24, .string ((((a0_0 ++ (⟨#[61]⟩ : ByteArray)) ++ a0_1) ++ (⟨#[42]⟩ : ByteArray)) ++ t334)), (11, 2, .string ((((a0_0 ++ (⟨#[61]⟩ : ByteArray)) ++ a0_1) ++ (⟨#[42]⟩ : ByteArray)) ++ t334))] ∧ Mem w [] w' [box 76 gb331 [.string a0_0, .string a0_1, .int .i64 a0_2]]) impl_ItemText.tab3 impl_ItemText.bits3 ?_ ?_ ?_
   ·exact ⟨PS0' rfl _, (HM.drew).pick [0]⟩
   ·clear HM
    refine SY ?_ ?_
    ·intro b a w ha HM hb hon hoff K hK
     have e1 := PG ha 1
     exact VL (.pointer (some ⟨gb331, 0, none⟩)) (hK.out _ _ ⟨PUT ha 0 hb, HM⟩)
    refine SY ?_ ?_
    ·intro b a w ha HM hb hon hoff K hK
     obtain ⟨_,_,_,_,_,_⟩ := bk3 (HM.bx 0 rfl)
     have e14 := PE ha 0 hon
     exact VL (.string a0_0) (hK.out _ _ ⟨PUT ha 1 hb, HM⟩)
    refine SY ?_ ?_
    ·intro b a w ha HM hb hon hoff K hK
     have e15 := PE ha 1 hon
     exact VL (.string (a0_0 ++ (⟨#[61]⟩ : ByteArray))) (hK.out _ _ ⟨PUT ha 2 hb, HM⟩)
    refine SY ?_ ?_
    ·intro b a w ha HM hb hon hoff K hK
     have e1 := PG ha 1
     exact VL (.pointer (some ⟨gb331, 1, none⟩)) (hK.out _ _ ⟨PUT ha 3 hb, HM⟩)
    refine SY ?_ ?_
    ·intro b a w ha HM hb hon hoff K hK
     obtain ⟨_,_,_,_,_,_⟩ := bk3 (HM.bx 0 rfl)
     have e17 := PE ha 3 hon
     exact VL (.string a0_1) (hK.out _ _ ⟨PUT ha 4 hb, HM⟩)
    refine SY ?_ ?_
    ·intro b a w ha HM hb hon hoff K hK
     have e16 := PE ha 2 hon
     have e18 := PE ha 4 hon
     exact VL (.string ((a0_0 ++ (⟨#[61]⟩ : ByteArray)) ++ a0_1)) (hK.out _ _ ⟨PUT ha 5 hb, HM⟩)
    refine SY ?_ ?_
    ·intro b a w ha HM hb hon hoff K hK
     have e19 := PE ha 5 hon
     exact VL (.string (((a0_0 ++ (⟨#[61]⟩ : ByteArray)) ++ a0_1) ++ (⟨#[42]⟩ : ByteArray))) (hK.out _ _ ⟨PUT ha 6 hb, HM⟩)
    refine SY ?_ ?_
    ·intro b a w ha HM hb hon hoff K hK
     have e1 := PG ha 1
     exact VL (.pointer (some ⟨gb331, 2, none⟩)) (hK.out _ _ ⟨PUT ha 7 hb, HM⟩)
    refine SY ?_ ?_
    ·intro b a w ha HM hb hon hoff K hK
     obtain ⟨_,_,_,_,_,_⟩ := bk3 (HM.bx 0 rfl)
     have e21 := PE ha 7 hon
     exact VL (.int .i64 a0_2) (hK.out _ _ ⟨PUT ha 8 hb, HM⟩)
    refine SY ?_ ?_
    ·intro b a w ha HM hb hon hoff K hK
     have e22 := PE ha 8 hon
     refine ST (eC (some 23) rfl #[.int .i64 a0_2] rfl Try.func79 (impl_NumText.calls k a0_2 t334 _ A15.out) ?_ (hargs := by (simp only [List.map_toArray, List.map_cons, List.map_nil, evc, eval_of e22]) <;> rfl))
     rintro e w24 ⟨rfl, hR⟩
     refine ⟨_, rfl, ?_⟩
     replace HM := HM.call hR
     clear hR
     exact hK.out _ _ ⟨PUT ha 9 hb, (HM).pick [0]⟩
    refine SY ?_ ?_
    ·intro b a w ha HM hb hon hoff K hK
     have e20 := PE ha 6 hon
     have e23 := PE ha 9 hon
     exact VL (.string ((((a0_0 ++ (⟨#[61]⟩ : ByteArray)) ++ a0_1) ++ (⟨#[42]⟩ : ByteArray)) ++ t334)) (hK.out _ _ ⟨PUT ha 10 hb, HM⟩)
    refine SY ?_ ?_
    ·intro b a w ha HM hb hon hoff K hK
     have e24 := PE ha 10 hon
     exact VL (.string ((((a0_0 ++ (⟨#[61]⟩ : ByteArray)) ++ a0_1) ++ (⟨#[42]⟩ : ByteArray)) ++ t334)) (hK.out _ _ ⟨PUT ha 11 hb, HM⟩)
    exact steps_nil
   rintro _ w25 ⟨rfl, HM⟩
   simp only [putSel, if_true, Act.put, List.setIfInBounds_toArray, List.set_cons_zero, List.set_cons_succ, gt_iff_lt, ge_iff_le]
   obtain rfl := Option.some.inj H
   go_wp2
   go_ret
   exact ⟨ER, (MD HM).pick []⟩
 ·subst c6
  obtain rfl := Option.some.inj H
  go_wp2_with (first | ((with_reducible refine gN 1 rfl ?_); refine pB 1 76 [.string a0_0, .string a0_1, .int .i64 a0_2] HM rfl ?_; clear HM; intro gb331 w2 HM; obtain ⟨_,_,_,_,_,_⟩ := bk3 (HM.bx 0 rfl)) | ((with_reducible refine gC 93 rfl ?_); refine pC (some 4) rfl #[.agg #[.string a0_0, .string a0_1, .int .i64 a0_2]] rfl Try.func93 (impl_ItemOk.calls k a0_0 a0_1 a0_2 false _ A4.out) ?_; rintro e w5 ⟨rfl, hR⟩; refine ⟨_, rfl, ?_⟩; replace HM := HM.call hR; clear hR))
  go_ret
  exact ⟨ER, (MD HM).pick []⟩
def impl_TextItem.f (k : Nat) (a0 : ByteArray) : Option (ByteArray × ByteArray × Int × Bool) := (strings_Cut.f a0 (⟨#[61]⟩ : ByteArray)).bind fun bt336 => ((strings_Cut.f bt336.2.1 (⟨#[42]⟩ : ByteArray)).bind fun bt339 => ((impl_TextNum.f k bt339.2.1).bind fun bt342 => (if bt336.2.2 = true then (if bt339.2.2 = true then (if bt342.2 = true then ((impl_ItemText.f k bt336.1 bt339.1 bt342.1).bind fun t345 => (if t345.toList = a0.toList then (some (bt336.1, bt339.1, bt342.1, true)) else (some ((⟨#[]⟩ : ByteArray), (⟨#[]⟩ : ByteArray), 0, false)))) else (some ((⟨#[]⟩ : ByteArray), (⟨#[]⟩ : ByteArray), 0, false))) else (some ((⟨#[]⟩ : ByteArray), (⟨#[]⟩ : ByteArray), 0, false))) else (some ((⟨#[]⟩ : ByteArray), (⟨#[]⟩ : ByteArray), 0, false)))))
theorem impl_TextItem.calls (k : Nat) (a0 : ByteArray) (r1 : ByteArray) (r2 : ByteArray) (r3 : Int) (r4 : Bool) (w : World)  (h : impl_TextItem.f k a0 = some (r1, r2, r3, r4)) :
  Calls Try.prog 65 #[.string a0] w fun e w' => e = .returned (.tuple #[.agg #[.string r1, .string r2, .int .i64 r3], .bool r4]) ∧ Mem w [] w' [] := by
 have hu76 := Try.underlying76
 have HM := Mem.nil w
 have H := h
 clear h
 unfold impl_TextItem.f at H
 go_enter Try.func65, Try.ntmps65
 replace H := BN H; obtain ⟨⟨t336, t337, t338⟩, A3, H⟩ := H
 replace H := BN H; obtain ⟨⟨t339, t340, t341⟩, A5, H⟩ := H
 replace H := BN H; obtain ⟨⟨t342, t343⟩, A7, H⟩ := H
 replace H := IB H
 rcases H with ⟨c11, H⟩ | ⟨c11, H⟩
 ·subst c11
  replace H := IB H
  rcases H with ⟨c12, H⟩ | ⟨c12, H⟩
  ·subst c12
   replace H := IB H
   rcases H with ⟨c13, H⟩ | ⟨c13, H⟩
   ·subst c13
    replace H := BN H; obtain ⟨t345, A15, H⟩ := H
    go_upto_if 49 with (first | ((with_reducible refine gN 2 rfl ?_); refine pB 2 76 [.string (⟨#[]⟩ : ByteArray), .string (⟨#[]⟩ : ByteArray), .int .i64 0] HM rfl ?_; clear HM; intro gb335 w2 HM) | ((with_reducible refine gC 90 rfl ?_); refine pC (some 15) rfl #[.string a0, .string (⟨#[61]⟩ : ByteArray)] rfl Try.func90 (strings_Cut.calls a0 (⟨#[61]⟩ : ByteArray) t336 t337 true _ A3.out) ?_; rintro e w4 ⟨rfl, hb⟩; refine ⟨_, rfl, ?_⟩; replace HM := HM.below hb; clear hb) | ((with_reducible refine gC 90 rfl ?_); refine pC (some 21) rfl #[.string t337, .string (⟨#[42]⟩ : ByteArray)] rfl Try.func90 (strings_Cut.calls t337 (⟨#[42]⟩ : ByteArray) t339 t340 true _ A5.out) ?_; rintro e w6 ⟨rfl, hb⟩; refine ⟨_, rfl, ?_⟩; replace HM := HM.below hb; clear hb) | ((with_reducible refine gC 41 rfl ?_); refine pC (some 27) rfl #[.string t340] rfl Try.func41 (impl_TextNum.calls k t340 t342 true _ A7.out) ?_; rintro e w8 ⟨rfl, hR⟩; refine ⟨_, rfl, ?_⟩; replace HM := HM.call hR; clear hR) | ((with_reducible refine gN 12 rfl ?_); refine pB 12 76 [.string (⟨#[]⟩ : ByteArray), .string (⟨#[]⟩ : ByteArray), .int .i64 0] HM rfl ?_; clear HM; intro gb344 w9 HM) | ((with_reducible refine gS 12 rfl ?_); refine pS 1 12 0 [.string t336, .string t339, .int .i64 t342] HM rfl rfl ?_; clear HM; intro w10 HM; obtain ⟨_,_,_,_,_,_⟩ := bk3 (HM.bx 1 rfl)) | ((with_reducible refine gC 91 rfl ?_); refine pC (some 46) rfl #[.agg #[.string t336, .string t339, .int .i64 t342]] rfl Try.func91 (impl_ItemText.calls k t336 t339 t342 t345 _ A15.out) ?_; rintro e w16 ⟨rfl, hR⟩; refine ⟨_, rfl, ?_⟩; replace HM := HM.call hR; clear hR))
    replace HM := nzM HM
    replace H := IT H; rcases H with ⟨c17, H⟩ | ⟨c17, H⟩
    ·have c17b0 : (t345.toList == a0.toList) = true := beq_iff_eq.mpr c17
     have c17b1 : (t345.toList != a0.toList) = false := bne_eq_false_iff_eq.mpr c17
     clear c17
     first|rw [c17b0]|(simp only [i64_w, i32_w]; rw [c17b0])|skip
     simp only [Option.some.injEq, Prod.mk.injEq] at H
     obtain ⟨rfl, rfl, rfl, rfl⟩ := H
     obtain ⟨_,_,_,_,_,_⟩ := bk3 (HM.bx 1 rfl)
     go_wp2_with (first | ((with_reducible refine gS 2 rfl ?_); refine pS 0 2 0 [.string t336, .string t339, .int .i64 t342] HM rfl rfl ?_; clear HM; intro w19 HM))
     refine bodyPost_ret (results_ct rfl _ _ gb335 76 #[.string t336, .string t339, .int .i64 t342] (0, 0) _ rfl (HM.bx 0 rfl) Try.underlying76 rfl (by kernel_rfl)) rfl ?_
     exact ⟨ER, (MD HM).pick []⟩
    ·have c17b0 : (t345.toList == a0.toList) = false := beq_eq_false_iff_ne.mpr c17
     have c17b1 : (t345.toList != a0.toList) = true := bne_iff_ne.mpr c17
     first|rw [c17b0]|(simp only [i64_w, i32_w]; rw [c17b0])|skip
     simp only [Option.some.injEq, Prod.mk.injEq] at H
     obtain ⟨rfl, rfl, rfl, rfl⟩ := H
     go_wp2_with (first | ((with_reducible refine gS 2 rfl ?_); refine pS 0 2 0 [.string (⟨#[]⟩ : ByteArray), .string (⟨#[]⟩ : ByteArray), .int .i64 0] HM rfl rfl ?_; clear HM; intro w20 HM))
     refine bodyPost_ret (results_ct rfl _ _ gb335 76 #[.string (⟨#[]⟩ : ByteArray), .string (⟨#[]⟩ : ByteArray), .int .i64 0] (0, 0) _ rfl (HM.bx 0 rfl) Try.underlying76 rfl (by kernel_rfl)) rfl ?_
     exact ⟨ER, (MD HM).pick []⟩
   ·subst c13
    simp only [Option.some.injEq, Prod.mk.injEq] at H
    obtain ⟨rfl, rfl, rfl, rfl⟩ := H
    go_wp2_with (first | ((with_reducible refine gN 2 rfl ?_); refine pB 2 76 [.string (⟨#[]⟩ : ByteArray), .string (⟨#[]⟩ : ByteArray), .int .i64 0] HM rfl ?_; clear HM; intro gb335 w2 HM) | ((with_reducible refine gC 90 rfl ?_); refine pC (some 15) rfl #[.string a0, .string (⟨#[61]⟩ : ByteArray)] rfl Try.func90 (strings_Cut.calls a0 (⟨#[61]⟩ : ByteArray) t336 t337 true _ A3.out) ?_; rintro e w4 ⟨rfl, hb⟩; refine ⟨_, rfl, ?_⟩; replace HM := HM.below hb; clear hb) | ((with_reducible refine gC 90 rfl ?_); refine pC (some 21) rfl #[.string t337, .string (⟨#[42]⟩ : ByteArray)] rfl Try.func90 (strings_Cut.calls t337 (⟨#[42]⟩ : ByteArray) t339 t340 true _ A5.out) ?_; rintro e w6 ⟨rfl, hb⟩; refine ⟨_, rfl, ?_⟩; replace HM := HM.below hb; clear hb) | ((with_reducible refine gC 41 rfl ?_); refine pC (some 27) rfl #[.string t340] rfl Try.func41 (impl_TextNum.calls k t340 t342 false _ A7.out) ?_; rintro e w8 ⟨rfl, hR⟩; refine ⟨_, rfl, ?_⟩; replace HM := HM.call hR; clear hR) | ((with_reducible refine gN 12 rfl ?_); refine pB 12 76 [.string (⟨#[]⟩ : ByteArray), .string (⟨#[]⟩ : ByteArray), .int .i64 0] HM rfl ?_; clear HM; intro gb344 w9 HM) | ((with_reducible refine gS 12 rfl ?_); refine pS 1 12 0 [.string t336, .string t339, .int .i64 t342] HM rfl rfl ?_; clear HM; intro w10 HM) | ((with_reducible refine gS 2 rfl ?_); refine pS 0 2 0 [.string (⟨#[]⟩ : ByteArray), .string (⟨#[]⟩ : ByteArray), .int .i64 0] HM rfl rfl ?_; clear HM; intro w21 HM))
    refine bodyPost_ret (results_ct rfl _ _ gb335 76 #[.string (⟨#[]⟩ : ByteArray), .string (⟨#[]⟩ : ByteArray), .int .i64 0] (0, 0) _ rfl (HM.bx 0 rfl) Try.underlying76 rfl (by kernel_rfl)) rfl ?_
    exact ⟨ER, (MD HM).pick []⟩
  ·subst c12
   simp only [Option.some.injEq, Prod.mk.injEq] at H
   obtain ⟨rfl, rfl, rfl, rfl⟩ := H
   go_wp2_with (first | ((with_reducible refine gN 2 rfl ?_); refine pB 2 76 [.string (⟨#[]⟩ : ByteArray), .string (⟨#[]⟩ : ByteArray), .int .i64 0] HM rfl ?_; clear HM; intro gb335 w2 HM) | ((with_reducible refine gC 90 rfl ?_); refine pC (some 15) rfl #[.string a0, .string (⟨#[61]⟩ : ByteArray)] rfl Try.func90 (strings_Cut.calls a0 (⟨#[61]⟩ : ByteArray) t336 t337 true _ A3.out) ?_; rintro e w4 ⟨rfl, hb⟩; refine ⟨_, rfl, ?_⟩; replace HM := HM.below hb; clear hb) | ((with_reducible refine gC 90 rfl ?_); refine pC (some 21) rfl #[.string t337, .string (⟨#[42]⟩ : ByteArray)] rfl Try.func90 (strings_Cut.calls t337 (⟨#[42]⟩ : ByteArray) t339 t340 false _ A5.out) ?_; rintro e w6 ⟨rfl, hb⟩; refine ⟨_, rfl, ?_⟩; replace HM := HM.below hb; clear hb) | ((with_reducible refine gC 41 rfl ?_); refine pC (some 27) rfl #[.string t340] rfl Try.func41 (impl_TextNum.calls k t340 t342 t343 _ A7.out) ?_; rintro e w8 ⟨rfl, hR⟩; refine ⟨_, rfl, ?_⟩; replace HM := HM.call hR; clear hR) | ((with_reducible refine gN 12 rfl ?_); refine pB 12 76 [.string (⟨#[]⟩ : ByteArray), .string (⟨#[]⟩ : ByteArray), .int .i64 0] HM rfl ?_; clear HM; intro gb344 w9 HM) | ((with_reducible refine gS 12 rfl ?_); refine pS 1 12 0 [.string t336, .string t339, .int .i64 t342] HM rfl rfl ?_; clear HM; intro w10 HM) | ((with_reducible refine gS 2 rfl ?_); refine pS 0 2 0 [.string (⟨#[]⟩ : ByteArray), .string (⟨#[]⟩ : ByteArray), .int .i64 0] HM rfl rfl ?_; clear HM; intro w22 HM))
   refine bodyPost_ret (results_ct rfl _ _ gb335 76 #[.string (⟨#[]⟩ : ByteArray), .string (⟨#[]⟩ : ByteArray), .int .i64 0] (0, 0) _ rfl (HM.bx 0 rfl) Try.underlying76 rfl (by kernel_rfl)) rfl ?_
   exact ⟨ER, (MD HM).pick []⟩
 ·subst c11
  simp only [Option.some.injEq, Prod.mk.injEq] at H
  obtain ⟨rfl, rfl, rfl, rfl⟩ := H
  go_wp2_with (first | ((with_reducible refine gN 2 rfl ?_); refine pB 2 76 [.string (⟨#[]⟩ : ByteArray), .string (⟨#[]⟩ : ByteArray), .int .i64 0] HM rfl ?_; clear HM; intro gb335 w2 HM) | ((with_reducible refine gC 90 rfl ?_); refine pC (some 15) rfl #[.string a0, .string (⟨#[61]⟩ : ByteArray)] rfl Try.func90 (strings_Cut.calls a0 (⟨#[61]⟩ : ByteArray) t336 t337 false _ A3.out) ?_; rintro e w4 ⟨rfl, hb⟩; refine ⟨_, rfl, ?_⟩; replace HM := HM.below hb; clear hb) | ((with_reducible refine gC 90 rfl ?_); refine pC (some 21) rfl #[.string t337, .string (⟨#[42]⟩ : ByteArray)] rfl Try.func90 (strings_Cut.calls t337 (⟨#[42]⟩ : ByteArray) t339 t340 t341 _ A5.out) ?_; rintro e w6 ⟨rfl, hb⟩; refine ⟨_, rfl, ?_⟩; replace HM := HM.below hb; clear hb) | ((with_reducible refine gC 41 rfl ?_); refine pC (some 27) rfl #[.string t340] rfl Try.func41 (impl_TextNum.calls k t340 t342 t343 _ A7.out) ?_; rintro e w8 ⟨rfl, hR⟩; refine ⟨_, rfl, ?_⟩; replace HM := HM.call hR; clear hR) | ((with_reducible refine gN 12 rfl ?_); refine pB 12 76 [.string (⟨#[]⟩ : ByteArray), .string (⟨#[]⟩ : ByteArray), .int .i64 0] HM rfl ?_; clear HM; intro gb344 w9 HM) | ((with_reducible refine gS 12 rfl ?_); refine pS 1 12 0 [.string t336, .string t339, .int .i64 t342] HM rfl rfl ?_; clear HM; intro w10 HM) | ((with_reducible refine gS 2 rfl ?_); refine pS 0 2 0 [.string (⟨#[]⟩ : ByteArray), .string (⟨#[]⟩ : ByteArray), .int .i64 0] HM rfl rfl ?_; clear HM; intro w23 HM))
  refine bodyPost_ret (results_ct rfl _ _ gb335 76 #[.string (⟨#[]⟩ : ByteArray), .string (⟨#[]⟩ : ByteArray), .int .i64 0] (0, 0) _ rfl (HM.bx 0 rfl) Try.underlying76 rfl (by kernel_rfl)) rfl ?_
  exact ⟨ER, (MD HM).pick []⟩
def impl_items.l0 : Nat → ByteArray → List ByteArray → List (S76) → List ByteArray → Int → Int → Option ((List (S76)) × Bool)
 | 0, _, _, _, _, _, _ => none
 | k + 1, x1, x6, x7, x16, x17, x18 => if x18 < x17 then (if 0 ≤ x18 then (if x18 < (x16.length : Int) then ((impl_TextItem.f k (rdOf ByteArray.empty x16 x18)).bind fun bt357 => (if bt357.2.2.2 = true then (if x7.length < 3518437208883 then (impl_items.l0 k x1 x6 (x7 ++ [(⟨bt357.1, bt357.2.1, bt357.2.2.1⟩ : S76)]) x16 x17 (wrap64 (x18 + 1))) else (none)) else (some (([] : List (S76)), false)))) else (none)) else (none)) else (if 0 < (x6.length : Int) then (some (x7, ((rdOf ByteArray.empty x6 0).toList == x1.toList))) else (none))
def impl_items.f (k : Nat) (a0 : ByteArray) (a1 : ByteArray) : Option ((List (S76)) × Bool) := (impl_Cut.f k a0).bind fun t346 => (if 1 ≤ (t346.length : Int) then ((some (t346.tail : List ByteArray)).bind fun y352 => (impl_items.l0 k a1 t346 (([] : List (S76))) y352 (y352.length : Int) 0)) else (none))
theorem impl_items.calls (k : Nat) (a0 : ByteArray) (a1 : ByteArray) (r1 : List (S76)) (r2 : Bool) (w : World)  (h : impl_items.f k a0 a1 = some (r1, r2)) :
  Calls Try.prog 28 #[.string a0, .string a1] w fun e w' => ∃ v0_ : Value, e = .returned (.tuple #[v0_, .bool r2]) ∧ Mem w [] w' [rowR k76 76 v0_ r1] := by
 have hu76 := Try.underlying76
 have HM := Mem.nil w
 have H := h
 clear h
 unfold impl_items.f at H
 go_enter Try.func28, Try.ntmps28
 replace H := BN H; obtain ⟨t346, A3, H⟩ := H
 replace H := GD H; obtain ⟨c6, H⟩ := H
 have c6b0 := eq_true c6
 have c6b1 : decide (1 ≤ (t346.length : Int)) = true := decide_eq_true c6
 clear c6
 replace H := BLt H; obtain ⟨_, rfl, H⟩ := H
 have H' := Aside0.mk H
 clear H
 go_wp2_with (first | ((with_reducible refine gC 40 rfl ?_); refine pC (some 13) rfl #[.string a0] rfl Try.func40 (impl_Cut.calls k a0 t346 _ A3.out) ?_; rintro e w4 ⟨v347, rfl, hR⟩; refine ⟨_, rfl, ?_⟩; replace HM := HM.call hR; clear hR) | ((with_reducible refine gN 14 rfl ?_); refine pL 14 k76 76 ([] : List (S76)) [] (Reps.none _ _) HM rfl ?_; clear HM; intro v350 w5 HM; obtain ⟨Xo7, ko7, rfl⟩ := HM.rdR 0 rfl) | ((with_reducible refine gate_sl (t := 33) rfl ?_); refine pRdf 33 9 Kd.string _ _ 1 t346 Xo7 ko7 rfl Try.underlying33 info9 (HM.CR 0 rfl).2.1 (by omega) (of_decide_eq_true AS) ?_; intro Yx8 bx8 hYx8 hbx8; simp only [Int.reduceToNat, List.drop_one] at hYx8 hbx8; have HYx8 := Aside0.mk hYx8; have HBx8 := Aside0.mk hbx8; clear hYx8 hbx8))
 repeat (go_quiet (first | ((with_reducible refine gC 40 rfl ?_); refine pC (some 13) rfl #[.string a0] rfl Try.func40 (impl_Cut.calls k a0 t346 _ A3.out) ?_; rintro e w4 ⟨v347, rfl, hR⟩; refine ⟨_, rfl, ?_⟩; replace HM := HM.call hR; clear hR) | ((with_reducible refine gN 14 rfl ?_); refine pL 14 k76 76 ([] : List (S76)) [] (Reps.none _ _) HM rfl ?_; clear HM; intro v350 w5 HM; obtain ⟨Xo7, ko7, rfl⟩ := HM.rdR 0 rfl) | ((with_reducible refine gate_sl (t := 33) rfl ?_); refine pRdf 33 9 Kd.string _ _ 1 t346 Xo7 ko7 rfl Try.underlying33 info9 (HM.CR 0 rfl).2.1 (by omega) (of_decide_eq_true AS) ?_; intro Yx8 bx8 hYx8 hbx8; simp only [Int.reduceToNat, List.drop_one] at hYx8 hbx8; have HYx8 := Aside0.mk hYx8; have HBx8 := Aside0.mk hbx8; clear hYx8 hbx8)); try go_wp2_with (first | ((with_reducible refine gC 40 rfl ?_); refine pC (some 13) rfl #[.string a0] rfl Try.func40 (impl_Cut.calls k a0 t346 _ A3.out) ?_; rintro e w4 ⟨v347, rfl, hR⟩; refine ⟨_, rfl, ?_⟩; replace HM := HM.call hR; clear hR) | ((with_reducible refine gN 14 rfl ?_); refine pL 14 k76 76 ([] : List (S76)) [] (Reps.none _ _) HM rfl ?_; clear HM; intro v350 w5 HM; obtain ⟨Xo7, ko7, rfl⟩ := HM.rdR 0 rfl) | ((with_reducible refine gate_sl (t := 33) rfl ?_); refine pRdf 33 9 Kd.string _ _ 1 t346 Xo7 ko7 rfl Try.underlying33 info9 (HM.CR 0 rfl).2.1 (by omega) (of_decide_eq_true AS) ?_; intro Yx8 bx8 hYx8 hbx8; simp only [Int.reduceToNat, List.drop_one] at hYx8 hbx8; have HYx8 := Aside0.mk hYx8; have HBx8 := Aside0.mk hbx8; clear hYx8 hbx8)))
 go_loopg [7, 18] k (fun kq v7 v18 w' => ∃ (x7_1 : List (S76)) (x18_1 : Int), v18 = .int .i64 x18_1 ∧ Aside0 (impl_items.l0 kq a1 t346 x7_1 (t346.tail) ((t346.tail).length : Int) x18_1 = some (r1, r2)) ∧ Aside0 (kq ≤ k) ∧ Mem w [] w' [rowR Kd.string 9 (.slice Xo7 t346.length ko7) t346, rowR k76 76 v7 x7_1])
 case atStart => exact ⟨((([] : List (S76)))), (0), RS, H', ⟨Nat.le_refl _⟩, (MD HM).pick [0, 1]⟩
 case round =>
  clear H' HM
  obtain ⟨x7_1, x18_1, rfl, HA, HK1, HM⟩ := hrel
  cases gk with
  | zero => exact absurd HA.out (by simp [impl_items.l0])
  | succ k1 =>
   have H := HA.out
   clear HA
   simp only [impl_items.l0] at H
   go_upto_if 19 with (fail)
   repeat (go_quiet (fail); go_upto_if 19 with (fail))
   replace H := IT H; rcases H with ⟨c9, H⟩ | ⟨c9, H⟩
   ·have c9b0 := decide_eq_true c9
    have c9b5 := c9b0
    simp only [List.length_tail] at c9b5
    clear c9
    first|rw [c9b0]|rw [c9b5]|(simp only [i64_w, i32_w]; rw [c9b0])|skip
    replace H := GD H; obtain ⟨c10, H⟩ := H
    have c10b0 := decide_eq_true c10
    clear c10
    replace H := GD H; obtain ⟨c11, H⟩ := H
    have c11b0 := decide_eq_true c11
    have c11b5 := c11b0
    simp only [List.length_tail] at c11b5
    clear c11
    replace H := BN H; obtain ⟨⟨t357, t358, t359, t360⟩, A12, H⟩ := H
    have p356 : 0 ≤ (x18_1 : Int) := of_decide_eq_true AS
    have q356 : (x18_1 : Int) < ((t346.tail).length : Int) := of_decide_eq_true AS
    obtain ⟨ad356, e356, hx356_0⟩ := Kd.at_string (HYx8.out _ (HM.CR 0 rfl).2.2) x18_1 p356 q356
    cases e356
    replace p356 := eq_true p356
    replace q356 := eq_true q356
    have qt356 := q356
    simp only [List.length_tail] at qt356
    go_upto_if 28 with (first | ((with_reducible refine gC 65 rfl ?_); refine pC (some 24) rfl #[.string (rdOf ByteArray.empty (t346.tail) x18_1)] rfl Try.func65 (impl_TextItem.calls k1 (rdOf ByteArray.empty (t346.tail) x18_1) t357 t358 t359 t360 _ A12.out) ?_; rintro e w13 ⟨rfl, hR⟩; refine ⟨_, rfl, ?_⟩; replace HM := HM.call hR; clear hR) | ((with_reducible refine gN 10 rfl ?_); refine pB 10 76 [.string (⟨#[]⟩ : ByteArray), .string (⟨#[]⟩ : ByteArray), .int .i64 0] HM rfl ?_; clear HM; intro gb361 w14 HM) | ((with_reducible refine gS 10 rfl ?_); refine pS 2 10 0 [.string t357, .string t358, .int .i64 t359] HM rfl rfl ?_; clear HM; intro w15 HM))
    repeat (go_quiet (first | ((with_reducible refine gC 65 rfl ?_); refine pC (some 24) rfl #[.string (rdOf ByteArray.empty (t346.tail) x18_1)] rfl Try.func65 (impl_TextItem.calls k1 (rdOf ByteArray.empty (t346.tail) x18_1) t357 t358 t359 t360 _ A12.out) ?_; rintro e w13 ⟨rfl, hR⟩; refine ⟨_, rfl, ?_⟩; replace HM := HM.call hR; clear hR) | ((with_reducible refine gN 10 rfl ?_); refine pB 10 76 [.string (⟨#[]⟩ : ByteArray), .string (⟨#[]⟩ : ByteArray), .int .i64 0] HM rfl ?_; clear HM; intro gb361 w14 HM) | ((with_reducible refine gS 10 rfl ?_); refine pS 2 10 0 [.string t357, .string t358, .int .i64 t359] HM rfl rfl ?_; clear HM; intro w15 HM)); go_upto_if 28 with (first | ((with_reducible refine gC 65 rfl ?_); refine pC (some 24) rfl #[.string (rdOf ByteArray.empty (t346.tail) x18_1)] rfl Try.func65 (impl_TextItem.calls k1 (rdOf ByteArray.empty (t346.tail) x18_1) t357 t358 t359 t360 _ A12.out) ?_; rintro e w13 ⟨rfl, hR⟩; refine ⟨_, rfl, ?_⟩; replace HM := HM.call hR; clear hR) | ((with_reducible refine gN 10 rfl ?_); refine pB 10 76 [.string (⟨#[]⟩ : ByteArray), .string (⟨#[]⟩ : ByteArray), .int .i64 0] HM rfl ?_; clear HM; intro gb361 w14 HM) | ((with_reducible refine gS 10 rfl ?_); refine pS 2 10 0 [.string t357, .string t358, .int .i64 t359] HM rfl rfl ?_; clear HM; intro w15 HM)))
    replace HM := nzM HM
    replace H := IB H
    rcases H with ⟨c16, H⟩ | ⟨c16, H⟩
    ·subst c16
     replace H := GD H; obtain ⟨c18, H⟩ := H
     have LMc18 := Aside0.mk c18
     clear c18
     have H' := Aside0.mk H
     clear H
     obtain ⟨_,_,_,_,_,_⟩ := bk3 (HM.bx 2 rfl)
     go_wp2_with (first | ((with_reducible refine gN 31 rfl ?_); refine pL 31 k76 76 [(⟨t357, t358, t359⟩ : S76)] [.string t357, .string t358, .int .i64 t359] (Reps.c3 (show Kd.M k76 _ _ _ (⟨t357, t358, t359⟩ : S76) [.string t357, .string t358, .int .i64 t359] from (k76_mkM _ _ _ (⟨t357, t358, t359⟩ : S76))) (Reps.none _ _)) HM rfl ?_; clear HM; intro v20 w19 HM; obtain ⟨Xv20, kv20, rfl⟩ := HM.rdR 3 rfl) | ((with_reducible refine gate_builtin (b := .append) (xs := #[.tmp 29, .tmp 31]) rfl ?_); refine pA 1 (.tmp 29) (.tmp 31) 22 76 k76 u7 x7_1 [(⟨t357, t358, t359⟩ : S76)] Xv20 ([(⟨t357, t358, t359⟩ : S76)].length) kv20 HM rfl Try.underlying22 info76 rfl (HM.CR 3 rfl).2.2 (by have h_ := LMc18.out; simp only [List.length_singleton]; omega) ?_; clear HM; intro v363 w21 HM))
     repeat (go_quiet (first | ((with_reducible refine gN 31 rfl ?_); refine pL 31 k76 76 [(⟨t357, t358, t359⟩ : S76)] [.string t357, .string t358, .int .i64 t359] (Reps.c3 (show Kd.M k76 _ _ _ (⟨t357, t358, t359⟩ : S76) [.string t357, .string t358, .int .i64 t359] from (k76_mkM _ _ _ (⟨t357, t358, t359⟩ : S76))) (Reps.none _ _)) HM rfl ?_; clear HM; intro v20 w19 HM; obtain ⟨Xv20, kv20, rfl⟩ := HM.rdR 3 rfl) | ((with_reducible refine gate_builtin (b := .append) (xs := #[.tmp 29, .tmp 31]) rfl ?_); refine pA 1 (.tmp 29) (.tmp 31) 22 76 k76 u7 x7_1 [(⟨t357, t358, t359⟩ : S76)] Xv20 ([(⟨t357, t358, t359⟩ : S76)].length) kv20 HM rfl Try.underlying22 info76 rfl (HM.CR 3 rfl).2.2 (by have h_ := LMc18.out; simp only [List.length_singleton]; omega) ?_; clear HM; intro v363 w21 HM)); try go_wp2_with (first | ((with_reducible refine gN 31 rfl ?_); refine pL 31 k76 76 [(⟨t357, t358, t359⟩ : S76)] [.string t357, .string t358, .int .i64 t359] (Reps.c3 (show Kd.M k76 _ _ _ (⟨t357, t358, t359⟩ : S76) [.string t357, .string t358, .int .i64 t359] from (k76_mkM _ _ _ (⟨t357, t358, t359⟩ : S76))) (Reps.none _ _)) HM rfl ?_; clear HM; intro v20 w19 HM; obtain ⟨Xv20, kv20, rfl⟩ := HM.rdR 3 rfl) | ((with_reducible refine gate_builtin (b := .append) (xs := #[.tmp 29, .tmp 31]) rfl ?_); refine pA 1 (.tmp 29) (.tmp 31) 22 76 k76 u7 x7_1 [(⟨t357, t358, t359⟩ : S76)] Xv20 ([(⟨t357, t358, t359⟩ : S76)].length) kv20 HM rfl Try.underlying22 info76 rfl (HM.CR 3 rfl).2.2 (by have h_ := LMc18.out; simp only [List.length_singleton]; omega) ?_; clear HM; intro v363 w21 HM)))
     go_roundg k1
     case measure => have := HK1.out; omega
     case rel => exact ⟨((x7_1 ++ [(⟨t357, t358, t359⟩ : S76)])), (wrap64 (x18_1 + 1)), RS, H', ⟨by have := HK1.out; omega⟩, (MD HM).pick [0, 1]⟩
    ·subst c16
     simp only [Option.some.injEq, Prod.mk.injEq] at H
     obtain ⟨rfl, rfl⟩ := H
     replace HM := HM.nl k76 76
     go_wp2
     repeat (go_quiet (fail); try go_wp2_with (fail))
     go_ret2
     exact ⟨_, ER, (MD HM).pick [3]⟩
   ·have c9b0 : decide (x18_1 < ((t346.tail).length : Int)) = false := decide_eq_false c9
    have c9b5 := c9b0
    simp only [List.length_tail] at c9b5
    clear c9
    first|rw [c9b0]|rw [c9b5]|(simp only [i64_w, i32_w]; rw [c9b0])|skip
    replace H := GD H; obtain ⟨c22, H⟩ := H
    replace c22 : 0 < (t346.length : Int) := c22
    have c22b0 : decide (0 < (t346.length : Int)) = true := decide_eq_true c22
    have c22b1 : decide (0 < t346.length) = true := decide_eq_true (by omega)
    have c22b9 : decide (0 < t346.length) = true := decide_eq_true (by omega)
    clear c22
    simp only [Option.some.injEq, Prod.mk.injEq] at H
    obtain ⟨rfl, rfl⟩ := H
    have p365 : 0 ≤ (0 : Int) := (by omega)
    have q365 : (0 : Int) < (t346.length : Int) := of_decide_eq_true AS
    obtain ⟨ad365, e365, hx365_0⟩ := Kd.at_string (HM.CR 0 rfl).2.2 0 p365 q365
    cases e365
    have qi365 : (0 < t346.length) = True := eq_true (by omega)
    (try rw [show ((0 : Int)).toNat = 0 from rfl] at hx365_0)
    (try rw [Addr.add_zero'] at hx365_0)
    replace p365 := eq_true p365
    replace q365 := eq_true q365
    go_wp2
    repeat (go_quiet (fail); try go_wp2_with (fail))
    go_ret2
    exact ⟨_, ER, (MD HM).pick [1]⟩
mutual
def impl_TextThree.j0 : Nat → List ByteArray → Bool → Option (Int × Int × (List (S76)) × (List (S76)) × List Int × Int)
 | 0, _, _ => none
 | k + 1, x4, x28 => if x28 = true then (some (0, 0, ([] : List (S76)), ([] : List (S76)), ([] : List Int), 2)) else (if 0 < (x4.length : Int) then ((impl_numbers.f k (rdOf ByteArray.empty x4 0) (⟨#[116, 104, 114, 101, 101]⟩ : ByteArray)).bind fun bt399 => (if 1 < (x4.length : Int) then ((impl_items.f k (rdOf ByteArray.empty x4 1) (⟨#[115, 109, 97, 108, 108]⟩ : ByteArray)).bind fun bt404 => (if 2 < (x4.length : Int) then ((impl_items.f k (rdOf ByteArray.empty x4 2) (⟨#[109, 97, 105, 110]⟩ : ByteArray)).bind fun bt409 => (if 3 < (x4.length : Int) then ((impl_numbers.f k (rdOf ByteArray.empty x4 3) (⟨#[103, 104, 111, 115, 116]⟩ : ByteArray)).bind fun bt414 => (if bt399.2 = true then (if bt404.2 = true then (if bt409.2 = true then (if bt414.2 = true then (impl_TextThree.j1 k bt399.1 bt404.1 bt409.1 bt414.1 ((bt399.1.length : Int) != 2)) else (impl_TextThree.j1 k bt399.1 bt404.1 bt409.1 bt414.1 true)) else (impl_TextThree.j1 k bt399.1 bt404.1 bt409.1 bt414.1 true)) else (impl_TextThree.j1 k bt399.1 bt404.1 bt409.1 bt414.1 true)) else (impl_TextThree.j1 k bt399.1 bt404.1 bt409.1 bt414.1 true))) else (none))) else (none))) else (none))) else (none))
def impl_TextThree.j1 : Nat → List Int → List (S76) → List (S76) → List Int → Bool → Option (Int × Int × (List (S76)) × (List (S76)) × List Int × Int)
 | 0, _, _, _, _, _ => none
 | k + 1, x5, x7, x9, x11, x76 => if x76 = true then (some (0, 0, ([] : List (S76)), ([] : List (S76)), ([] : List Int), 2)) else (if 0 < (x5.length : Int) then (if 1 < (x5.length : Int) then ((impl_ThreeOk.f k (rd x5 0) (rd x5 1) x7 x9 x11).bind fun t421 => (if t421 = true then (some (rd x5 0, rd x5 1, x7, x9, x11, 0)) else (some (0, 0, ([] : List (S76)), ([] : List (S76)), ([] : List Int), 3)))) else (none)) else (none))
end
def impl_TextThree.f (k : Nat) (a0 : ByteArray) : Option (Int × Int × (List (S76)) × (List (S76)) × List Int × Int) := if (a0.size : Int) > 8000 then (some (0, 0, ([] : List (S76)), ([] : List (S76)), ([] : List Int), 1)) else ((impl_split.f k a0 10).bind fun t394 => (if (t394.length : Int) = 5 then (if 4 < (t394.length : Int) then (impl_TextThree.j0 k t394 ((rdOf ByteArray.empty t394 4).toList != ([] : List UInt8))) else (none)) else (impl_TextThree.j0 k t394 true)))
def impl_TextThree.T12 : Bool × List (List Nat × List Nat) := (true, [([], []), ([0], [0]), ([1], [1]), ([], []), ([3], [3]), ([4], [4]), ([], []), ([], []), ([], []), ([2, 5, 6, 7, 8], [2, 5, 6, 7, 8]), ([], []), ([10, 9, 0, 1, 2, 3, 4, 5, 6, 7, 8, 9, 10], [9, 10])])
def impl_TextThree.B12 : List Nat := [0, 1, 3, 0, 8, 24, 0, 0, 0, 511, 0, 2047]
theorem impl_TextThree.tab12 : rtab .any (opsOf Try.f7 12) = impl_TextThree.T12 := by kernel_rfl
theorem impl_TextThree.bits12 : waitsOk impl_TextThree.T12.2 impl_TextThree.B12 = true := by kernel_rfl
theorem impl_TextThree.z0 {P : Prop} (h : P := by have := HJ6.out; first | omega | exact Nat.le_refl _) : P := h
theorem impl_TextThree.calls (k : Nat) (a0 : ByteArray) (r1 : Int) (r2 : Int) (r3 : List (S76)) (r4 : List (S76)) (r5 : List Int) (r6 : Int) (w : World)  (h : impl_TextThree.f k a0 = some (r1, r2, r3, r4, r5, r6)) :
  Calls Try.prog 7 #[.string a0] w fun e w' => ∃ v2_ v3_ v4_ : Value, e = .returned (.tuple #[.agg #[.int .i64 r1, .int .i64 r2, v2_, v3_, v4_], .int .i64 r6]) ∧ Mem w [] w' [rowR k76 76 v2_ r3, rowR k76 76 v3_ r4, rowR (Kd.int .i64) 3 v4_ r5] := by
 have hu25 := Try.underlying25
 have HM := Mem.nil w
 have H := h
 clear h
 unfold impl_TextThree.f at H
 go_enter Try.func7, Try.ntmps7
 go_upto_if 16 with (first | ((with_reducible refine gN 2 rfl ?_); refine pB 2 25 [.int .i64 0, .int .i64 0, .slice none 0 0, .slice none 0 0, .slice none 0 0] HM rfl ?_; clear HM; intro gb393 w2 HM))
 replace H := IT H; rcases H with ⟨c3, H⟩ | ⟨c3, H⟩
 ·replace c3 : (a0.size : Int) > 8000 := c3
  have c3b0 : decide (8000 < (a0.size : Int)) = true := decide_eq_true c3
  have c3b1 : decide (8000 < a0.size) = true := decide_eq_true (by omega)
  clear c3
  first|rw [c3b0]|(simp only [i64_w, i32_w]; rw [c3b0])|skip
  simp only [Option.some.injEq, Prod.mk.injEq] at H
  obtain ⟨rfl, rfl, rfl, rfl, rfl, rfl⟩ := H
  go_wp2_with (first | ((with_reducible refine gS 2 rfl ?_); refine pS 0 2 0 [.int .i64 0, .int .i64 0, .slice none 0 0, .slice none 0 0, .slice none 0 0] HM rfl rfl ?_; clear HM; intro w4 HM; replace HM := HM.nl k76 76; replace HM := HM.nl k76 76; replace HM := HM.nl (Kd.int .i64) 3))
  refine bodyPost_ret (results_ct rfl _ _ gb393 25 #[.int .i64 0, .int .i64 0, .slice none 0 0, .slice none 0 0, .slice none 0 0] (0, 0) _ rfl (HM.bx 0 rfl) Try.underlying25 rfl (by kernel_rfl)) rfl ?_
  exact ⟨_, _, _, ER, (MD HM).pick [1, 2, 3]⟩
 ·replace c3 : ¬ ((a0.size : Int) > 8000) := c3
  have c3b0 : decide (8000 < (a0.size : Int)) = false := decide_eq_false c3
  have c3b1 : decide (8000 < a0.size) = false := decide_eq_false (by omega)
  clear c3
  first|rw [c3b0]|(simp only [i64_w, i32_w]; rw [c3b0])|skip
  replace H := BN H; obtain ⟨t394, A5, H⟩ := H
  have HC7 := Aside0.mk H
  clear H
  go_upto_region 4 with (first | ((with_reducible refine gC 26 rfl ?_); refine pC (some 19) rfl #[.string a0, .int .u8 10] rfl Try.func26 (impl_split.calls k a0 10 t394 _ A5.out) ?_; rintro e w6 ⟨v395, rfl, hR⟩; refine ⟨_, rfl, ?_⟩; replace HM := HM.call hR; clear hR))
  go_cut [28] (fun v28 wc => ∃ (kq : Nat) (x28_6 : Bool), v28 = .bool x28_6 ∧ Aside0 (impl_TextThree.j0 kq t394 x28_6 = some (r1, r2, r3, r4, r5, r6)) ∧ Aside0 (kq ≤ k) ∧ Mem w [] wc [rowR Kd.string 9 v395 t394, box 25 gb393 [.int .i64 0, .int .i64 0, .slice none 0 0, .slice none 0 0, .slice none 0 0]])
  case first =>
   have H := HC7.out
   clear HC7
   replace H := IT H; rcases H with ⟨c9, H⟩ | ⟨c9, H⟩
   ·obtain ⟨c9b0, c9b1⟩ := BE c9
    clear c9
    replace H := GD H; obtain ⟨c10, H⟩ := H
    replace c10 : 4 < (t394.length : Int) := c10
    have c10b0 := decide_eq_true c10
    have c10b1 : decide (4 < t394.length) = true := decide_eq_true (by omega)
    have c10b9 : decide (4 < t394.length) = true := decide_eq_true (by omega)
    clear c10
    have H' := Aside0.mk H
    clear H
    obtain ⟨Xo8, ko8, rfl⟩ := HM.rdR 1 rfl
    have p397 : 0 ≤ (4 : Int) := (by omega)
    have q397 : (4 : Int) < (t394.length : Int) := of_decide_eq_true AS
    obtain ⟨ad397, e397, hx397_0⟩ := Kd.at_string (HM.CR 1 rfl).2.2 4 p397 q397
    cases e397
    have qi397 : (4 < t394.length) = True := eq_true (by omega)
    (try rw [show ((4 : Int)).toNat = 4 from rfl] at hx397_0)
    (try simp only [Nat.reduceMul, Nat.reduceEqDiff, Go.Addr.add, ↓reduceIte] at hx397_0)
    replace p397 := eq_true p397
    replace q397 := eq_true q397
    go_wp2
    go_meet
    case rel => exact ⟨_, (((rdOf ByteArray.empty t394 4).toList != ([] : List UInt8))), (by first | rfl | (generalize (rdOf ByteArray.empty t394 4) = y_; cases y_ with | mk d_ => cases d_ with | mk l_ => cases l_ <;> rfl) | (simp; done) | (generalize (rdOf ByteArray.empty t394 4).toList = y_; cases y_ <;> simp)), H', ⟨by first | omega | exact Nat.le_refl _⟩, (MD HM).pick [1, 0]⟩
   ·obtain ⟨c9b0, c9b1⟩ := BF c9
    have H' := Aside0.mk H
    clear H
    obtain ⟨Xo8, ko8, rfl⟩ := HM.rdR 1 rfl
    go_wp2
    go_meet
    case rel => exact ⟨_, (true), RS, H', ⟨by first | omega | exact Nat.le_refl _⟩, (MD HM).pick [1, 0]⟩
  case rest =>
   clear HC7 HM
   obtain ⟨kq, x28_6, rfl, HA, HJ6, HM⟩ := hcut
   cases kq with
   | zero => exact absurd HA.out (by simp [impl_TextThree.j0])
   | succ kj6 =>
    have H := HA.out
    clear HA
    simp only [impl_TextThree.j0] at H
    go_upto_if 28 with (fail)
    replace H := IB H
    rcases H with ⟨c11, H⟩ | ⟨c11, H⟩
    ·subst c11
     simp only [Option.some.injEq, Prod.mk.injEq] at H
     obtain ⟨rfl, rfl, rfl, rfl, rfl, rfl⟩ := H
     go_wp2_with (first | ((with_reducible refine gS 2 rfl ?_); refine pS 1 2 0 [.int .i64 0, .int .i64 0, .slice none 0 0, .slice none 0 0, .slice none 0 0] HM rfl rfl ?_; clear HM; intro w12 HM; replace HM := HM.nl k76 76; replace HM := HM.nl k76 76; replace HM := HM.nl (Kd.int .i64) 3))
     refine bodyPost_ret (results_ct rfl _ _ gb393 25 #[.int .i64 0, .int .i64 0, .slice none 0 0, .slice none 0 0, .slice none 0 0] (0, 0) _ rfl (HM.bx 1 rfl) Try.underlying25 rfl (by kernel_rfl)) rfl ?_
     exact ⟨_, _, _, ER, (MD HM).pick [2, 3, 4]⟩
    ·subst c11
     replace H := GD H; obtain ⟨c13, H⟩ := H
     replace c13 : 0 < (t394.length : Int) := c13
     have c13b0 := decide_eq_true c13
     have c13b1 : decide (0 < t394.length) = true := decide_eq_true (by omega)
     have c13b9 : decide (0 < t394.length) = true := decide_eq_true (by omega)
     clear c13
     replace H := BN H; obtain ⟨⟨t399, t400⟩, A15, H⟩ := H
     replace H := GD H; obtain ⟨c17, H⟩ := H
     replace c17 : 1 < (t394.length : Int) := c17
     have c17b0 : decide (1 < (t394.length : Int)) = true := decide_eq_true c17
     have c17b1 : decide (1 < t394.length) = true := decide_eq_true (by omega)
     have c17b9 : decide (1 < t394.length) = true := decide_eq_true (by omega)
     clear c17
     replace H := BN H; obtain ⟨⟨t404, t405⟩, A18, H⟩ := H
     replace H := GD H; obtain ⟨c20, H⟩ := H
     replace c20 : 2 < (t394.length : Int) := c20
     have c20b0 : decide (2 < (t394.length : Int)) = true := decide_eq_true c20
     have c20b1 : decide (2 < t394.length) = true := decide_eq_true (by omega)
     have c20b9 : decide (2 < t394.length) = true := decide_eq_true (by omega)
     clear c20
     replace H := BN H; obtain ⟨⟨t409, t410⟩, A21, H⟩ := H
     replace H := GD H; obtain ⟨c23, H⟩ := H
     replace c23 : 3 < (t394.length : Int) := c23
     have c23b0 : decide (3 < (t394.length : Int)) = true := decide_eq_true c23
     have c23b1 : decide (3 < t394.length) = true := decide_eq_true (by omega)
     have c23b9 : decide (3 < t394.length) = true := decide_eq_true (by omega)
     clear c23
     replace H := BN H; obtain ⟨⟨t414, t415⟩, A24, H⟩ := H
     have HC26 := Aside0.mk H
     clear H
     obtain ⟨Xo14, ko14, rfl⟩ := HM.rdR 0 rfl
     have p398 : 0 ≤ (0 : Int) := (by omega)
     have q398 : (0 : Int) < (t394.length : Int) := of_decide_eq_true AS
     obtain ⟨ad398, e398, hx398_0⟩ := Kd.at_string (HM.CR 0 rfl).2.2 0 p398 q398
     cases e398
     have qi398 : (0 < t394.length) = True := eq_true (by omega)
     (try rw [show ((0 : Int)).toNat = 0 from rfl] at hx398_0)
     (try rw [Addr.add_zero'] at hx398_0)
     replace p398 := eq_true p398
     replace q398 := eq_true q398
     go_upto_region 10 with (first | ((with_reducible refine gC 27 rfl ?_); refine pC (some 34) rfl #[.string (rdOf ByteArray.empty t394 0), .string (⟨#[116, 104, 114, 101, 101]⟩ : ByteArray)] rfl Try.func27 (impl_numbers.calls kj6 (rdOf ByteArray.empty t394 0) (⟨#[116, 104, 114, 101, 101]⟩ : ByteArray) t399 t400 _ A15.out) ?_; rintro e w16 ⟨v401, rfl, hR⟩; refine ⟨_, rfl, ?_⟩; replace HM := HM.call hR; clear hR; have p403 : 0 ≤ (1 : Int) := (by omega); have q403 : (1 : Int) < (t394.length : Int) := of_decide_eq_true AS; obtain ⟨ad403, e403, hx403_0⟩ := Kd.at_string (HM.CR 0 rfl).2.2 1 p403 q403; obtain rfl := Option.some.inj e403; have qi403 : (1 < t394.length) = True := eq_true (by omega); (try rw [show ((1 : Int)).toNat = 1 from rfl] at hx403_0); (try simp only [Nat.reduceMul, Nat.reduceEqDiff, Go.Addr.add, ↓reduceIte] at hx403_0); replace p403 := eq_true p403; replace q403 := eq_true q403) | ((with_reducible refine gC 28 rfl ?_); refine pC (some 41) rfl #[.string (rdOf ByteArray.empty t394 1), .string (⟨#[115, 109, 97, 108, 108]⟩ : ByteArray)] rfl Try.func28 (impl_items.calls kj6 (rdOf ByteArray.empty t394 1) (⟨#[115, 109, 97, 108, 108]⟩ : ByteArray) t404 t405 _ A18.out) ?_; rintro e w19 ⟨v406, rfl, hR⟩; refine ⟨_, rfl, ?_⟩; replace HM := HM.call hR; clear hR; have p408 : 0 ≤ (2 : Int) := (by omega); have q408 : (2 : Int) < (t394.length : Int) := of_decide_eq_true AS; obtain ⟨ad408, e408, hx408_0⟩ := Kd.at_string (HM.CR 0 rfl).2.2 2 p408 q408; obtain rfl := Option.some.inj e408; have qi408 : (2 < t394.length) = True := eq_true (by omega); (try rw [show ((2 : Int)).toNat = 2 from rfl] at hx408_0); (try simp only [Nat.reduceMul, Nat.reduceEqDiff, Go.Addr.add, ↓reduceIte] at hx408_0); replace p408 := eq_true p408; replace q408 := eq_true q408) | ((with_reducible refine gC 28 rfl ?_); refine pC (some 48) rfl #[.string (rdOf ByteArray.empty t394 2), .string (⟨#[109, 97, 105, 110]⟩ : ByteArray)] rfl Try.func28 (impl_items.calls kj6 (rdOf ByteArray.empty t394 2) (⟨#[109, 97, 105, 110]⟩ : ByteArray) t409 t410 _ A21.out) ?_; rintro e w22 ⟨v411, rfl, hR⟩; refine ⟨_, rfl, ?_⟩; replace HM := HM.call hR; clear hR; have p413 : 0 ≤ (3 : Int) := (by omega); have q413 : (3 : Int) < (t394.length : Int) := of_decide_eq_true AS; obtain ⟨ad413, e413, hx413_0⟩ := Kd.at_string (HM.CR 0 rfl).2.2 3 p413 q413; obtain rfl := Option.some.inj e413; have qi413 : (3 < t394.length) = True := eq_true (by omega); (try rw [show ((3 : Int)).toNat = 3 from rfl] at hx413_0); (try simp only [Nat.reduceMul, Nat.reduceEqDiff, Go.Addr.add, ↓reduceIte] at hx413_0); replace p413 := eq_true p413; replace q413 := eq_true q413) | ((with_reducible refine gC 27 rfl ?_); refine pC (some 55) rfl #[.string (rdOf ByteArray.empty t394 3), .string (⟨#[103, 104, 111, 115, 116]⟩ : ByteArray)] rfl Try.func27 (impl_numbers.calls kj6 (rdOf ByteArray.empty t394 3) (⟨#[103, 104, 111, 115, 116]⟩ : ByteArray) t414 t415 _ A24.out) ?_; rintro e w25 ⟨v416, rfl, hR⟩; refine ⟨_, rfl, ?_⟩; replace HM := HM.call hR; clear hR))
     replace HM := nzM HM
     go_cut [76] (fun v76 wc => ∃ (kq : Nat) (x76_25 : Bool), v76 = .bool x76_25 ∧ Aside0 (impl_TextThree.j1 kq t399 t404 t409 t414 x76_25 = some (r1, r2, r3, r4, r5, r6)) ∧ Aside0 (kq ≤ kj6) ∧ Mem w [] wc [rowR (Kd.int .i64) 3 v401 t399, rowR k76 76 v406 t404, rowR k76 76 v411 t409, rowR (Kd.int .i64) 3 v416 t414, box 25 gb393 [.int .i64 0, .int .i64 0, .slice none 0 0, .slice none 0 0, .slice none 0 0]])
     case first =>
      have H := HC26.out
      clear HC26
      replace H := IB H
      rcases H with ⟨c27, H⟩ | ⟨c27, H⟩
      ·subst c27
       replace H := IB H
       rcases H with ⟨c28, H⟩ | ⟨c28, H⟩
       ·subst c28
        replace H := IB H
        rcases H with ⟨c29, H⟩ | ⟨c29, H⟩
        ·subst c29
         replace H := IB H
         rcases H with ⟨c30, H⟩ | ⟨c30, H⟩
         ·subst c30
          have H' := Aside0.mk H
          clear H
          obtain ⟨Xo31, ko31, rfl⟩ := HM.rdR 2 rfl
          go_wp2
          go_meet
          case rel => exact ⟨_, (((t399.length : Int) != 2)), RS, H', ⟨impl_TextThree.z0⟩, (MD HM).pick [2, 3, 4, 5, 1]⟩
         ·subst c30
          have H' := Aside0.mk H
          clear H
          go_wp2
          go_meet
          case rel => exact ⟨_, (true), RS, H', ⟨impl_TextThree.z0⟩, (MD HM).pick [2, 3, 4, 5, 1]⟩
        ·subst c29
         have H' := Aside0.mk H
         clear H
         go_wp2
         go_meet
         case rel => exact ⟨_, (true), RS, H', ⟨impl_TextThree.z0⟩, (MD HM).pick [2, 3, 4, 5, 1]⟩
       ·subst c28
        have H' := Aside0.mk H
        clear H
        go_wp2
        go_meet
        case rel => exact ⟨_, (true), RS, H', ⟨impl_TextThree.z0⟩, (MD HM).pick [2, 3, 4, 5, 1]⟩
      ·subst c27
       have H' := Aside0.mk H
       clear H
       go_wp2
       go_meet
       case rel => exact ⟨_, (true), RS, H', ⟨impl_TextThree.z0⟩, (MD HM).pick [2, 3, 4, 5, 1]⟩
     case rest =>
      clear HC26 HM
      obtain ⟨kq, x76_25, rfl, HA, HJ25, HM⟩ := hcut
      cases kq with
      | zero => exact absurd HA.out (by simp [impl_TextThree.j1])
      | succ kj25 =>
       have H := HA.out
       clear HA
       simp only [impl_TextThree.j1] at H
       go_upto_if 76 with (fail)
       replace H := IB H
       rcases H with ⟨c32, H⟩ | ⟨c32, H⟩
       ·subst c32
        simp only [Option.some.injEq, Prod.mk.injEq] at H
        obtain ⟨rfl, rfl, rfl, rfl, rfl, rfl⟩ := H
        go_wp2_with (first | ((with_reducible refine gS 2 rfl ?_); refine pS 4 2 0 [.int .i64 0, .int .i64 0, .slice none 0 0, .slice none 0 0, .slice none 0 0] HM rfl rfl ?_; clear HM; intro w33 HM; replace HM := HM.nl k76 76; replace HM := HM.nl k76 76; replace HM := HM.nl (Kd.int .i64) 3))
        refine bodyPost_ret (results_ct rfl _ _ gb393 25 #[.int .i64 0, .int .i64 0, .slice none 0 0, .slice none 0 0, .slice none 0 0] (0, 0) _ rfl (HM.bx 4 rfl) Try.underlying25 rfl (by kernel_rfl)) rfl ?_
        exact ⟨_, _, _, ER, (MD HM).pick [5, 6, 7]⟩
       ·subst c32
        try go_wp2
        replace H := GD H; obtain ⟨c34, H⟩ := H
        replace c34 : 0 < (t399.length : Int) := c34
        have c34b0 : decide (0 < (t399.length : Int)) = true := decide_eq_true c34
        have c34b1 : decide (0 < t399.length) = true := decide_eq_true (by omega)
        have c34b9 : decide (0 < t399.length) = true := decide_eq_true (by omega)
        clear c34
        replace H := GD H; obtain ⟨c35, H⟩ := H
        replace c35 : 1 < (t399.length : Int) := c35
        have c35b0 : decide (1 < (t399.length : Int)) = true := decide_eq_true c35
        have c35b1 : decide (1 < t399.length) = true := decide_eq_true (by omega)
        have c35b9 : decide (1 < t399.length) = true := decide_eq_true (by omega)
        clear c35
        obtain ⟨Xo48, ko48, rfl⟩ := HM.rdR 0 rfl
        have p418 : 0 ≤ (0 : Int) := (by omega)
        have q418 : (0 : Int) < (t399.length : Int) := of_decide_eq_true AS
        obtain ⟨ad418, e418, hx418_0⟩ := Kd.at_int (HM.CR 0 rfl).2.2 0 p418 q418
        cases e418
        have qi418 : (0 < t399.length) = True := eq_true (by omega)
        (try rw [show ((0 : Int)).toNat = 0 from rfl] at hx418_0)
        (try rw [Addr.add_zero'] at hx418_0)
        replace p418 := eq_true p418
        replace q418 := eq_true q418
        have p419 : 0 ≤ (1 : Int) := (by omega)
        have q419 : (1 : Int) < (t399.length : Int) := of_decide_eq_true AS
        obtain ⟨ad419, e419, hx419_0⟩ := Kd.at_int (HM.CR 0 rfl).2.2 1 p419 q419
        obtain rfl := Option.some.inj e419
        have qi419 : (1 < t399.length) = True := eq_true (by omega)
        (try rw [show ((1 : Int)).toNat = 1 from rfl] at hx419_0)
        (try simp only [Nat.reduceMul, Nat.reduceEqDiff, Go.Addr.add, ↓reduceIte] at hx419_0)
        replace p419 := eq_true p419
        replace q419 := eq_true q419
        obtain ⟨Xo49, ko49, rfl⟩ := HM.rdR 1 rfl
        obtain ⟨Xo50, ko50, rfl⟩ := HM.rdR 2 rfl
        obtain ⟨Xo51, ko51, rfl⟩ := HM.rdR 3 rfl
        refine RGN 12 [0, 1, 2, 3, 4, 5, 6, 7, 8, 9, 10, 11] (fun a0 b a w' => ∃ (gb420 : Nat), a = putSel a0 b [(0, 78, .slice (some ad418) t399.length ko48), (1, 79, .pointer (some ad418)), (2, 80, .int .i64 (rd t399 0)), (3, 81, .slice (some ad418) t399.length ko48), (4, 82, .pointer (some (ad418.add 1))), (5, 83, .int .i64 (rd t399 1)), (6, 84, .slice Xo49 t404.length ko49), (7, 85, .slice Xo50 t409.length ko50), (8, 86, .slice Xo51 t414.length ko51), (9, 87, .agg #[.int .i64 (rd t399 0), .int .i64 (rd t399 1), .slice Xo49 t404.length ko49, .slice Xo50 t409.length ko50, .slice Xo51 t414.length ko51]), (10, 13, .pointer (some ⟨gb420, 0, none⟩))] ∧ Mem w [] w' [rowR (Kd.int .i64) 3 (.slice (some ad418) t399.length ko48) t399, rowR k76 76 (.slice Xo49 t404.length ko49) t404, rowR k76 76 (.slice Xo50 t409.length ko50) t409, rowR (Kd.int .i64) 3 (.slice Xo51 t414.length ko51) t414, box 25 gb393 [.int .i64 0, .int .i64 0, .slice none 0 0, .slice none 0 0, .slice none 0 0], sel (b 11) (box 25 gb420 [.int .i64 (rd t399 0), .int .i64 (rd t399 1), .slice Xo49 t404.length ko49, .slice Xo50 t409.length ko50, .slice Xo51 t414.length ko51]) (sel (b 10) (box 25 gb420 [.int .i64 0, .int .i64 0, .slice none 0 0, .slice none 0 0, .slice none 0 0]) (emp))]) impl_TextThree.tab12 impl_TextThree.bits12 ?_ ?_ ?_
        ·exact ⟨0, PS0' rfl _, (HM.drew.ems 1).pick [0, 1, 2, 3, 4, 5]⟩
        ·clear HM
         refine SZ ?_ ?_
         ·rintro b a w ⟨gb420, ha, HM⟩ hb hon hoff K hK
          replace ha := Aside0.mk ha
          have e5 := PG ha 5
          exact VL (.slice (some ad418) t399.length ko48) (hK.out _ _ ⟨gb420, PUT ha 0 hb, HM⟩)
         refine SZ ?_ ?_
         ·rintro b a w ⟨gb420, ha, HM⟩ hb hon hoff K hK
          replace ha := Aside0.mk ha
          have p418 : 0 ≤ (0 : Int) := (by omega)
          have q418 : (0 : Int) < (t399.length : Int) := of_decide_eq_true AS
          obtain ⟨ad418, e418, hx418_0⟩ := Kd.at_int (HM.CR 0 rfl).2.2 0 p418 q418
          obtain rfl := Option.some.inj e418
          have qi418 : (0 < t399.length) = True := eq_true (by omega)
          (try rw [show ((0 : Int)).toNat = 0 from rfl] at hx418_0)
          (try rw [Addr.add_zero'] at hx418_0)
          replace p418 := eq_true p418
          replace q418 := eq_true q418
          have e78 := PE ha 0 hon
          exact VL (.pointer (some ad418)) (hK.out _ _ ⟨gb420, PUT ha 1 hb, HM⟩)
         refine SZ ?_ ?_
         ·rintro b a w ⟨gb420, ha, HM⟩ hb hon hoff K hK
          replace ha := Aside0.mk ha
          have p418 : 0 ≤ (0 : Int) := (by omega)
          have q418 : (0 : Int) < (t399.length : Int) := of_decide_eq_true AS
          obtain ⟨ad418, e418, hx418_0⟩ := Kd.at_int (HM.CR 0 rfl).2.2 0 p418 q418
          obtain rfl := Option.some.inj e418
          have qi418 : (0 < t399.length) = True := eq_true (by omega)
          (try rw [show ((0 : Int)).toNat = 0 from rfl] at hx418_0)
          (try rw [Addr.add_zero'] at hx418_0)
          replace p418 := eq_true p418
          replace q418 := eq_true q418
          have e79 := PE ha 1 hon
          exact VL (.int .i64 (rd t399 0)) (hK.out _ _ ⟨gb420, PUT ha 2 hb, HM⟩)
         refine SZ ?_ ?_
         ·rintro b a w ⟨gb420, ha, HM⟩ hb hon hoff K hK
          replace ha := Aside0.mk ha
          have e5 := PG ha 5
          exact VL (.slice (some ad418) t399.length ko48) (hK.out _ _ ⟨gb420, PUT ha 3 hb, HM⟩)
         refine SZ ?_ ?_
         ·rintro b a w ⟨gb420, ha, HM⟩ hb hon hoff K hK
          replace ha := Aside0.mk ha
          have p419 : 0 ≤ (1 : Int) := (by omega)
          have q419 : (1 : Int) < (t399.length : Int) := of_decide_eq_true AS
          obtain ⟨ad419, e419, hx419_0⟩ := Kd.at_int (HM.CR 0 rfl).2.2 1 p419 q419
          obtain rfl := Option.some.inj e419
          have qi419 : (1 < t399.length) = True := eq_true (by omega)
          (try rw [show ((1 : Int)).toNat = 1 from rfl] at hx419_0)
          (try simp only [Nat.reduceMul, Nat.reduceEqDiff, Go.Addr.add, ↓reduceIte] at hx419_0)
          replace p419 := eq_true p419
          replace q419 := eq_true q419
          have e81 := PE ha 3 hon
          exact VL (.pointer (some (ad418.add 1))) (hK.out _ _ ⟨gb420, PUT ha 4 hb, HM⟩)
         refine SZ ?_ ?_
         ·rintro b a w ⟨gb420, ha, HM⟩ hb hon hoff K hK
          replace ha := Aside0.mk ha
          have p419 : 0 ≤ (1 : Int) := (by omega)
          have q419 : (1 : Int) < (t399.length : Int) := of_decide_eq_true AS
          obtain ⟨ad419, e419, hx419_0⟩ := Kd.at_int (HM.CR 0 rfl).2.2 1 p419 q419
          obtain rfl := Option.some.inj e419
          have qi419 : (1 < t399.length) = True := eq_true (by omega)
          (try rw [show ((1 : Int)).toNat = 1 from rfl] at hx419_0)
          (try simp only [Nat.reduceMul, Nat.reduceEqDiff, Go.Addr.add, ↓reduceIte] at hx419_0)
          replace p419 := eq_true p419
          replace q419 := eq_true q419
          have e82 := PE ha 4 hon
          exact VL (.int .i64 (rd t399 1)) (hK.out _ _ ⟨gb420, PUT ha 5 hb, HM⟩)
         refine SZ ?_ ?_
         ·rintro b a w ⟨gb420, ha, HM⟩ hb hon hoff K hK
          replace ha := Aside0.mk ha
          have e7 := PG ha 7
          exact VL (.slice Xo49 t404.length ko49) (hK.out _ _ ⟨gb420, PUT ha 6 hb, HM⟩)
         refine SZ ?_ ?_
         ·rintro b a w ⟨gb420, ha, HM⟩ hb hon hoff K hK
          replace ha := Aside0.mk ha
          have e9 := PG ha 9
          exact VL (.slice Xo50 t409.length ko50) (hK.out _ _ ⟨gb420, PUT ha 7 hb, HM⟩)
         refine SZ ?_ ?_
         ·rintro b a w ⟨gb420, ha, HM⟩ hb hon hoff K hK
          replace ha := Aside0.mk ha
          have e11 := PG ha 11
          exact VL (.slice Xo51 t414.length ko51) (hK.out _ _ ⟨gb420, PUT ha 8 hb, HM⟩)
         refine SZ ?_ ?_
         ·rintro b a w ⟨gb420, ha, HM⟩ hb hon hoff K hK
          replace ha := Aside0.mk ha
          have e80 := PE ha 2 hon
          have e83 := PE ha 5 hon
          have e84 := PE ha 6 hon
          have e85 := PE ha 7 hon
          have e86 := PE ha 8 hon
          exact VL (.agg #[.int .i64 (rd t399 0), .int .i64 (rd t399 1), .slice Xo49 t404.length ko49, .slice Xo50 t409.length ko50, .slice Xo51 t414.length ko51]) (hK.out _ _ ⟨gb420, PUT ha 9 hb, HM⟩)
         refine SZ ?_ ?_
         ·rintro b a w ⟨gb420, ha, HM⟩ hb hon hoff K hK
          replace ha := Aside0.mk ha
          refine ST (eB 13 25 [.int .i64 0, .int .i64 0, .slice none 0 0, .slice none 0 0, .slice none 0 0] HM rfl ?_)
          clear HM
          intro gb420 w52 HM
          exact hK.out _ _ ⟨gb420, PUT ha 10 hb, (HM.iF 6 rfl (hoff 11 rfl)).pick [0, 1, 2, 3, 4, 6]⟩
         refine SZ ?_ ?_
         ·rintro b a w ⟨gb420, ha, HM⟩ hb hon hoff K hK
          replace ha := Aside0.mk ha
          replace HM := (HM.sF 5 rfl hb).sT 5 rfl (hon 10 rfl)
          have e13 := PE ha 10 hon
          have e87 := PE ha 9 hon
          refine ST (eS 5 13 0 [.int .i64 (rd t399 0), .int .i64 (rd t399 1), .slice Xo49 t404.length ko49, .slice Xo50 t409.length ko50, .slice Xo51 t414.length ko51] HM rfl rfl ?_ (hp := (eval_of e13)) (hx := (by rw [eval_of e87]; rfl)))
          clear HM
          intro w53 HM
          exact hK.out _ _ ⟨gb420, PUS ha, (HM).pick [0, 1, 2, 3, 4, 5]⟩
         exact steps_nil
        rintro _ w54 ⟨gb420, rfl, HM⟩
        replace HM := HM.sT 5 rfl rfl
        simp only [putSel, if_true, Act.put, List.setIfInBounds_toArray, List.set_cons_zero, List.set_cons_succ, gt_iff_lt, ge_iff_le]
        replace H := BN H; obtain ⟨t421, A56, H⟩ := H
        obtain ⟨_,_,_,_,_,_,_,_,_,_⟩ := bk5 (HM.bx 5 rfl)
        go_upto_if 90 with (first | ((with_reducible refine gC 29 rfl ?_); refine pC (some 89) rfl #[.agg #[.int .i64 (rd t399 0), .int .i64 (rd t399 1), .slice Xo49 t404.length ko49, .slice Xo50 t409.length ko50, .slice Xo51 t414.length ko51]] rfl Try.func29 (impl_ThreeOk.calls kj25 (rd t399 0) (rd t399 1) _ _ t404 _ _ t409 _ _ t414 t421 _ (HM.CR 1 rfl).2.2 (HM.CR 1 rfl).2.1 (HM.CR 2 rfl).2.2 (HM.CR 2 rfl).2.1 (HM.CR 3 rfl).2.2 (HM.CR 3 rfl).2.1 A56.out) ?_; rintro e w57 ⟨rfl, hR⟩; refine ⟨_, rfl, ?_⟩; replace HM := HM.call hR; clear hR))
        replace H := IB H
        rcases H with ⟨c58, H⟩ | ⟨c58, H⟩
        ·subst c58
         simp only [Option.some.injEq, Prod.mk.injEq] at H
         obtain ⟨rfl, rfl, rfl, rfl, rfl, rfl⟩ := H
         obtain ⟨_,_,_,_,_,_,_,_,_,_⟩ := bk5 (HM.bx 5 rfl)
         go_wp2_with (first | ((with_reducible refine gS 2 rfl ?_); refine pS 4 2 0 [.int .i64 (rd t399 0), .int .i64 (rd t399 1), .slice Xo49 t404.length ko49, .slice Xo50 t409.length ko50, .slice Xo51 t414.length ko51] HM rfl rfl ?_; clear HM; intro w60 HM))
         refine bodyPost_ret (results_ct rfl _ _ gb393 25 #[.int .i64 (rd t399 0), .int .i64 (rd t399 1), .slice Xo49 t404.length ko49, .slice Xo50 t409.length ko50, .slice Xo51 t414.length ko51] (0, 0) _ rfl (HM.bx 4 rfl) Try.underlying25 rfl (by kernel_rfl)) rfl ?_
         exact ⟨_, _, _, ER, (MD HM).pick [1, 2, 3]⟩
        ·subst c58
         simp only [Option.some.injEq, Prod.mk.injEq] at H
         obtain ⟨rfl, rfl, rfl, rfl, rfl, rfl⟩ := H
         go_wp2_with (first | ((with_reducible refine gS 2 rfl ?_); refine pS 4 2 0 [.int .i64 0, .int .i64 0, .slice none 0 0, .slice none 0 0, .slice none 0 0] HM rfl rfl ?_; clear HM; intro w61 HM; replace HM := HM.nl k76 76; replace HM := HM.nl k76 76; replace HM := HM.nl (Kd.int .i64) 3))
         refine bodyPost_ret (results_ct rfl _ _ gb393 25 #[.int .i64 0, .int .i64 0, .slice none 0 0, .slice none 0 0, .slice none 0 0] (0, 0) _ rfl (HM.bx 4 rfl) Try.underlying25 rfl (by kernel_rfl)) rfl ?_
         exact ⟨_, _, _, ER, (MD HM).pick [6, 7, 8]⟩
def impl_copyInts.f (l0 : List Int) : Option (List Int) := if ([] : List Int).length + l0.length < 17592186044416 then (some (([] : List Int) ++ l0)) else (none)
theorem impl_copyInts.calls (A0 : Option Addr) (c0 : Nat) (l0 : List Int) (r : List Int) (w : World) (hr0 : Kd.C (Kd.int .i64) w A0 l0.length l0) (hc0 : l0.length ≤ c0) (h : impl_copyInts.f l0 = some r) :
  Calls Try.prog 87 #[.slice A0 l0.length c0] w fun e w' => ∃ v0_ : Value, e = .returned (v0_) ∧ Mem w [] w' [rowR (Kd.int .i64) 3 v0_ r] := by
 have HR0 := Aside0.mk hr0
 have HC0 := Aside0.mk hc0
 clear hr0 hc0
 have HM := Mem.nil w
 have H := h
 clear h
 unfold impl_copyInts.f at H
 go_enter Try.func87, Try.ntmps87
 replace H := GD H; obtain ⟨c2, H⟩ := H
 have LMc2 := Aside0.mk c2
 clear c2
 obtain rfl := Option.some.inj H
 go_wp2_with (first | ((with_reducible refine gate_builtin (b := .append) (xs := #[.const (.slice none 0 0), .tmp 3]) rfl ?_); refine pAn (.const (.slice none 0 0)) (.tmp 3) 23 3 (Kd.int .i64) l0 A0 l0.length c0 HM rfl Try.underlying23 info3 (HM.came HR0.out) (by have h_ := LMc2.out; omega) ?_; clear HM; intro v811 w3 HM))
 go_ret
 exact ⟨_, ER, (MD HM).pick [0]⟩
def impl_copyThree.f (a0_0 : Int) (a0_1 : Int) (l0_2 : List (S76)) (l0_3 : List (S76)) (l0_4 : List Int) : Option (Int × Int × (List (S76)) × (List (S76)) × List Int) := (impl_copyItems.f l0_2).bind fun t815 => ((impl_copyItems.f l0_3).bind fun t818 => ((impl_copyInts.f l0_4).bind fun t821 => (some (a0_0, a0_1, t815, t818, t821))))
def impl_copyThree.T1 : Bool × List (List Nat × List Nat) := (true, [([], []), ([0], [0]), ([], []), ([2], [2]), ([], []), ([4], [4]), ([5], [5]), ([], []), ([7], [7]), ([8, 6], [8]), ([], []), ([10], [10]), ([11, 9], [11]), ([1, 3, 6, 9, 12], [1, 3, 6, 9, 12]), ([13, 12, 0, 1, 2, 3, 4, 5, 6, 7, 8, 9, 10, 11, 12, 13], [13])])
def impl_copyThree.B1 : List Nat := [0, 1, 0, 4, 0, 16, 48, 0, 128, 496, 0, 1024, 4080, 8191, 16383]
theorem impl_copyThree.tab1 : rtab .any (opsOf Try.f53 1) = impl_copyThree.T1 := by kernel_rfl
theorem impl_copyThree.bits1 : waitsOk impl_copyThree.T1.2 impl_copyThree.B1 = true := by kernel_rfl
theorem impl_copyThree.calls (a0_0 : Int) (a0_1 : Int) (A0_2 : Option Addr) (c0_2 : Nat) (l0_2 : List (S76)) (A0_3 : Option Addr) (c0_3 : Nat) (l0_3 : List (S76)) (A0_4 : Option Addr) (c0_4 : Nat) (l0_4 : List Int) (r1 : Int) (r2 : Int) (r3 : List (S76)) (r4 : List (S76)) (r5 : List Int) (w : World) (hr0_2 : Kd.C k76 w A0_2 l0_2.length l0_2) (hc0_2 : l0_2.length ≤ c0_2) (hr0_3 : Kd.C k76 w A0_3 l0_3.length l0_3) (hc0_3 : l0_3.length ≤ c0_3) (hr0_4 : Kd.C (Kd.int .i64) w A0_4 l0_4.length l0_4) (hc0_4 : l0_4.length ≤ c0_4) (h : impl_copyThree.f a0_0 a0_1 l0_2 l0_3 l0_4 = some (r1, r2, r3, r4, r5)) :
  Calls Try.prog 53 #[.agg #[.int .i64 a0_0, .int .i64 a0_1, .slice A0_2 l0_2.length c0_2, .slice A0_3 l0_3.length c0_3, .slice A0_4 l0_4.length c0_4]] w fun e w' => ∃ v2_ v3_ v4_ : Value, e = .returned (.agg #[.int .i64 r1, .int .i64 r2, v2_, v3_, v4_]) ∧ Mem w [] w' [rowR k76 76 v2_ r3, rowR k76 76 v3_ r4, rowR (Kd.int .i64) 3 v4_ r5] := by
 have hu25 := Try.underlying25
 have HR0_2 := Aside0.mk hr0_2
 have HC0_2 := Aside0.mk hc0_2
 clear hr0_2 hc0_2
 have HR0_3 := Aside0.mk hr0_3
 have HC0_3 := Aside0.mk hc0_3
 clear hr0_3 hc0_3
 have HR0_4 := Aside0.mk hr0_4
 have HC0_4 := Aside0.mk hc0_4
 clear hr0_4 hc0_4
 have HM := Mem.nil w
 have H := h
 clear h
 unfold impl_copyThree.f at H
 go_enter Try.func53, Try.ntmps53
 try go_wp2_with (first | ((with_reducible refine gN 1 rfl ?_); refine pB 1 25 [.int .i64 a0_0, .int .i64 a0_1, .slice A0_2 l0_2.length c0_2, .slice A0_3 l0_3.length c0_3, .slice A0_4 l0_4.length c0_4] HM rfl ?_; clear HM; intro gb813 w2 HM) | ((with_reducible refine gN 2 rfl ?_); refine pB 2 25 [.int .i64 0, .int .i64 0, .slice none 0 0, .slice none 0 0, .slice none 0 0] HM rfl ?_; clear HM; intro gb814 w3 HM))
 replace H := BN H; obtain ⟨t815, A4, H⟩ := H
 replace H := BN H; obtain ⟨t818, A5, H⟩ := H
 replace H := BN H; obtain ⟨t821, A6, H⟩ := H
 refine RGN 15 [0, 1, 2, 3, 4, 5, 6, 7, 8, 9, 10, 11, 12, 13, 14] (fun a0 b a w' => ∃ (v816 : Value) (v819 : Value) (v822 : Value), a = putSel a0 b [(0, 3, .pointer (some ⟨gb813, 0, none⟩)), (1, 4, .int .i64 a0_0), (2, 5, .pointer (some ⟨gb813, 1, none⟩)), (3, 6, .int .i64 a0_1), (4, 7, .pointer (some ⟨gb813, 2, none⟩)), (5, 8, .slice A0_2 l0_2.length c0_2), (6, 9, v816), (7, 10, .pointer (some ⟨gb813, 3, none⟩)), (8, 11, .slice A0_3 l0_3.length c0_3), (9, 12, v819), (10, 13, .pointer (some ⟨gb813, 4, none⟩)), (11, 14, .slice A0_4 l0_4.length c0_4), (12, 15, v822), (13, 16, .agg #[.int .i64 a0_0, .int .i64 a0_1, v816, v819, v822])] ∧ Mem w [] w' [box 25 gb813 [.int .i64 a0_0, .int .i64 a0_1, .slice A0_2 l0_2.length c0_2, .slice A0_3 l0_3.length c0_3, .slice A0_4 l0_4.length c0_4], sel (b 14) (box 25 gb814 [.int .i64 a0_0, .int .i64 a0_1, v816, v819, v822]) (box 25 gb814 [.int .i64 0, .int .i64 0, .slice none 0 0, .slice none 0 0, .slice none 0 0]), sel (b 6) (rowR k76 76 v816 t815) (emp), sel (b 9) (rowR k76 76 v819 t818) (emp), sel (b 12) (rowR (Kd.int .i64) 3 v822 t821) (emp)]) impl_copyThree.tab1 impl_copyThree.bits1 ?_ ?_ ?_
 ·exact ⟨.bool false, .bool false, .bool false, PS0' rfl _, (HM.drew.ems 3).pick [0, 1, 2, 3, 4]⟩
 ·clear HM
  refine SZ ?_ ?_
  ·rintro b a w ⟨v816, v819, v822, ha, HM⟩ hb hon hoff K hK
   replace ha := Aside0.mk ha
   have e1 := PG ha 1
   exact VL (.pointer (some ⟨gb813, 0, none⟩)) (hK.out _ _ ⟨v816, v819, v822, PUT ha 0 hb, HM⟩)
  refine SZ ?_ ?_
  ·rintro b a w ⟨v816, v819, v822, ha, HM⟩ hb hon hoff K hK
   replace ha := Aside0.mk ha
   obtain ⟨_,_,_,_,_,_,_,_,_,_⟩ := bk5 (HM.bx 0 rfl)
   have e3 := PE ha 0 hon
   exact VL (.int .i64 a0_0) (hK.out _ _ ⟨v816, v819, v822, PUT ha 1 hb, HM⟩)
  refine SZ ?_ ?_
  ·rintro b a w ⟨v816, v819, v822, ha, HM⟩ hb hon hoff K hK
   replace ha := Aside0.mk ha
   have e1 := PG ha 1
   exact VL (.pointer (some ⟨gb813, 1, none⟩)) (hK.out _ _ ⟨v816, v819, v822, PUT ha 2 hb, HM⟩)
  refine SZ ?_ ?_
  ·rintro b a w ⟨v816, v819, v822, ha, HM⟩ hb hon hoff K hK
   replace ha := Aside0.mk ha
   obtain ⟨_,_,_,_,_,_,_,_,_,_⟩ := bk5 (HM.bx 0 rfl)
   have e5 := PE ha 2 hon
   exact VL (.int .i64 a0_1) (hK.out _ _ ⟨v816, v819, v822, PUT ha 3 hb, HM⟩)
  refine SZ ?_ ?_
  ·rintro b a w ⟨v816, v819, v822, ha, HM⟩ hb hon hoff K hK
   replace ha := Aside0.mk ha
   have e1 := PG ha 1
   exact VL (.pointer (some ⟨gb813, 2, none⟩)) (hK.out _ _ ⟨v816, v819, v822, PUT ha 4 hb, HM⟩)
  refine SZ ?_ ?_
  ·rintro b a w ⟨v816, v819, v822, ha, HM⟩ hb hon hoff K hK
   replace ha := Aside0.mk ha
   obtain ⟨_,_,_,_,_,_,_,_,_,_⟩ := bk5 (HM.bx 0 rfl)
   have e7 := PE ha 4 hon
   exact VL (.slice A0_2 l0_2.length c0_2) (hK.out _ _ ⟨v816, v819, v822, PUT ha 5 hb, HM⟩)
  refine SZ ?_ ?_
  ·rintro b a w ⟨v816, v819, v822, ha, HM⟩ hb hon hoff K hK
   replace ha := Aside0.mk ha
   have e8 := PE ha 5 hon
   refine ST (eC (some 9) rfl #[.slice A0_2 l0_2.length c0_2] rfl Try.func70 (impl_copyItems.calls _ _ l0_2 t815 _ (HM.came HR0_2.out) HC0_2.out A4.out) ?_ (hargs := by (simp only [List.map_toArray, List.map_cons, List.map_nil, evc, eval_of e8]) <;> rfl))
   rintro e w25 ⟨v816, rfl, hR⟩
   refine ⟨_, rfl, ?_⟩
   replace HM := HM.call hR
   clear hR
   exact hK.out _ _ ⟨v816, v819, v822, PUT (PCH ha 13 (hoff 13 rfl)) 6 hb, ((HM.sF 1 rfl (hoff 14 rfl)).iF 1 rfl (hoff 14 rfl)).pick [0, 1, 5, 3, 4]⟩
  refine SZ ?_ ?_
  ·rintro b a w ⟨v816, v819, v822, ha, HM⟩ hb hon hoff K hK
   replace ha := Aside0.mk ha
   have e1 := PG ha 1
   exact VL (.pointer (some ⟨gb813, 3, none⟩)) (hK.out _ _ ⟨v816, v819, v822, PUT ha 7 hb, HM⟩)
  refine SZ ?_ ?_
  ·rintro b a w ⟨v816, v819, v822, ha, HM⟩ hb hon hoff K hK
   replace ha := Aside0.mk ha
   obtain ⟨_,_,_,_,_,_,_,_,_,_⟩ := bk5 (HM.bx 0 rfl)
   have e10 := PE ha 7 hon
   exact VL (.slice A0_3 l0_3.length c0_3) (hK.out _ _ ⟨v816, v819, v822, PUT ha 8 hb, HM⟩)
  refine SZ ?_ ?_
  ·rintro b a w ⟨v816, v819, v822, ha, HM⟩ hb hon hoff K hK
   replace ha := Aside0.mk ha
   have e11 := PE ha 8 hon
   refine ST (eC (some 12) rfl #[.slice A0_3 l0_3.length c0_3] rfl Try.func70 (impl_copyItems.calls _ _ l0_3 t818 _ (HM.came HR0_3.out) HC0_3.out A5.out) ?_ (hargs := by (simp only [List.map_toArray, List.map_cons, List.map_nil, evc, eval_of e11]) <;> rfl))
   rintro e w27 ⟨v819, rfl, hR⟩
   refine ⟨_, rfl, ?_⟩
   replace HM := HM.call hR
   clear hR
   exact hK.out _ _ ⟨v816, v819, v822, PUT (PCH ha 13 (hoff 13 rfl)) 9 hb, ((HM.sF 1 rfl (hoff 14 rfl)).iF 1 rfl (hoff 14 rfl)).pick [0, 1, 2, 5, 4]⟩
  refine SZ ?_ ?_
  ·rintro b a w ⟨v816, v819, v822, ha, HM⟩ hb hon hoff K hK
   replace ha := Aside0.mk ha
   have e1 := PG ha 1
   exact VL (.pointer (some ⟨gb813, 4, none⟩)) (hK.out _ _ ⟨v816, v819, v822, PUT ha 10 hb, HM⟩)
  refine SZ ?_ ?_
  ·rintro b a w ⟨v816, v819, v822, ha, HM⟩ hb hon hoff K hK
   replace ha := Aside0.mk ha
   obtain ⟨_,_,_,_,_,_,_,_,_,_⟩ := bk5 (HM.bx 0 rfl)
   have e13 := PE ha 10 hon
   exact VL (.slice A0_4 l0_4.length c0_4) (hK.out _ _ ⟨v816, v819, v822, PUT ha 11 hb, HM⟩)
  refine SZ ?_ ?_
  ·rintro b a w ⟨v816, v819, v822, ha, HM⟩ hb hon hoff K hK
   replace ha := Aside0.mk ha
   have e14 := PE ha 11 hon
   refine ST (eC (some 15) rfl #[.slice A0_4 l0_4.length c0_4] rfl Try.func87 (impl_copyInts.calls _ _ l0_4 t821 _ (HM.came HR0_4.out) HC0_4.out A6.out) ?_ (hargs := by (simp only [List.map_toArray, List.map_cons, List.map_nil, evc, eval_of e14]) <;> rfl))
   rintro e w29 ⟨v822, rfl, hR⟩
   refine ⟨_, rfl, ?_⟩
   replace HM := HM.call hR
   clear hR
   exact hK.out _ _ ⟨v816, v819, v822, PUT (PCH ha 13 (hoff 13 rfl)) 12 hb, ((HM.sF 1 rfl (hoff 14 rfl)).iF 1 rfl (hoff 14 rfl)).pick [0, 1, 2, 3, 5]⟩
  refine SZ ?_ ?_
  ·rintro b a w ⟨v816, v819, v822, ha, HM⟩ hb hon hoff K hK
   replace ha := Aside0.mk ha
   have HZ := HM
   replace HM := HM.sT 2 rfl (hon 6 rfl)
   replace HM := HM.sT 3 rfl (hon 9 rfl)
   replace HM := HM.sT 4 rfl (hon 12 rfl)
   obtain ⟨Xo30, ko30, rfl⟩ := HM.rdR 4 rfl
   obtain ⟨Xo31, ko31, rfl⟩ := HM.rdR 3 rfl
   obtain ⟨Xo32, ko32, rfl⟩ := HM.rdR 2 rfl
   have e4 := PE ha 1 hon
   have e6 := PE ha 3 hon
   have e9 := PE ha 6 hon
   have e12 := PE ha 9 hon
   have e15 := PE ha 12 hon
   exact VL (.agg #[.int .i64 a0_0, .int .i64 a0_1, .slice Xo32 t815.length ko32, .slice Xo31 t818.length ko31, .slice Xo30 t821.length ko30]) (hK.out _ _ ⟨.slice Xo32 t815.length ko32, .slice Xo31 t818.length ko31, .slice Xo30 t821.length ko30, PUT ha 13 hb, HZ⟩)
  refine SZ ?_ ?_
  ·rintro b a w ⟨v816, v819, v822, ha, HM⟩ hb hon hoff K hK
   replace ha := Aside0.mk ha
   replace HM := HM.sF 1 rfl hb
   replace HM := HM.sT 2 rfl (hon 6 rfl)
   replace HM := HM.sT 3 rfl (hon 9 rfl)
   replace HM := HM.sT 4 rfl (hon 12 rfl)
   obtain ⟨Xo33, ko33, rfl⟩ := HM.rdR 2 rfl
   obtain ⟨Xo34, ko34, rfl⟩ := HM.rdR 3 rfl
   obtain ⟨Xo35, ko35, rfl⟩ := HM.rdR 4 rfl
   have e2 := PG ha 2
   have e16 := PE ha 13 hon
   refine ST (eS 1 2 0 [.int .i64 a0_0, .int .i64 a0_1, .slice Xo33 t815.length ko33, .slice Xo34 t818.length ko34, .slice Xo35 t821.length ko35] HM rfl rfl ?_ (hp := (eval_of e2)) (hx := (by rw [eval_of e16]; rfl)))
   clear HM
   intro w36 HM
   exact hK.out _ _ ⟨.slice Xo33 t815.length ko33, .slice Xo34 t818.length ko34, .slice Xo35 t821.length ko35, PUS ha, (((HM.iT 2 rfl (hon 6 rfl)).iT 3 rfl (hon 9 rfl)).iT 4 rfl (hon 12 rfl)).pick [0, 1, 2, 3, 4]⟩
  exact steps_nil
 rintro _ w37 ⟨v816, v819, v822, rfl, HM⟩
 replace HM := HM.sT 1 rfl rfl
 replace HM := HM.sT 2 rfl rfl
 replace HM := HM.sT 3 rfl rfl
 replace HM := HM.sT 4 rfl rfl
 simp only [putSel, if_true, Act.put, List.setIfInBounds_toArray, List.set_cons_zero, List.set_cons_succ, gt_iff_lt, ge_iff_le]
 simp only [Option.some.injEq, Prod.mk.injEq] at H
 obtain ⟨rfl, rfl, rfl, rfl, rfl⟩ := H
 go_wp2
 refine bodyPost_ret (results_cell_row rfl _ _ gb814 25 #[.int .i64 a0_0, .int .i64 a0_1, v816, v819, v822] (0, 0) _ rfl (HM.bx 1 rfl) Try.underlying25 rfl (by kernel_rfl)) rfl ?_
 exact ⟨_, _, _, ER, (MD HM).pick [2, 3, 4]⟩
def impl_Mend.f (k : Nat) (a0 : ByteArray) (a1_0 : Int) (a1_1 : Int) (l1_2 : List (S76)) (l1_3 : List (S76)) (l1_4 : List Int) : Option (Int × Int × (List (S76)) × (List (S76)) × List Int × Bool) := (impl_TextThree.f k a0).bind fun bt826 => (if bt826.2.2.2.2.2 = 0 then (some (bt826.1, bt826.2.1, bt826.2.2.1, bt826.2.2.2.1, bt826.2.2.2.2.1, true)) else ((impl_ThreeOk.f k a1_0 a1_1 l1_2 l1_3 l1_4).bind fun t839 => (if t839 = true then ((impl_copyThree.f a1_0 a1_1 l1_2 l1_3 l1_4).bind fun bt840 => (some (bt840.1, bt840.2.1, bt840.2.2.1, bt840.2.2.2.1, bt840.2.2.2.2, false))) else (some (0, 0, ([] : List (S76)), ([] : List (S76)), ([] : List Int), false)))))
theorem impl_Mend.calls (k : Nat) (a0 : ByteArray) (a1_0 : Int) (a1_1 : Int) (A1_2 : Option Addr) (c1_2 : Nat) (l1_2 : List (S76)) (A1_3 : Option Addr) (c1_3 : Nat) (l1_3 : List (S76)) (A1_4 : Option Addr) (c1_4 : Nat) (l1_4 : List Int) (r1 : Int) (r2 : Int) (r3 : List (S76)) (r4 : List (S76)) (r5 : List Int) (r6 : Bool) (w : World) (hr1_2 : Kd.C k76 w A1_2 l1_2.length l1_2) (hc1_2 : l1_2.length ≤ c1_2) (hr1_3 : Kd.C k76 w A1_3 l1_3.length l1_3) (hc1_3 : l1_3.length ≤ c1_3) (hr1_4 : Kd.C (Kd.int .i64) w A1_4 l1_4.length l1_4) (hc1_4 : l1_4.length ≤ c1_4) (h : impl_Mend.f k a0 a1_0 a1_1 l1_2 l1_3 l1_4 = some (r1, r2, r3, r4, r5, r6)) :
  Calls Try.prog 19 #[.string a0, .agg #[.int .i64 a1_0, .int .i64 a1_1, .slice A1_2 l1_2.length c1_2, .slice A1_3 l1_3.length c1_3, .slice A1_4 l1_4.length c1_4]] w fun e w' => ∃ v2_ v3_ v4_ : Value, e = .returned (.tuple #[.agg #[.int .i64 r1, .int .i64 r2, v2_, v3_, v4_], .bool r6]) ∧ Mem w [] w' [rowR k76 76 v2_ r3, rowR k76 76 v3_ r4, rowR (Kd.int .i64) 3 v4_ r5] := by
 have hu25 := Try.underlying25
 have HR1_2 := Aside0.mk hr1_2
 have HC1_2 := Aside0.mk hc1_2
 clear hr1_2 hc1_2
 have HR1_3 := Aside0.mk hr1_3
 have HC1_3 := Aside0.mk hc1_3
 clear hr1_3 hc1_3
 have HR1_4 := Aside0.mk hr1_4
 have HC1_4 := Aside0.mk hc1_4
 clear hr1_4 hc1_4
 have HM := Mem.nil w
 have H := h
 clear h
 unfold impl_Mend.f at H
 go_enter Try.func19, Try.ntmps19
 replace H := BN H; obtain ⟨⟨t826, t827, t828, t831, t834, t837⟩, A5, H⟩ := H
 go_upto_if 13 with (first | ((with_reducible refine gN 3 rfl ?_); refine pB 3 25 [.int .i64 a1_0, .int .i64 a1_1, .slice A1_2 l1_2.length c1_2, .slice A1_3 l1_3.length c1_3, .slice A1_4 l1_4.length c1_4] HM rfl ?_; clear HM; intro gb824 w3 HM) | ((with_reducible refine gN 4 rfl ?_); refine pB 4 25 [.int .i64 0, .int .i64 0, .slice none 0 0, .slice none 0 0, .slice none 0 0] HM rfl ?_; clear HM; intro gb825 w4 HM) | ((with_reducible refine gC 7 rfl ?_); refine pC (some 10) rfl #[.string a0] rfl Try.func7 (impl_TextThree.calls k a0 t826 t827 t828 t831 t834 t837 _ A5.out) ?_; rintro e w6 ⟨v829, v832, v835, rfl, hR⟩; refine ⟨_, rfl, ?_⟩; replace HM := HM.call hR; clear hR) | ((with_reducible refine gN 6 rfl ?_); refine pB 6 25 [.int .i64 0, .int .i64 0, .slice none 0 0, .slice none 0 0, .slice none 0 0] HM rfl ?_; clear HM; intro gb838 w7 HM; obtain ⟨Xo8, ko8, rfl⟩ := HM.rdR 2 rfl; obtain ⟨Xo9, ko9, rfl⟩ := HM.rdR 3 rfl; obtain ⟨Xo10, ko10, rfl⟩ := HM.rdR 4 rfl) | ((with_reducible refine gS 6 rfl ?_); refine pS 5 6 0 [.int .i64 t826, .int .i64 t827, .slice Xo8 t828.length ko8, .slice Xo9 t831.length ko9, .slice Xo10 t834.length ko10] HM rfl rfl ?_; clear HM; intro w11 HM))
 replace HM := nzM HM
 replace H := IT H; rcases H with ⟨c12, H⟩ | ⟨c12, H⟩
 ·have c12b0 : (t837 == 0) = true := beq_iff_eq.mpr c12
  have c12b1 : (t837 != 0) = false := bne_eq_false_iff_eq.mpr c12
  clear c12
  first|rw [c12b0]|(simp only [i64_w, i32_w]; rw [c12b0])|skip
  simp only [Option.some.injEq, Prod.mk.injEq] at H
  obtain ⟨rfl, rfl, rfl, rfl, rfl, rfl⟩ := H
  obtain ⟨_,_,_,_,_,_,_,_,_,_⟩ := bk5 (HM.bx 5 rfl)
  go_wp2_with (first | ((with_reducible refine gS 4 rfl ?_); refine pS 1 4 0 [.int .i64 t826, .int .i64 t827, .slice Xo8 t828.length ko8, .slice Xo9 t831.length ko9, .slice Xo10 t834.length ko10] HM rfl rfl ?_; clear HM; intro w14 HM))
  refine bodyPost_ret (results_ct rfl _ _ gb825 25 #[.int .i64 t826, .int .i64 t827, .slice Xo8 t828.length ko8, .slice Xo9 t831.length ko9, .slice Xo10 t834.length ko10] (0, 0) _ rfl (HM.bx 1 rfl) Try.underlying25 rfl (by kernel_rfl)) rfl ?_
  exact ⟨_, _, _, ER, (MD HM).pick [2, 3, 4]⟩
 ·have c12b0 : (t837 == 0) = false := beq_eq_false_iff_ne.mpr c12
  have c12b1 : (t837 != 0) = true := bne_iff_ne.mpr c12
  first|rw [c12b0]|(simp only [i64_w, i32_w]; rw [c12b0])|skip
  replace H := BN H; obtain ⟨t839, A16, H⟩ := H
  obtain ⟨_,_,_,_,_,_,_,_,_,_⟩ := bk5 (HM.bx 0 rfl)
  go_upto_if 17 with (first | ((with_reducible refine gC 29 rfl ?_); refine pC (some 19) rfl #[.agg #[.int .i64 a1_0, .int .i64 a1_1, .slice A1_2 l1_2.length c1_2, .slice A1_3 l1_3.length c1_3, .slice A1_4 l1_4.length c1_4]] rfl Try.func29 (impl_ThreeOk.calls k a1_0 a1_1 _ _ l1_2 _ _ l1_3 _ _ l1_4 t839 _ (HM.came HR1_2.out) HC1_2.out (HM.came HR1_3.out) HC1_3.out (HM.came HR1_4.out) HC1_4.out A16.out) ?_; rintro e w17 ⟨rfl, hR⟩; refine ⟨_, rfl, ?_⟩; replace HM := HM.call hR; clear hR))
  replace H := IB H
  rcases H with ⟨c18, H⟩ | ⟨c18, H⟩
  ·subst c18
   replace H := BN H; obtain ⟨⟨t840, t841, t842, t845, t848⟩, A20, H⟩ := H
   simp only [Option.some.injEq, Prod.mk.injEq] at H
   obtain ⟨rfl, rfl, rfl, rfl, rfl, rfl⟩ := H
   obtain ⟨_,_,_,_,_,_,_,_,_,_⟩ := bk5 (HM.bx 0 rfl)
   go_wp2_with (first | ((with_reducible refine gC 53 rfl ?_); refine pC (some 21) rfl #[.agg #[.int .i64 a1_0, .int .i64 a1_1, .slice A1_2 l1_2.length c1_2, .slice A1_3 l1_3.length c1_3, .slice A1_4 l1_4.length c1_4]] rfl Try.func53 (impl_copyThree.calls a1_0 a1_1 _ _ l1_2 _ _ l1_3 _ _ l1_4 t840 t841 t842 t845 t848 _ (HM.came HR1_2.out) HC1_2.out (HM.came HR1_3.out) HC1_3.out (HM.came HR1_4.out) HC1_4.out A20.out) ?_; rintro e w21 ⟨v843, v846, v849, rfl, hR⟩; refine ⟨_, rfl, ?_⟩; replace HM := HM.call hR; clear hR; obtain ⟨Xo22, ko22, rfl⟩ := HM.rdR 6 rfl; obtain ⟨Xo23, ko23, rfl⟩ := HM.rdR 7 rfl; obtain ⟨Xo24, ko24, rfl⟩ := HM.rdR 8 rfl) | ((with_reducible refine gS 4 rfl ?_); refine pS 1 4 0 [.int .i64 t840, .int .i64 t841, .slice Xo22 t842.length ko22, .slice Xo23 t845.length ko23, .slice Xo24 t848.length ko24] HM rfl rfl ?_; clear HM; intro w25 HM))
   refine bodyPost_ret (results_ct rfl _ _ gb825 25 #[.int .i64 t840, .int .i64 t841, .slice Xo22 t842.length ko22, .slice Xo23 t845.length ko23, .slice Xo24 t848.length ko24] (0, 0) _ rfl (HM.bx 1 rfl) Try.underlying25 rfl (by kernel_rfl)) rfl ?_
   exact ⟨_, _, _, ER, (MD HM).pick [6, 7, 8]⟩
  ·subst c18
   simp only [Option.some.injEq, Prod.mk.injEq] at H
   obtain ⟨rfl, rfl, rfl, rfl, rfl, rfl⟩ := H
   go_wp2_with (first | ((with_reducible refine gS 4 rfl ?_); refine pS 1 4 0 [.int .i64 0, .int .i64 0, .slice none 0 0, .slice none 0 0, .slice none 0 0] HM rfl rfl ?_; clear HM; intro w26 HM; replace HM := HM.nl k76 76; replace HM := HM.nl k76 76; replace HM := HM.nl (Kd.int .i64) 3))
   refine bodyPost_ret (results_ct rfl _ _ gb825 25 #[.int .i64 0, .int .i64 0, .slice none 0 0, .slice none 0 0, .slice none 0 0] (0, 0) _ rfl (HM.bx 1 rfl) Try.underlying25 rfl (by kernel_rfl)) rfl ?_
   exact ⟨_, _, _, ER, (MD HM).pick [6, 7, 8]⟩
def laws_eqItem.f (a0_0 : ByteArray) (a0_1 : ByteArray) (a0_2 : Int) (a1_0 : ByteArray) (a1_1 : ByteArray) (a1_2 : Int) : Option (Bool) := if a0_0.toList = a1_0.toList then (if a0_1.toList = a1_1.toList then (if a0_2 = a1_2 then (some true) else (none)) else (none)) else (none)
theorem laws_eqItem.calls (a0_0 : ByteArray) (a0_1 : ByteArray) (a0_2 : Int) (a1_0 : ByteArray) (a1_1 : ByteArray) (a1_2 : Int) (r : Bool) (w : World)  (h : laws_eqItem.f a0_0 a0_1 a0_2 a1_0 a1_1 a1_2 = some r) :
  Calls Try.prog 72 #[.agg #[.string a0_0, .string a0_1, .int .i64 a0_2], .agg #[.string a1_0, .string a1_1, .int .i64 a1_2]] w fun e w' => e = .returned (.bool r) ∧ Mem w [] w' [] := by
 have hu76 := Try.underlying76
 have HM := Mem.nil w
 have H := h
 clear h
 unfold laws_eqItem.f at H
 go_enter Try.func72, Try.ntmps72
 replace H := GD H; obtain ⟨c7, H⟩ := H
 obtain ⟨c7b0, c7b1⟩ := BE c7
 clear c7
 replace H := GD H; obtain ⟨c8, H⟩ := H
 obtain ⟨c8b0, c8b1⟩ := BE c8
 clear c8
 replace H := GD H; obtain ⟨c9, H⟩ := H
 obtain ⟨c9b0, c9b1⟩ := BE c9
 clear c9
 obtain rfl := Option.some.inj H
 go_wp2_with (first | ((with_reducible refine gN 2 rfl ?_); refine pB 2 76 [.string a0_0, .string a0_1, .int .i64 a0_2] HM rfl ?_; clear HM; intro gb434 w3 HM) | ((with_reducible refine gN 3 rfl ?_); refine pB 3 76 [.string a1_0, .string a1_1, .int .i64 a1_2] HM rfl ?_; clear HM; intro gb435 w4 HM; obtain ⟨_,_,_,_,_,_⟩ := bk3 (HM.bx 0 rfl); obtain ⟨_,_,_,_,_,_⟩ := bk3 (HM.bx 1 rfl)))
 go_ret
 exact ⟨ER, (MD HM).pick []⟩
def laws_eqItemS.l0 : Nat → List (S76) → List (S76) → Int → Option (Bool)
 | 0, _, _, _ => none
 | k + 1, x0, x1, x5 => if x5 < (x0.length : Int) then (if 0 ≤ x5 then (if x5 < (x1.length : Int) then ((laws_eqItem.f ((rd_T76 x0 x5).f0) ((rd_T76 x0 x5).f1) ((rd_T76 x0 x5).f2) ((rd_T76 x1 x5).f0) ((rd_T76 x1 x5).f1) ((rd_T76 x1 x5).f2)).bind fun t438 => (if t438 = true then (laws_eqItemS.l0 k x0 x1 (wrap64 (x5 + 1))) else (none))) else (none)) else (none)) else (some true)
def laws_eqItemS.f (k : Nat) (l0 : List (S76)) (l1 : List (S76)) : Option (Bool) := if (l0.length : Int) = (l1.length : Int) then (laws_eqItemS.l0 k l0 l1 0) else (none)
def laws_eqItemS.T6 : Bool × List (List Nat × List Nat) := (true, [([], []), ([], []), ([0, 1], [0, 1]), ([2], [2]), ([], []), ([], []), ([4, 5], [4, 5]), ([6], [6]), ([3, 7], [3, 7]), ([8], [8])])
def laws_eqItemS.B6 : List Nat := [0, 0, 3, 7, 0, 0, 48, 112, 255, 511]
theorem laws_eqItemS.tab6 : rtab .any (opsOf Try.f30 6) = laws_eqItemS.T6 := by kernel_rfl
theorem laws_eqItemS.bits6 : waitsOk laws_eqItemS.T6.2 laws_eqItemS.B6 = true := by kernel_rfl
theorem laws_eqItemS.calls (k : Nat) (A0 : Option Addr) (c0 : Nat) (l0 : List (S76)) (A1 : Option Addr) (c1 : Nat) (l1 : List (S76)) (r : Bool) (w : World) (hr0 : Kd.C k76 w A0 l0.length l0) (hc0 : l0.length ≤ c0) (hr1 : Kd.C k76 w A1 l1.length l1) (hc1 : l1.length ≤ c1) (h : laws_eqItemS.f k l0 l1 = some r) :
  Calls Try.prog 30 #[.slice A0 l0.length c0, .slice A1 l1.length c1] w fun e w' => e = .returned (.bool r) ∧ Mem w [] w' [] := by
 have hu76 := Try.underlying76
 have HR0 := Aside0.mk hr0
 have HC0 := Aside0.mk hc0
 clear hr0 hc0
 have HR1 := Aside0.mk hr1
 have HC1 := Aside0.mk hc1
 clear hr1 hc1
 have HM := Mem.nil w
 have H := h
 clear h
 unfold laws_eqItemS.f at H
 go_enter Try.func30, Try.ntmps30
 replace H := GD H; obtain ⟨c3, H⟩ := H
 obtain ⟨c3b0, c3b1⟩ := BE c3
 have c3b2 : (l0.length == l1.length) = true := by first | simpa using c3 | (simp at c3 ⊢; omega)
 clear c3
 have H' := Aside0.mk H
 clear H
 go_wp2
 go_loopg [5] k (fun kq v5 w' => ∃ (x5_1 : Int), v5 = .int .i64 x5_1 ∧ Aside0 (laws_eqItemS.l0 kq l0 l1 x5_1 = some r) ∧ Aside0 (kq ≤ k) ∧ Mem w [] w' [])
 case atStart => exact ⟨(0), RS, H', ⟨Nat.le_refl _⟩, (MD HM).pick []⟩
 case round =>
  clear H' HM
  obtain ⟨x5_1, rfl, HA, HK1, HM⟩ := hrel
  cases gk with
  | zero => exact absurd HA.out (by simp [laws_eqItemS.l0])
  | succ k1 =>
   have H := HA.out
   clear HA
   simp only [laws_eqItemS.l0] at H
   go_upto_if 14 with (fail)
   replace H := IT H; rcases H with ⟨c4, H⟩ | ⟨c4, H⟩
   ·have c4b0 := decide_eq_true c4
    clear c4
    first|rw [c4b0]|(simp only [i64_w, i32_w]; rw [c4b0])|skip
    try go_wp2
    replace H := GD H; obtain ⟨c5, H⟩ := H
    have c5b0 := decide_eq_true c5
    clear c5
    replace H := GD H; obtain ⟨c6, H⟩ := H
    have c6b0 := decide_eq_true c6
    clear c6
    replace H := BN H; obtain ⟨t438, A7, H⟩ := H
    have p436 : 0 ≤ (x5_1 : Int) := of_decide_eq_true AS
    have q436 : (x5_1 : Int) < (l0.length : Int) := of_decide_eq_true AS
    obtain ⟨ad436, e436, hx436_0, hx436_1, hx436_2⟩ := at_T76 (HM.came HR0.out) x5_1 p436 q436
    cases e436
    replace p436 := eq_true p436
    replace q436 := eq_true q436
    have p437 : 0 ≤ (x5_1 : Int) := of_decide_eq_true AS
    have q437 : (x5_1 : Int) < (l1.length : Int) := of_decide_eq_true AS
    obtain ⟨ad437, e437, hx437_0, hx437_1, hx437_2⟩ := at_T76 (HM.came HR1.out) x5_1 p437 q437
    cases e437
    replace p437 := eq_true p437
    replace q437 := eq_true q437
    refine RGN 10 [0, 1, 2, 3, 4, 5, 6, 7, 8, 9] (fun a0 b a w' => a = putSel a0 b [(0, 17, .slice (some ad436) l0.length c0), (1, 18, .int .i64 x5_1), (2, 19, .pointer (some (ad436.add ((x5_1).toNat * 3)))), (3, 20, .agg #[.string ((rd_T76 l0 x5_1).f0), .string ((rd_T76 l0 x5_1).f1), .int .i64 ((rd_T76 l0 x5_1).f2)]), (4, 21, .slice (some ad437) l1.length c1), (5, 22, .int .i64 x5_1), (6, 23, .pointer (some (ad437.add ((x5_1).toNat * 3)))), (7, 24, .agg #[.string ((rd_T76 l1 x5_1).f0), .string ((rd_T76 l1 x5_1).f1), .int .i64 ((rd_T76 l1 x5_1).f2)]), (8, 25, .bool t438), (9, 26, .bool (!t438))] ∧ Mem w [] w' []) laws_eqItemS.tab6 laws_eqItemS.bits6 ?_ ?_ ?_
    ·exact ⟨PS0' rfl _, (HM.drew).pick []⟩
    ·clear HM
     refine SY ?_ ?_
     ·intro b a w ha HM hb hon hoff K hK
      have e0 := PG ha 0
      exact VL (.slice (some ad436) l0.length c0) (hK.out _ _ ⟨PUT ha 0 hb, HM⟩)
     refine SY ?_ ?_
     ·intro b a w ha HM hb hon hoff K hK
      have e5 := PG ha 5
      exact VL (.int .i64 x5_1) (hK.out _ _ ⟨PUT ha 1 hb, HM⟩)
     refine SY ?_ ?_
     ·intro b a w ha HM hb hon hoff K hK
      have p436 : 0 ≤ (x5_1 : Int) := of_decide_eq_true AS
      have q436 : (x5_1 : Int) < (l0.length : Int) := of_decide_eq_true AS
      obtain ⟨ad436, e436, hx436_0, hx436_1, hx436_2⟩ := at_T76 (HM.came HR0.out) x5_1 p436 q436
      obtain rfl := Option.some.inj e436
      replace p436 := eq_true p436
      replace q436 := eq_true q436
      have e17 := PE ha 0 hon
      have e18 := PE ha 1 hon
      exact VL (.pointer (some (ad436.add ((x5_1).toNat * 3)))) (hK.out _ _ ⟨PUT ha 2 hb, HM⟩)
     refine SY ?_ ?_
     ·intro b a w ha HM hb hon hoff K hK
      have p436 : 0 ≤ (x5_1 : Int) := of_decide_eq_true AS
      have q436 : (x5_1 : Int) < (l0.length : Int) := of_decide_eq_true AS
      obtain ⟨ad436, e436, hx436_0, hx436_1, hx436_2⟩ := at_T76 (HM.came HR0.out) x5_1 p436 q436
      obtain rfl := Option.some.inj e436
      replace p436 := eq_true p436
      replace q436 := eq_true q436
      have e19 := PE ha 2 hon
      exact VL (.agg #[.string ((rd_T76 l0 x5_1).f0), .string ((rd_T76 l0 x5_1).f1), .int .i64 ((rd_T76 l0 x5_1).f2)]) (hK.out _ _ ⟨PUT ha 3 hb, HM⟩)
     refine SY ?_ ?_
     ·intro b a w ha HM hb hon hoff K hK
      have e1 := PG ha 1
      exact VL (.slice (some ad437) l1.length c1) (hK.out _ _ ⟨PUT ha 4 hb, HM⟩)
     refine SY ?_ ?_
     ·intro b a w ha HM hb hon hoff K hK
      have e5 := PG ha 5
      exact VL (.int .i64 x5_1) (hK.out _ _ ⟨PUT ha 5 hb, HM⟩)
     refine SY ?_ ?_
     ·intro b a w ha HM hb hon hoff K hK
      have p437 : 0 ≤ (x5_1 : Int) := of_decide_eq_true AS
      have q437 : (x5_1 : Int) < (l1.length : Int) := of_decide_eq_true AS
      obtain ⟨ad437, e437, hx437_0, hx437_1, hx437_2⟩ := at_T76 (HM.came HR1.out) x5_1 p437 q437
      obtain rfl := Option.some.inj e437
      replace p437 := eq_true p437
      replace q437 := eq_true q437
      have e21 := PE ha 4 hon
      have e22 := PE ha 5 hon
      exact VL (.pointer (some (ad437.add ((x5_1).toNat * 3)))) (hK.out _ _ ⟨PUT ha 6 hb, HM⟩)
     refine SY ?_ ?_
     ·intro b a w ha HM hb hon hoff K hK
      have p437 : 0 ≤ (x5_1 : Int) := of_decide_eq_true AS
      have q437 : (x5_1 : Int) < (l1.length : Int) := of_decide_eq_true AS
      obtain ⟨ad437, e437, hx437_0, hx437_1, hx437_2⟩ := at_T76 (HM.came HR1.out) x5_1 p437 q437
      obtain rfl := Option.some.inj e437
      replace p437 := eq_true p437
      replace q437 := eq_true q437
      have e23 := PE ha 6 hon
      exact VL (.agg #[.string ((rd_T76 l1 x5_1).f0), .string ((rd_T76 l1 x5_1).f1), .int .i64 ((rd_T76 l1 x5_1).f2)]) (hK.out _ _ ⟨PUT ha 7 hb, HM⟩)
     refine SY ?_ ?_
     ·intro b a w ha HM hb hon hoff K hK
      have e20 := PE ha 3 hon
      have e24 := PE ha 7 hon
      refine ST (eC (some 25) rfl #[.agg #[.string ((rd_T76 l0 x5_1).f0), .string ((rd_T76 l0 x5_1).f1), .int .i64 ((rd_T76 l0 x5_1).f2)], .agg #[.string ((rd_T76 l1 x5_1).f0), .string ((rd_T76 l1 x5_1).f1), .int .i64 ((rd_T76 l1 x5_1).f2)]] rfl Try.func72 (laws_eqItem.calls ((rd_T76 l0 x5_1).f0) ((rd_T76 l0 x5_1).f1) ((rd_T76 l0 x5_1).f2) ((rd_T76 l1 x5_1).f0) ((rd_T76 l1 x5_1).f1) ((rd_T76 l1 x5_1).f2) t438 _ A7.out) ?_ (hargs := by (simp only [List.map_toArray, List.map_cons, List.map_nil, evc, eval_of e20, eval_of e24]) <;> rfl))
      rintro e w9 ⟨rfl, hR⟩
      refine ⟨_, rfl, ?_⟩
      replace HM := HM.call hR
      clear hR
      exact hK.out _ _ ⟨PUT ha 8 hb, (HM).pick []⟩
     refine SY ?_ ?_
     ·intro b a w ha HM hb hon hoff K hK
      have e25 := PE ha 8 hon
      exact VL (.bool (!t438)) (hK.out _ _ ⟨PUT ha 9 hb, HM⟩)
     exact steps_nil
    rintro _ w10 ⟨rfl, HM⟩
    simp only [putSel, if_true, Act.put, List.setIfInBounds_toArray, List.set_cons_zero, List.set_cons_succ, gt_iff_lt, ge_iff_le]
    replace H := GD H
    obtain ⟨c11, H⟩ := H
    subst c11
    have H' := Aside0.mk H
    clear H
    go_wp2
    go_roundg k1
    case measure => have := HK1.out; omega
    case rel => exact ⟨(wrap64 (x5_1 + 1)), RS, H', ⟨by have := HK1.out; omega⟩, (MD HM).pick []⟩
   ·have c4b0 := decide_eq_false c4
    clear c4
    first|rw [c4b0]|(simp only [i64_w, i32_w]; rw [c4b0])|skip
    obtain rfl := Option.some.inj H
    go_wp2
    go_ret
    exact ⟨ER, (MD HM).pick []⟩
end Go.Proofs.Ytnlnifpehndacaa.G

namespace Go.Proofs.Ytnlnifpehndacaa.G
open Go.RowKit Go.Proofs.YtnlnifpehndacaaW.PrintWords Go.Proofs.YtnlnifpehndacaaW.PrintLast Go.Proofs.YtnlnifpehndacaaW.PrintMore Go.Proofs.Ytnlnifpehndacaa.Sh
attribute [local go_sem] max2_int min2_int max_two min_two max_three min_three max_four min_four
set_option linter.unusedVariables false
set_option linter.unusedSimpArgs false
def laws_eqIntS.l0 : Nat → List Int → List Int → Int → Option (Bool)
 | 0, _, _, _ => none
 | k + 1, x0, x1, x5 => if x5 < (x0.length : Int) then (if 0 ≤ x5 then (if x5 < (x1.length : Int) then (if (rd x0 x5) = (rd x1 x5) then (laws_eqIntS.l0 k x0 x1 (wrap64 (x5 + 1))) else (none)) else (none)) else (none)) else (some true)
def laws_eqIntS.f (k : Nat) (l0 : List Int) (l1 : List Int) : Option (Bool) := if (l0.length : Int) = (l1.length : Int) then (laws_eqIntS.l0 k l0 l1 0) else (none)
theorem laws_eqIntS.calls (k : Nat) (A0 : Option Addr) (c0 : Nat) (l0 : List Int) (A1 : Option Addr) (c1 : Nat) (l1 : List Int) (r : Bool) (w : World) (hr0 : Kd.C (Kd.int .i64) w A0 l0.length l0) (hc0 : l0.length ≤ c0) (hr1 : Kd.C (Kd.int .i64) w A1 l1.length l1) (hc1 : l1.length ≤ c1) (h : laws_eqIntS.f k l0 l1 = some r) :
  Calls Try.prog 31 #[.slice A0 l0.length c0, .slice A1 l1.length c1] w fun e w' => e = .returned (.bool r) ∧ Drawn0 w w' := by
 have HR0 := Aside0.mk hr0
 have HC0 := Aside0.mk hc0
 clear hr0 hc0
 have HR1 := Aside0.mk hr1
 have HC1 := Aside0.mk hc1
 clear hr1 hc1
 have H : (if (l0.length : Int) = (l1.length : Int) then (laws_eqIntS.l0 k l0 l1 0) else (none)) = some r := h
 clear h
 by_cases c3 : (l0.length : Int) = (l1.length : Int)
 ·rw [if_pos c3] at H
  have c3b0 : ((l0.length : Int) == (l1.length : Int)) = true := beq_iff_eq.mpr c3
  have c3b1 : ((l0.length : Int) != (l1.length : Int)) = false := bne_eq_false_iff_eq.mpr c3
  have c3b2 : (l0.length == l1.length) = true := by first | simpa using c3 | (simp at c3 ⊢; omega)
  clear c3
  have H' := Aside0.mk H
  clear H
  go_enter Try.func31, Try.ntmps31
  go_wp2
  repeat (go_quiet (fail); try go_wp2)
  go_loopg [5] k (fun kq v5 w' => ∃ (x5_1 : Int), v5 = .int .i64 x5_1 ∧ Aside0 (laws_eqIntS.l0 kq l0 l1 x5_1 = some r) ∧ Aside0 (kq ≤ k) ∧ Drawn0 w w')
  case atStart => exact ⟨(0), RS, H', ⟨Nat.le_refl _⟩, DR⟩
  case round =>
   clear H'
   try clear c1
   try clear p2
   try clear c3
   try clear c3b0
   try clear c3b1
   try clear c3b2
   obtain ⟨x5_1, rfl, HA, HK1, ⟨m1, rfl⟩⟩ := hrel
   cases gk with
   | zero => exact absurd HA.out (by simp [laws_eqIntS.l0])
   | succ k1 =>
    have H := HA.out
    clear HA
    simp only [laws_eqIntS.l0] at H
    by_cases c4 : x5_1 < (l0.length : Int)
    ·rw [if_pos c4] at H
     have c4b0 : decide (x5_1 < (l0.length : Int)) = true := decide_eq_true c4
     clear c4
     by_cases c5 : 0 ≤ x5_1
     ·rw [if_pos c5] at H
      have c5b0 : decide (0 ≤ x5_1) = true := decide_eq_true c5
      clear c5
      by_cases c6 : x5_1 < (l1.length : Int)
      ·rw [if_pos c6] at H
       have c6b0 : decide (x5_1 < (l1.length : Int)) = true := decide_eq_true c6
       clear c6
       by_cases c7 : (rd l0 x5_1) = (rd l1 x5_1)
       ·rw [if_pos c7] at H
        have c7b0 : ((rd l0 x5_1) == (rd l1 x5_1)) = true := beq_iff_eq.mpr c7
        have c7b1 : ((rd l0 x5_1) != (rd l1 x5_1)) = false := bne_eq_false_iff_eq.mpr c7
        clear c7
        have H' := Aside0.mk H
        clear H
        have p441 : 0 ≤ (x5_1 : Int) := of_decide_eq_true AS
        have q441 : x5_1 < (l0.length : Int) := of_decide_eq_true AS
        obtain ⟨ad441, e441, hx441_0⟩ := Kd.at_int HR0.out x5_1 p441 q441
        cases e441
        replace p441 := eq_true p441
        replace q441 := eq_true q441
        have p442 : 0 ≤ (x5_1 : Int) := of_decide_eq_true AS
        have q442 : x5_1 < (l1.length : Int) := of_decide_eq_true AS
        obtain ⟨ad442, e442, hx442_0⟩ := Kd.at_int HR1.out x5_1 p442 q442
        cases e442
        replace p442 := eq_true p442
        replace q442 := eq_true q442
        go_wp2
        repeat (go_quiet (fail); try go_wp2)
        go_roundg k1
        case measure => have := HK1.out; omega
        case rel => exact ⟨(wrap64 (x5_1 + 1)), RS, H', ⟨by have := HK1.out; omega⟩, DR⟩
       ·rw [if_neg c7] at H
        exact absurd H (by simp)
      ·rw [if_neg c6] at H
       exact absurd H (by simp)
     ·rw [if_neg c5] at H
      exact absurd H (by simp)
    ·rw [if_neg c4] at H
     have c4b0 : decide (x5_1 < (l0.length : Int)) = false := decide_eq_false c4
     clear c4
     obtain rfl := Option.some.inj H
     go_wp2
     repeat (go_quiet (fail); try go_wp2)
     go_ret
     exact ⟨by first | rfl | (simp; done) | (simp [*]; done), DR⟩
 ·rw [if_neg c3] at H
  exact absurd H (by simp)
end Go.Proofs.Ytnlnifpehndacaa.G

namespace Go.Proofs.Ytnlnifpehndacaa.G
open Go.RowKit Go.Proofs.YtnlnifpehndacaaW.PrintWords Go.Proofs.YtnlnifpehndacaaW.PrintLast Go.Proofs.YtnlnifpehndacaaW.PrintMore Go.Proofs.Ytnlnifpehndacaa.Sh
attribute [local go_sem] max2_int min2_int max_two min_two max_three min_three max_four min_four
set_option linter.unusedVariables false
set_option linter.unusedSimpArgs false
open Go.Proofs.Ytnlnifpehndacaa.Mm
def laws_eqThree.f (k : Nat) (a0_0 : Int) (a0_1 : Int) (l0_2 : List (S76)) (l0_3 : List (S76)) (l0_4 : List Int) (a1_0 : Int) (a1_1 : Int) (l1_2 : List (S76)) (l1_3 : List (S76)) (l1_4 : List Int) : Option (Bool) := if a0_0 = a1_0 then (if a0_1 = a1_1 then ((laws_eqItemS.f k l0_2 l1_2).bind fun t445 => (if t445 = true then ((laws_eqItemS.f k l0_3 l1_3).bind fun t446 => (if t446 = true then ((laws_eqIntS.f k l0_4 l1_4).bind fun t447 => (if t447 = true then (some true) else (none))) else (none))) else (none))) else (none)) else (none)
theorem laws_eqThree.calls (k : Nat) (a0_0 : Int) (a0_1 : Int) (A0_2 : Option Addr) (c0_2 : Nat) (l0_2 : List (S76)) (A0_3 : Option Addr) (c0_3 : Nat) (l0_3 : List (S76)) (A0_4 : Option Addr) (c0_4 : Nat) (l0_4 : List Int) (a1_0 : Int) (a1_1 : Int) (A1_2 : Option Addr) (c1_2 : Nat) (l1_2 : List (S76)) (A1_3 : Option Addr) (c1_3 : Nat) (l1_3 : List (S76)) (A1_4 : Option Addr) (c1_4 : Nat) (l1_4 : List Int) (r : Bool) (w : World) (hr0_2 : Kd.C k76 w A0_2 l0_2.length l0_2) (hc0_2 : l0_2.length ≤ c0_2) (hr0_3 : Kd.C k76 w A0_3 l0_3.length l0_3) (hc0_3 : l0_3.length ≤ c0_3) (hr0_4 : Kd.C (Kd.int .i64) w A0_4 l0_4.length l0_4) (hc0_4 : l0_4.length ≤ c0_4) (hr1_2 : Kd.C k76 w A1_2 l1_2.length l1_2) (hc1_2 : l1_2.length ≤ c1_2) (hr1_3 : Kd.C k76 w A1_3 l1_3.length l1_3) (hc1_3 : l1_3.length ≤ c1_3) (hr1_4 : Kd.C (Kd.int .i64) w A1_4 l1_4.length l1_4) (hc1_4 : l1_4.length ≤ c1_4) (h : laws_eqThree.f k a0_0 a0_1 l0_2 l0_3 l0_4 a1_0 a1_1 l1_2 l1_3 l1_4 = some r) :
  Calls Try.prog 8 #[.agg #[.int .i64 a0_0, .int .i64 a0_1, .slice A0_2 l0_2.length c0_2, .slice A0_3 l0_3.length c0_3, .slice A0_4 l0_4.length c0_4], .agg #[.int .i64 a1_0, .int .i64 a1_1, .slice A1_2 l1_2.length c1_2, .slice A1_3 l1_3.length c1_3, .slice A1_4 l1_4.length c1_4]] w fun e w' => e = .returned (.bool r) ∧ Mem w [] w' [] := by
 have hu25 := Try.underlying25
 have HR0_2 := Aside0.mk hr0_2
 have HC0_2 := Aside0.mk hc0_2
 clear hr0_2 hc0_2
 have HR0_3 := Aside0.mk hr0_3
 have HC0_3 := Aside0.mk hc0_3
 clear hr0_3 hc0_3
 have HR0_4 := Aside0.mk hr0_4
 have HC0_4 := Aside0.mk hc0_4
 clear hr0_4 hc0_4
 have HR1_2 := Aside0.mk hr1_2
 have HC1_2 := Aside0.mk hc1_2
 clear hr1_2 hc1_2
 have HR1_3 := Aside0.mk hr1_3
 have HC1_3 := Aside0.mk hc1_3
 clear hr1_3 hc1_3
 have HR1_4 := Aside0.mk hr1_4
 have HC1_4 := Aside0.mk hc1_4
 clear hr1_4 hc1_4
 have HM := Mem.nil w
 have H := h
 clear h
 unfold laws_eqThree.f at H
 go_enter Try.func8, Try.ntmps8
 replace H := GD H; obtain ⟨c7, H⟩ := H
 obtain ⟨c7b0, c7b1⟩ := BE c7
 clear c7
 replace H := GD H; obtain ⟨c8, H⟩ := H
 obtain ⟨c8b0, c8b1⟩ := BE c8
 clear c8
 replace H := BN H; obtain ⟨t445, A9, H⟩ := H
 replace H := GD H
 obtain ⟨c11, H⟩ := H
 subst c11
 replace H := BN H; obtain ⟨t446, A14, H⟩ := H
 replace H := GD H
 obtain ⟨c16, H⟩ := H
 subst c16
 replace H := BN H; obtain ⟨t447, A19, H⟩ := H
 replace H := GD H
 obtain ⟨c21, H⟩ := H
 subst c21
 obtain rfl := Option.some.inj H
 go_wp2_with (first | ((with_reducible refine gN 2 rfl ?_); refine pB 2 25 [.int .i64 a0_0, .int .i64 a0_1, .slice A0_2 l0_2.length c0_2, .slice A0_3 l0_3.length c0_3, .slice A0_4 l0_4.length c0_4] HM rfl ?_; clear HM; intro gb443 w3 HM) | ((with_reducible refine gN 3 rfl ?_); refine pB 3 25 [.int .i64 a1_0, .int .i64 a1_1, .slice A1_2 l1_2.length c1_2, .slice A1_3 l1_3.length c1_3, .slice A1_4 l1_4.length c1_4] HM rfl ?_; clear HM; intro gb444 w4 HM; obtain ⟨_,_,_,_,_,_,_,_,_,_⟩ := bk5 (HM.bx 0 rfl); obtain ⟨_,_,_,_,_,_,_,_,_,_⟩ := bk5 (HM.bx 1 rfl)) | ((with_reducible refine gC 30 rfl ?_); refine pC (some 19) rfl #[.slice A0_2 l0_2.length c0_2, .slice A1_2 l1_2.length c1_2] rfl Try.func30 (laws_eqItemS.calls k _ _ l0_2 _ _ l1_2 true _ (HM.came HR0_2.out) HC0_2.out (HM.came HR1_2.out) HC1_2.out A9.out) ?_; rintro e w10 ⟨rfl, hR⟩; refine ⟨_, rfl, ?_⟩; replace HM := HM.call hR; clear hR; obtain ⟨_,_,_,_,_,_,_,_,_,_⟩ := bk5 (HM.bx 0 rfl); obtain ⟨_,_,_,_,_,_,_,_,_,_⟩ := bk5 (HM.bx 1 rfl)) | ((with_reducible refine gC 30 rfl ?_); refine pC (some 25) rfl #[.slice A0_3 l0_3.length c0_3, .slice A1_3 l1_3.length c1_3] rfl Try.func30 (laws_eqItemS.calls k _ _ l0_3 _ _ l1_3 true _ (HM.came HR0_3.out) HC0_3.out (HM.came HR1_3.out) HC1_3.out A14.out) ?_; rintro e w15 ⟨rfl, hR⟩; refine ⟨_, rfl, ?_⟩; replace HM := HM.call hR; clear hR; obtain ⟨_,_,_,_,_,_,_,_,_,_⟩ := bk5 (HM.bx 0 rfl); obtain ⟨_,_,_,_,_,_,_,_,_,_⟩ := bk5 (HM.bx 1 rfl)) | ((with_reducible refine gC 31 rfl ?_); refine pC (some 31) rfl #[.slice A0_4 l0_4.length c0_4, .slice A1_4 l1_4.length c1_4] rfl Try.func31 (laws_eqIntS.calls k _ _ l0_4 _ _ l1_4 true _ (HM.came HR0_4.out) HC0_4.out (HM.came HR1_4.out) HC1_4.out A19.out) ?_; rintro e w20 ⟨rfl, hd⟩; refine ⟨_, rfl, ?_⟩; replace HM := HM.drawn hd; clear hd))
 go_ret
 exact ⟨ER, (MD HM).pick []⟩
def laws_markText.l0 : Nat → Int → ByteArray → Option (ByteArray)
 | 0, _, _ => none
 | k + 1, x0, x3 => if x0 > 0 then ((some (([(wrap64 (48 + (Int.tmod x0 10))) % 256] : List Int) : List Int)).bind fun y448 => (if (strOfNums y448).size + x3.size ≤ 9223372036854775807 then (laws_markText.l0 k (wrap64 (Int.tdiv x0 10)) ((strOfNums y448) ++ x3)) else (none))) else (if 1 + x3.size ≤ 9223372036854775807 then (some ((⟨#[109]⟩ : ByteArray) ++ x3)) else (none))
def laws_markText.f (k : Nat) (a0 : Int) : Option (ByteArray) := if a0 ≤ 0 then (some (⟨#[109, 48]⟩ : ByteArray)) else (laws_markText.l0 k a0 (⟨#[]⟩ : ByteArray))
theorem laws_markText.calls (k : Nat) (a0 : Int) (r : ByteArray) (w : World)  (h : laws_markText.f k a0 = some r) :
  Calls Try.prog 73 #[.int .i64 a0] w fun e w' => e = .returned (.string r) ∧ Mem w [] w' [] := by
 have HM := Mem.nil w
 have H := h
 clear h
 unfold laws_markText.f at H
 go_enter Try.func73, Try.ntmps73
 go_upto_if 5 with (fail)
 replace H := IT H; rcases H with ⟨c2, H⟩ | ⟨c2, H⟩
 ·have c2b0 := decide_eq_true c2
  clear c2
  first|rw [c2b0]|(simp only [i64_w, i32_w]; rw [c2b0])|skip
  obtain rfl := Option.some.inj H
  go_wp2
  go_ret
  exact ⟨ER, (MD HM).pick []⟩
 ·have c2b0 := decide_eq_false c2
  clear c2
  first|rw [c2b0]|(simp only [i64_w, i32_w]; rw [c2b0])|skip
  have H' := Aside0.mk H
  clear H
  go_wp2
  go_loopg [0, 3] k (fun kq v0 v3 w' => ∃ (x0_1 : Int) (x3_1 : ByteArray), v0 = .int .i64 x0_1 ∧ v3 = .string x3_1 ∧ Aside0 (laws_markText.l0 kq x0_1 x3_1 = some r) ∧ Aside0 (kq ≤ k) ∧ Mem w [] w' [])
  case atStart => exact ⟨(a0), ((⟨#[]⟩ : ByteArray)), RS, RS, H', ⟨Nat.le_refl _⟩, (MD HM).pick []⟩
  case round =>
   clear H' HM
   obtain ⟨x0_1, x3_1, rfl, rfl, HA, HK1, HM⟩ := hrel
   cases gk with
   | zero => exact absurd HA.out (by simp [laws_markText.l0])
   | succ k1 =>
    have H := HA.out
    clear HA
    simp only [laws_markText.l0] at H
    go_upto_if 7 with (fail)
    replace H := IT H; rcases H with ⟨c3, H⟩ | ⟨c3, H⟩
    ·have c3b0 : decide (0 < x0_1) = true := decide_eq_true c3
     clear c3
     first|rw [c3b0]|(simp only [i64_w, i32_w]; rw [c3b0])|skip
     replace H := BLt H; obtain ⟨y448, Ny448, H⟩ := H
     replace Ny448 := Aside0.mk Ny448
     replace H := GD H; obtain ⟨c6, H⟩ := H
     have c6b0 := eq_true c6
     have c6b1 : decide ((strOfNums y448).size + x3_1.size ≤ 9223372036854775807) = true := decide_eq_true c6
     try have c6b2 : (9223372036854775807 < (strOfNums y448).size + x3_1.size) = False := eq_false (Nat.not_lt.2 c6)
     have H' := Aside0.mk H
     clear H
     go_wp2_with (first | ((with_reducible refine gN 12 rfl ?_); refine pL 12 (Kd.int .u8) 5 ([(wrap64 (48 + (Int.tmod x0_1 10))) % 256] : List Int) [.int .u8 ((wrap64 (48 + (Int.tmod x0_1 10))) % 256)] (Reps.one (show Kd.M (Kd.int .u8) _ _ _ ((wrap64 (48 + (Int.tmod x0_1 10))) % 256) [.int .u8 ((wrap64 (48 + (Int.tmod x0_1 10))) % 256)] from rfl) (Reps.none _ _)) HM rfl ?_; clear HM; intro v449 w4 HM; replace HM := HM.nm 0 rfl Ny448.out; have hcv5 := HM.str 0 rfl Try.underlying105 Try.underlying5 Try.underlying9))
     go_roundg k1
     case measure => have := HK1.out; omega
     case rel => exact ⟨(wrap64 (Int.tdiv x0_1 10)), ((strOfNums y448) ++ x3_1), RS, RS, H', ⟨by have := HK1.out; omega⟩, (MD HM).pick []⟩
    ·have c3b0 : decide (0 < x0_1) = false := decide_eq_false c3
     clear c3
     first|rw [c3b0]|(simp only [i64_w, i32_w]; rw [c3b0])|skip
     replace H := GD H; obtain ⟨c7, H⟩ := H
     have c7b0 := eq_true c7
     have c7b1 : decide (1 + x3_1.size ≤ 9223372036854775807) = true := decide_eq_true c7
     try have c7b2 : (9223372036854775807 < 1 + x3_1.size) = False := eq_false (Nat.not_lt.2 c7)
     obtain rfl := Option.some.inj H
     go_wp2
     go_ret
     exact ⟨ER, (MD HM).pick []⟩
def laws_markItemS.l0 : Nat → List (S76) → Int → Int → Option (Int × (List (S76)))
 | 0, _, _, _ => none
 | k + 1, x0, x1, x5 => if x5 < (x0.length : Int) then ((laws_markText.f k x1).bind fun t451 => (if 0 ≤ x5 then ((some (x0.set (x5 : Int).toNat (⟨t451, (rd_T76 x0 x5).f1, (rd_T76 x0 x5).f2⟩ : S76) : List (S76))).bind fun y452 => ((laws_markText.f k (wrap64 (x1 + 1))).bind fun t453 => ((some (y452.set (x5 : Int).toNat (⟨(rd_T76 y452 x5).f0, t453, (rd_T76 y452 x5).f2⟩ : S76) : List (S76))).bind fun y454 => (laws_markItemS.l0 k (y454.set (x5 : Int).toNat (⟨(rd_T76 y454 x5).f0, (rd_T76 y454 x5).f1, wrap64 ((wrap64 (x1 + 1)) + 1)⟩ : S76)) (wrap64 ((wrap64 ((wrap64 (x1 + 1)) + 1)) + 1)) (wrap64 (x5 + 1)))))) else (none))) else (some (x1, x0))
def laws_markItemS.f (k : Nat) (l0 : List (S76)) (a1 : Int) : Option (Int × (List (S76))) := laws_markItemS.l0 k l0 a1 0
theorem laws_markItemS.calls (k : Nat) (u9000_ : Value) (l0 : List (S76)) (a1 : Int) (r1 : Int) (r2 : List (S76)) (w0 w : World) (F : List SP)  (hM : Mem w0 F w [rowR k76 76 u9000_ l0]) (h : laws_markItemS.f k l0 a1 = some (r1, r2)) :
  Calls Try.prog 32 #[u9000_, .int .i64 a1] w fun e w' => e = .returned (.int .i64 r1) ∧ Mem w0 F w' [rowR k76 76 u9000_ r2] := by
 have HM := hM
 clear hM
 have H := h
 clear h
 unfold laws_markItemS.f at H
 go_enter Try.func32, Try.ntmps32
 have H' := Aside0.mk H
 clear H
 go_wp2
 go_loopg [1, 5] k (fun kq v1 v5 w' => ∃ (x0_1 : List (S76)) (x1_1 : Int) (x5_1 : Int), v1 = .int .i64 x1_1 ∧ v5 = .int .i64 x5_1 ∧ Aside0 (laws_markItemS.l0 kq x0_1 x1_1 x5_1 = some (r1, r2)) ∧ Aside0 (kq ≤ k) ∧ Mem w0 F w' [rowR k76 76 u9000_ x0_1])
 case atStart => exact ⟨(l0), (a1), (0), RS, RS, H', ⟨Nat.le_refl _⟩, (MD HM).pick [0]⟩
 case round =>
  clear H' HM
  obtain ⟨x0_1, x1_1, x5_1, rfl, rfl, HA, HK1, HM⟩ := hrel
  cases gk with
  | zero => exact absurd HA.out (by simp [laws_markItemS.l0])
  | succ k1 =>
   have H := HA.out
   clear HA
   simp only [laws_markItemS.l0] at H
   obtain ⟨Xo3, ko3, rfl⟩ := HM.rdR 0 rfl
   go_upto_if 9 with (fail)
   replace H := IT H; rcases H with ⟨c4, H⟩ | ⟨c4, H⟩
   ·have c4b0 := decide_eq_true c4
    clear c4
    first|rw [c4b0]|(simp only [i64_w, i32_w]; rw [c4b0])|skip
    replace H := BN H; obtain ⟨t451, A5, H⟩ := H
    replace H := GD H; obtain ⟨c7, H⟩ := H
    have c7b0 := decide_eq_true c7
    clear c7
    replace H := BLt H; obtain ⟨y452, Ny452, H⟩ := H
    replace Ny452 := Aside0.mk Ny452
    replace H := BN H; obtain ⟨t453, A10, H⟩ := H
    replace H := BLt H; obtain ⟨y454, Ny454, H⟩ := H
    replace Ny454 := Aside0.mk Ny454
    have H' := Aside0.mk H
    clear H
    go_wp2_with (first | ((with_reducible refine gC 73 rfl ?_); refine pC (some 15) rfl #[.int .i64 x1_1] rfl Try.func73 (laws_markText.calls k1 x1_1 t451 _ A5.out) ?_; rintro e w6 ⟨rfl, hR⟩; refine ⟨_, rfl, ?_⟩; replace HM := HM.call hR; clear hR; have p8 : 0 ≤ (x5_1 : Int) := of_decide_eq_true AS; have q8 : (x5_1 : Int) < ((x0_1.length : Int) : Int) := of_decide_eq_true AS; obtain ⟨go8, ef8⟩ := HM.form 0 rfl (by have h_ := (HM.CR 0 rfl).1; omega); subst ef8; obtain ⟨hx8_0, hx8_1, hx8_2, hf8_0, hf8_1, hf8_2⟩ := HM.el3 0 rfl z76 (x5_1 : Int) p8 (by have h_ := (HM.CR 0 rfl).1; omega) (.string ((rd_T76 x0_1 x5_1).f0)) (.string ((rd_T76 x0_1 x5_1).f1)) (.int .i64 ((rd_T76 x0_1 x5_1).f2)) (fun _ _ h => k76_openM h); replace p8 := eq_true p8; replace q8 := eq_true q8) | ((with_reducible refine gS 17 rfl ?_); refine pPR 0 17 (x5_1 : Int) 0 [.string t451] k76 76 x0_1 (⟨t451, (rd_T76 x0_1 x5_1).f1, (rd_T76 x0_1 x5_1).f2⟩ : S76) z76 [.string ((rd_T76 x0_1 x5_1).f0), .string ((rd_T76 x0_1 x5_1).f1), .int .i64 ((rd_T76 x0_1 x5_1).f2)] HM rfl rfl (of_decide_eq_true AS) (by have h_ : (x5_1 : Int) < ((x0_1.length : Int) : Int) := of_decide_eq_true AS; have e_ := (HM.CR 0 rfl).1; omega) (fun _ _ h => k76_openM h) (k76_mkM _ _ _ (⟨t451, (rd_T76 x0_1 x5_1).f1, (rd_T76 x0_1 x5_1).f2⟩ : S76)) ?_; clear HM; intro w9 HM; replace HM := HM.nm 0 rfl Ny452.out) | ((with_reducible refine gC 73 rfl ?_); refine pC (some 23) rfl #[.int .i64 (wrap64 (x1_1 + 1))] rfl Try.func73 (laws_markText.calls k1 (wrap64 (x1_1 + 1)) t453 _ A10.out) ?_; rintro e w11 ⟨rfl, hR⟩; refine ⟨_, rfl, ?_⟩; replace HM := HM.call hR; clear hR; have p12 : 0 ≤ (x5_1 : Int) := of_decide_eq_true AS; have q12 : (x5_1 : Int) < ((x0_1.length : Int) : Int) := of_decide_eq_true AS; obtain ⟨hx12_0, hx12_1, hx12_2, hf12_0, hf12_1, hf12_2⟩ := HM.el3 0 rfl z76 (x5_1 : Int) p12 (by have h_ := (HM.CR 0 rfl).1; omega) (.string ((rd_T76 y452 x5_1).f0)) (.string ((rd_T76 y452 x5_1).f1)) (.int .i64 ((rd_T76 y452 x5_1).f2)) (fun _ _ h => k76_openM h); replace p12 := eq_true p12; replace q12 := eq_true q12) | ((with_reducible refine gS 25 rfl ?_); refine pPR 0 25 (x5_1 : Int) 1 [.string t453] k76 76 y452 (⟨(rd_T76 y452 x5_1).f0, t453, (rd_T76 y452 x5_1).f2⟩ : S76) z76 [.string ((rd_T76 y452 x5_1).f0), .string ((rd_T76 y452 x5_1).f1), .int .i64 ((rd_T76 y452 x5_1).f2)] HM rfl rfl (of_decide_eq_true AS) (by have h_ : (x5_1 : Int) < ((x0_1.length : Int) : Int) := of_decide_eq_true AS; have e_ := (HM.CR 0 rfl).1; omega) (fun _ _ h => k76_openM h) (k76_mkM _ _ _ (⟨(rd_T76 y452 x5_1).f0, t453, (rd_T76 y452 x5_1).f2⟩ : S76)) ?_; clear HM; intro w13 HM; replace HM := HM.nm 0 rfl Ny454.out; have p14 : 0 ≤ (x5_1 : Int) := of_decide_eq_true AS; have q14 : (x5_1 : Int) < ((x0_1.length : Int) : Int) := of_decide_eq_true AS; obtain ⟨hx14_0, hx14_1, hx14_2, hf14_0, hf14_1, hf14_2⟩ := HM.el3 0 rfl z76 (x5_1 : Int) p14 (by have h_ := (HM.CR 0 rfl).1; omega) (.string ((rd_T76 y454 x5_1).f0)) (.string ((rd_T76 y454 x5_1).f1)) (.int .i64 ((rd_T76 y454 x5_1).f2)) (fun _ _ h => k76_openM h); replace p14 := eq_true p14; replace q14 := eq_true q14) | ((with_reducible refine gS 32 rfl ?_); refine pPR 0 32 (x5_1 : Int) 2 [.int .i64 (wrap64 ((wrap64 (x1_1 + 1)) + 1))] k76 76 y454 (⟨(rd_T76 y454 x5_1).f0, (rd_T76 y454 x5_1).f1, wrap64 ((wrap64 (x1_1 + 1)) + 1)⟩ : S76) z76 [.string ((rd_T76 y454 x5_1).f0), .string ((rd_T76 y454 x5_1).f1), .int .i64 ((rd_T76 y454 x5_1).f2)] HM rfl rfl (of_decide_eq_true AS) (by have h_ : (x5_1 : Int) < ((x0_1.length : Int) : Int) := of_decide_eq_true AS; have e_ := (HM.CR 0 rfl).1; omega) (fun _ _ h => k76_openM h) (k76_mkM _ _ _ (⟨(rd_T76 y454 x5_1).f0, (rd_T76 y454 x5_1).f1, wrap64 ((wrap64 (x1_1 + 1)) + 1)⟩ : S76)) ?_; clear HM; intro w15 HM))
    go_roundg k1
    case measure => have := HK1.out; omega
    case rel => exact ⟨((y454.set (x5_1 : Int).toNat (⟨(rd_T76 y454 x5_1).f0, (rd_T76 y454 x5_1).f1, wrap64 ((wrap64 (x1_1 + 1)) + 1)⟩ : S76))), (wrap64 ((wrap64 ((wrap64 (x1_1 + 1)) + 1)) + 1)), (wrap64 (x5_1 + 1)), RS, RS, H', ⟨by have := HK1.out; omega⟩, (MD HM).pick [0]⟩
   ·have c4b0 := decide_eq_false c4
    clear c4
    first|rw [c4b0]|(simp only [i64_w, i32_w]; rw [c4b0])|skip
    simp only [Option.some.injEq, Prod.mk.injEq] at H
    obtain ⟨rfl, rfl⟩ := H
    go_wp2
    go_ret
    exact ⟨ER, (MD HM).pick [0]⟩
def laws_markIntS.l0 : Nat → List Int → Int → Int → Option (Int × List Int)
 | 0, _, _, _ => none
 | k + 1, x0, x1, x5 => if x5 < (x0.length : Int) then (if 0 ≤ x5 then (laws_markIntS.l0 k (x0.set (x5 : Int).toNat x1) (wrap64 (x1 + 1)) (wrap64 (x5 + 1))) else (none)) else (some (x1, x0))
def laws_markIntS.f (k : Nat) (l0 : List Int) (a1 : Int) : Option (Int × List Int) := laws_markIntS.l0 k l0 a1 0
theorem laws_markIntS.calls (k : Nat) (u9000_ : Value) (l0 : List Int) (a1 : Int) (r1 : Int) (r2 : List Int) (w0 w : World) (F : List SP)  (hM : Mem w0 F w [rowR (Kd.int .i64) 3 u9000_ l0]) (h : laws_markIntS.f k l0 a1 = some (r1, r2)) :
  Calls Try.prog 33 #[u9000_, .int .i64 a1] w fun e w' => e = .returned (.int .i64 r1) ∧ Mem w0 F w' [rowR (Kd.int .i64) 3 u9000_ r2] := by
 have HM := hM
 clear hM
 have H := h
 clear h
 unfold laws_markIntS.f at H
 go_enter Try.func33, Try.ntmps33
 have H' := Aside0.mk H
 clear H
 go_wp2
 go_loopg [1, 5] k (fun kq v1 v5 w' => ∃ (x0_1 : List Int) (x1_1 : Int) (x5_1 : Int), v1 = .int .i64 x1_1 ∧ v5 = .int .i64 x5_1 ∧ Aside0 (laws_markIntS.l0 kq x0_1 x1_1 x5_1 = some (r1, r2)) ∧ Aside0 (kq ≤ k) ∧ Mem w0 F w' [rowR (Kd.int .i64) 3 u9000_ x0_1])
 case atStart => exact ⟨(l0), (a1), (0), RS, RS, H', ⟨Nat.le_refl _⟩, (MD HM).pick [0]⟩
 case round =>
  clear H' HM
  obtain ⟨x0_1, x1_1, x5_1, rfl, rfl, HA, HK1, HM⟩ := hrel
  cases gk with
  | zero => exact absurd HA.out (by simp [laws_markIntS.l0])
  | succ k1 =>
   have H := HA.out
   clear HA
   simp only [laws_markIntS.l0] at H
   obtain ⟨Xo3, ko3, rfl⟩ := HM.rdR 0 rfl
   go_upto_if 9 with (fail)
   replace H := IT H; rcases H with ⟨c4, H⟩ | ⟨c4, H⟩
   ·have c4b0 := decide_eq_true c4
    clear c4
    first|rw [c4b0]|(simp only [i64_w, i32_w]; rw [c4b0])|skip
    replace H := GD H; obtain ⟨c5, H⟩ := H
    have c5b0 := decide_eq_true c5
    clear c5
    have H' := Aside0.mk H
    clear H
    have p6 : 0 ≤ (x5_1 : Int) := of_decide_eq_true AS
    have q6 : (x5_1 : Int) < ((x0_1.length : Int) : Int) := of_decide_eq_true AS
    obtain ⟨go6, ef6⟩ := HM.form 0 rfl (by have h_ := (HM.CR 0 rfl).1; omega)
    subst ef6
    obtain ⟨hcc6, hfr6⟩ := HM.el 0 rfl 0 (x5_1 : Int) p6 (by have h_ := (HM.CR 0 rfl).1; omega) [.int .i64 (rd x0_1 x5_1)] (fun _ _ h => h)
    have hx6_0 : wr.cell? ⟨go6, (x5_1 : Int).toNat, none⟩ = some (.int .i64 (rd x0_1 x5_1)) := (by have h_ := hcc6 0 _ rfl; first | exact h_ | (simp only [show ((Kd.int .i64)).sz = 1 from rfl, Nat.mul_one, Nat.add_zero] at h_; exact h_) | simpa using h_)
    have hf6_0 : wr.frozen? ⟨go6, (x5_1 : Int).toNat, none⟩ = false := (by have h_ := hfr6 0; first | exact h_ | (simp only [show ((Kd.int .i64)).sz = 1 from rfl, Nat.mul_one, Nat.add_zero] at h_; exact h_) | simpa using h_)
    clear hcc6 hfr6
    replace p6 := eq_true p6
    replace q6 := eq_true q6
    go_wp2_with (first | ((with_reducible refine gS 15 rfl ?_); refine pPR 0 15 (x5_1 : Int) 0 [.int .i64 x1_1] (Kd.int .i64) 3 x0_1 x1_1 0 [.int .i64 (rd x0_1 x5_1)] HM rfl rfl (of_decide_eq_true AS) (by have h_ : (x5_1 : Int) < ((x0_1.length : Int) : Int) := of_decide_eq_true AS; have e_ := (HM.CR 0 rfl).1; omega) (fun _ _ h => h) rfl ?_; clear HM; intro w7 HM))
    go_roundg k1
    case measure => have := HK1.out; omega
    case rel => exact ⟨((x0_1.set (x5_1 : Int).toNat x1_1)), (wrap64 (x1_1 + 1)), (wrap64 (x5_1 + 1)), RS, RS, H', ⟨by have := HK1.out; omega⟩, (MD HM).pick [0]⟩
   ·have c4b0 := decide_eq_false c4
    clear c4
    first|rw [c4b0]|(simp only [i64_w, i32_w]; rw [c4b0])|skip
    simp only [Option.some.injEq, Prod.mk.injEq] at H
    obtain ⟨rfl, rfl⟩ := H
    go_wp2
    go_ret
    exact ⟨ER, (MD HM).pick [0]⟩
def laws_markThree.f (k : Nat) (a0_0 : Int) (a0_1 : Int) (l0_2 : List (S76)) (l0_3 : List (S76)) (l0_4 : List Int) (a1 : Int) : Option (Int × (List (S76)) × (List (S76)) × List Int) := (laws_markItemS.f k l0_2 a1).bind fun bt458 => ((laws_markItemS.f k l0_3 bt458.1).bind fun bt460 => ((laws_markIntS.f k l0_4 bt460.1).bind fun bt462 => (some (bt462.1, bt458.2, bt460.2, bt462.2))))
theorem laws_markThree.calls (k : Nat) (a0_0 : Int) (a0_1 : Int) (u9000_ : Value) (l0_2 : List (S76)) (u9001_ : Value) (l0_3 : List (S76)) (u9002_ : Value) (l0_4 : List Int) (a1 : Int) (r1 : Int) (r2 : List (S76)) (r3 : List (S76)) (r4 : List Int) (w0 w : World) (F : List SP)  (hM : Mem w0 F w [rowR k76 76 u9000_ l0_2, rowR k76 76 u9001_ l0_3, rowR (Kd.int .i64) 3 u9002_ l0_4]) (h : laws_markThree.f k a0_0 a0_1 l0_2 l0_3 l0_4 a1 = some (r1, r2, r3, r4)) :
  Calls Try.prog 9 #[.agg #[.int .i64 a0_0, .int .i64 a0_1, u9000_, u9001_, u9002_], .int .i64 a1] w fun e w' => e = .returned (.int .i64 r1) ∧ Mem w0 F w' [rowR k76 76 u9000_ r2, rowR k76 76 u9001_ r3, rowR (Kd.int .i64) 3 u9002_ r4] := by
 have hu25 := Try.underlying25
 have HM := hM
 clear hM
 have H := h
 clear h
 unfold laws_markThree.f at H
 go_enter Try.func9, Try.ntmps9
 replace H := BN H; obtain ⟨⟨t458, t459⟩, A8, H⟩ := H
 replace H := BN H; obtain ⟨⟨t460, t461⟩, A11, H⟩ := H
 replace H := BN H; obtain ⟨⟨t462, t463⟩, A14, H⟩ := H
 simp only [Option.some.injEq, Prod.mk.injEq] at H
 obtain ⟨rfl, rfl, rfl, rfl⟩ := H
 obtain ⟨Xo3, ko3, rfl⟩ := HM.rdR 0 rfl
 obtain ⟨Xo4, ko4, rfl⟩ := HM.rdR 1 rfl
 obtain ⟨Xo5, ko5, rfl⟩ := HM.rdR 2 rfl
 go_wp2_with (first | ((with_reducible refine gN 2 rfl ?_); refine pB 2 25 [.int .i64 a0_0, .int .i64 a0_1, .slice Xo3 l0_2.length ko3, .slice Xo4 l0_3.length ko4, .slice Xo5 l0_4.length ko5] HM rfl ?_; clear HM; intro gb457 w6 HM; obtain ⟨_,_,_,_,_,_,_,_,_,_⟩ := bk5 (HM.bx 3 rfl)) | ((with_reducible refine gC 32 rfl ?_); refine pC (some 8) rfl #[.slice Xo3 l0_2.length ko3, .int .i64 a1] rfl Try.func32 (laws_markItemS.calls k (.slice Xo3 l0_2.length ko3) l0_2 a1 t458 t459 _ _ _ (HM.focus [1, 2, 3] [0]) A8.out) ?_; rintro e w9 ⟨rfl, hR⟩; refine ⟨_, rfl, ?_⟩; replace HM := nzM hR.unfocus; clear hR; obtain ⟨_,_,_,_,_,_,_,_,_,_⟩ := bk5 (HM.bx 2 rfl)) | ((with_reducible refine gC 32 rfl ?_); refine pC (some 12) rfl #[.slice Xo4 l0_3.length ko4, .int .i64 t458] rfl Try.func32 (laws_markItemS.calls k (.slice Xo4 l0_3.length ko4) l0_3 t458 t460 t461 _ _ _ (HM.focus [1, 2, 3] [0]) A11.out) ?_; rintro e w12 ⟨rfl, hR⟩; refine ⟨_, rfl, ?_⟩; replace HM := nzM hR.unfocus; clear hR; obtain ⟨_,_,_,_,_,_,_,_,_,_⟩ := bk5 (HM.bx 1 rfl)) | ((with_reducible refine gC 33 rfl ?_); refine pC (some 16) rfl #[.slice Xo5 l0_4.length ko5, .int .i64 t460] rfl Try.func33 (laws_markIntS.calls k (.slice Xo5 l0_4.length ko5) l0_4 t460 t462 t463 _ _ _ (HM.focus [1, 2, 3] [0]) A14.out) ?_; rintro e w15 ⟨rfl, hR⟩; refine ⟨_, rfl, ?_⟩; replace HM := nzM hR.unfocus; clear hR))
 go_ret
 exact ⟨ER, (MD HM).pick [1, 2, 3]⟩
def laws_heldItemS.l0 : Nat → List (S76) → Int → Int → Option (Int)
 | 0, _, _, _ => none
 | k + 1, x0, x1, x5 => if x5 < (x0.length : Int) then (if 0 ≤ x5 then ((laws_markText.f k x1).bind fun t465 => (if ((rd_T76 x0 x5).f0).toList = t465.toList then ((laws_markText.f k (wrap64 (x1 + 1))).bind fun t467 => (if ((rd_T76 x0 x5).f1).toList = t467.toList then (if ((rd_T76 x0 x5).f2) = (wrap64 ((wrap64 (x1 + 1)) + 1)) then (laws_heldItemS.l0 k x0 (wrap64 ((wrap64 ((wrap64 (x1 + 1)) + 1)) + 1)) (wrap64 (x5 + 1))) else (none)) else (none))) else (none))) else (none)) else (some x1)
def laws_heldItemS.f (k : Nat) (l0 : List (S76)) (a1 : Int) : Option (Int) := laws_heldItemS.l0 k l0 a1 0
def laws_heldItemS.T4 : Bool × List (List Nat × List Nat) := (true, [([], []), ([], []), ([0, 1], [0, 1]), ([2], [2]), ([3], [3]), ([], []), ([5], [5]), ([4, 6], [4, 6])])
def laws_heldItemS.B4 : List Nat := [0, 0, 3, 7, 15, 0, 32, 127]
theorem laws_heldItemS.tab4 : rtab .any (opsOf Try.f34 4) = laws_heldItemS.T4 := by kernel_rfl
theorem laws_heldItemS.bits4 : waitsOk laws_heldItemS.T4.2 laws_heldItemS.B4 = true := by kernel_rfl
def laws_heldItemS.T7 : Bool × List (List Nat × List Nat) := (true, [([], []), ([], []), ([0, 1], [0, 1]), ([2], [2]), ([3], [3]), ([], []), ([5], [5]), ([4, 6], [4, 6])])
def laws_heldItemS.B7 : List Nat := [0, 0, 3, 7, 15, 0, 32, 127]
theorem laws_heldItemS.tab7 : rtab .any (opsOf Try.f34 7) = laws_heldItemS.T7 := by kernel_rfl
theorem laws_heldItemS.bits7 : waitsOk laws_heldItemS.T7.2 laws_heldItemS.B7 = true := by kernel_rfl
theorem laws_heldItemS.calls (k : Nat) (A0 : Option Addr) (c0 : Nat) (l0 : List (S76)) (a1 : Int) (r : Int) (w : World) (hr0 : Kd.C k76 w A0 l0.length l0) (hc0 : l0.length ≤ c0) (h : laws_heldItemS.f k l0 a1 = some r) :
  Calls Try.prog 34 #[.slice A0 l0.length c0, .int .i64 a1] w fun e w' => e = .returned (.int .i64 r) ∧ Mem w [] w' [] := by
 have HR0 := Aside0.mk hr0
 have HC0 := Aside0.mk hc0
 clear hr0 hc0
 have HM := Mem.nil w
 have H := h
 clear h
 unfold laws_heldItemS.f at H
 go_enter Try.func34, Try.ntmps34
 have H' := Aside0.mk H
 clear H
 go_wp2
 go_loopg [1, 5] k (fun kq v1 v5 w' => ∃ (x1_1 : Int) (x5_1 : Int), v1 = .int .i64 x1_1 ∧ v5 = .int .i64 x5_1 ∧ Aside0 (laws_heldItemS.l0 kq l0 x1_1 x5_1 = some r) ∧ Aside0 (kq ≤ k) ∧ Mem w [] w' [])
 case atStart => exact ⟨(a1), (0), RS, RS, H', ⟨Nat.le_refl _⟩, (MD HM).pick []⟩
 case round =>
  clear H' HM
  obtain ⟨x1_1, x5_1, rfl, rfl, HA, HK1, HM⟩ := hrel
  cases gk with
  | zero => exact absurd HA.out (by simp [laws_heldItemS.l0])
  | succ k1 =>
   have H := HA.out
   clear HA
   simp only [laws_heldItemS.l0] at H
   go_upto_if 9 with (fail)
   replace H := IT H; rcases H with ⟨c3, H⟩ | ⟨c3, H⟩
   ·have c3b0 := decide_eq_true c3
    clear c3
    first|rw [c3b0]|(simp only [i64_w, i32_w]; rw [c3b0])|skip
    try go_wp2
    replace H := GD H; obtain ⟨c4, H⟩ := H
    have c4b0 := decide_eq_true c4
    clear c4
    replace H := BN H; obtain ⟨t465, A5, H⟩ := H
    have p464 : 0 ≤ (x5_1 : Int) := of_decide_eq_true AS
    have q464 : (x5_1 : Int) < (l0.length : Int) := of_decide_eq_true AS
    obtain ⟨ad464, e464, hx464_0, hx464_1, hx464_2⟩ := at_T76 (HM.came HR0.out) x5_1 p464 q464
    cases e464
    replace p464 := eq_true p464
    replace q464 := eq_true q464
    refine RGN 8 [0, 1, 2, 3, 4, 5, 6, 7] (fun a0 b a w' => a = putSel a0 b [(0, 12, .slice (some ad464) l0.length c0), (1, 13, .int .i64 x5_1), (2, 14, .pointer (some (ad464.add ((x5_1).toNat * 3)))), (3, 15, .pointer (some (ad464.add ((x5_1).toNat * 3)))), (4, 16, .string ((rd_T76 l0 x5_1).f0)), (5, 17, .int .i64 x1_1), (6, 18, .string t465), (7, 19, .bool (((rd_T76 l0 x5_1).f0).toList != t465.toList))] ∧ Mem w [] w' []) laws_heldItemS.tab4 laws_heldItemS.bits4 ?_ ?_ ?_
    ·exact ⟨PS0' rfl _, (HM.drew).pick []⟩
    ·clear HM
     refine SY ?_ ?_
     ·intro b a w ha HM hb hon hoff K hK
      have e0 := PG ha 0
      exact VL (.slice (some ad464) l0.length c0) (hK.out _ _ ⟨PUT ha 0 hb, HM⟩)
     refine SY ?_ ?_
     ·intro b a w ha HM hb hon hoff K hK
      have e5 := PG ha 5
      exact VL (.int .i64 x5_1) (hK.out _ _ ⟨PUT ha 1 hb, HM⟩)
     refine SY ?_ ?_
     ·intro b a w ha HM hb hon hoff K hK
      have p464 : 0 ≤ (x5_1 : Int) := of_decide_eq_true AS
      have q464 : (x5_1 : Int) < (l0.length : Int) := of_decide_eq_true AS
      obtain ⟨ad464, e464, hx464_0, hx464_1, hx464_2⟩ := at_T76 (HM.came HR0.out) x5_1 p464 q464
      obtain rfl := Option.some.inj e464
      replace p464 := eq_true p464
      replace q464 := eq_true q464
      have e12 := PE ha 0 hon
      have e13 := PE ha 1 hon
      exact VL (.pointer (some (ad464.add ((x5_1).toNat * 3)))) (hK.out _ _ ⟨PUT ha 2 hb, HM⟩)
     refine SY ?_ ?_
     ·intro b a w ha HM hb hon hoff K hK
      have e14 := PE ha 2 hon
      exact VL (.pointer (some (ad464.add ((x5_1).toNat * 3)))) (hK.out _ _ ⟨PUT ha 3 hb, HM⟩)
     refine SY ?_ ?_
     ·intro b a w ha HM hb hon hoff K hK
      have p464 : 0 ≤ (x5_1 : Int) := of_decide_eq_true AS
      have q464 : (x5_1 : Int) < (l0.length : Int) := of_decide_eq_true AS
      obtain ⟨ad464, e464, hx464_0, hx464_1, hx464_2⟩ := at_T76 (HM.came HR0.out) x5_1 p464 q464
      obtain rfl := Option.some.inj e464
      replace p464 := eq_true p464
      replace q464 := eq_true q464
      have e15 := PE ha 3 hon
      exact VL (.string ((rd_T76 l0 x5_1).f0)) (hK.out _ _ ⟨PUT ha 4 hb, HM⟩)
     refine SY ?_ ?_
     ·intro b a w ha HM hb hon hoff K hK
      have e1 := PG ha 1
      exact VL (.int .i64 x1_1) (hK.out _ _ ⟨PUT ha 5 hb, HM⟩)
     refine SY ?_ ?_
     ·intro b a w ha HM hb hon hoff K hK
      have e17 := PE ha 5 hon
      refine ST (eC (some 18) rfl #[.int .i64 x1_1] rfl Try.func73 (laws_markText.calls k1 x1_1 t465 _ A5.out) ?_ (hargs := by (simp only [List.map_toArray, List.map_cons, List.map_nil, evc, eval_of e17]) <;> rfl))
      rintro e w7 ⟨rfl, hR⟩
      refine ⟨_, rfl, ?_⟩
      replace HM := HM.call hR
      clear hR
      exact hK.out _ _ ⟨PUT ha 6 hb, (HM).pick []⟩
     refine SY ?_ ?_
     ·intro b a w ha HM hb hon hoff K hK
      have e16 := PE ha 4 hon
      have e18 := PE ha 6 hon
      exact VL (.bool (((rd_T76 l0 x5_1).f0).toList != t465.toList)) (hK.out _ _ ⟨PUT ha 7 hb, HM⟩)
     exact steps_nil
    rintro _ w8 ⟨rfl, HM⟩
    simp only [putSel, if_true, Act.put, List.setIfInBounds_toArray, List.set_cons_zero, List.set_cons_succ, gt_iff_lt, ge_iff_le]
    replace H := GD H; obtain ⟨c9, H⟩ := H
    obtain ⟨c9b0, c9b1⟩ := BE c9
    clear c9
    (first | rw [c9b0] | rw [c9b1] | skip)
    try go_wp2
    replace H := BN H; obtain ⟨t467, A10, H⟩ := H
    have p466 : 0 ≤ (x5_1 : Int) := of_decide_eq_true AS
    have q466 : (x5_1 : Int) < (l0.length : Int) := of_decide_eq_true AS
    obtain ⟨ad466, e466, hx466_0, hx466_1, hx466_2⟩ := at_T76 (HM.came HR0.out) x5_1 p466 q466
    obtain rfl := Option.some.inj e466
    replace p466 := eq_true p466
    replace q466 := eq_true q466
    refine RGN 8 [0, 1, 2, 3, 4, 5, 6, 7] (fun a0 b a w' => a = putSel a0 b [(0, 22, .slice (some ad464) l0.length c0), (1, 23, .int .i64 x5_1), (2, 24, .pointer (some (ad464.add ((x5_1).toNat * 3)))), (3, 25, .pointer (some ⟨(ad464.add ((x5_1).toNat * 3)).block, (ad464.add ((x5_1).toNat * 3)).off + 1, none⟩)), (4, 26, .string ((rd_T76 l0 x5_1).f1)), (5, 27, .int .i64 (wrap64 (x1_1 + 1))), (6, 28, .string t467), (7, 29, .bool (((rd_T76 l0 x5_1).f1).toList != t467.toList))] ∧ Mem w [] w' []) laws_heldItemS.tab7 laws_heldItemS.bits7 ?_ ?_ ?_
    ·exact ⟨PS0' rfl _, (HM.drew).pick []⟩
    ·clear HM
     refine SY ?_ ?_
     ·intro b a w ha HM hb hon hoff K hK
      have e0 := PG ha 0
      exact VL (.slice (some ad464) l0.length c0) (hK.out _ _ ⟨PUT ha 0 hb, HM⟩)
     refine SY ?_ ?_
     ·intro b a w ha HM hb hon hoff K hK
      have e5 := PG ha 5
      exact VL (.int .i64 x5_1) (hK.out _ _ ⟨PUT ha 1 hb, HM⟩)
     refine SY ?_ ?_
     ·intro b a w ha HM hb hon hoff K hK
      have p466 : 0 ≤ (x5_1 : Int) := of_decide_eq_true AS
      have q466 : (x5_1 : Int) < (l0.length : Int) := of_decide_eq_true AS
      obtain ⟨ad466, e466, hx466_0, hx466_1, hx466_2⟩ := at_T76 (HM.came HR0.out) x5_1 p466 q466
      obtain rfl := Option.some.inj e466
      replace p466 := eq_true p466
      replace q466 := eq_true q466
      have e22 := PE ha 0 hon
      have e23 := PE ha 1 hon
      exact VL (.pointer (some (ad464.add ((x5_1).toNat * 3)))) (hK.out _ _ ⟨PUT ha 2 hb, HM⟩)
     refine SY ?_ ?_
     ·intro b a w ha HM hb hon hoff K hK
      have e24 := PE ha 2 hon
      exact VL (.pointer (some ⟨(ad464.add ((x5_1).toNat * 3)).block, (ad464.add ((x5_1).toNat * 3)).off + 1, none⟩)) (hK.out _ _ ⟨PUT ha 3 hb, HM⟩)
     refine SY ?_ ?_
     ·intro b a w ha HM hb hon hoff K hK
      have p466 : 0 ≤ (x5_1 : Int) := of_decide_eq_true AS
      have q466 : (x5_1 : Int) < (l0.length : Int) := of_decide_eq_true AS
      obtain ⟨ad466, e466, hx466_0, hx466_1, hx466_2⟩ := at_T76 (HM.came HR0.out) x5_1 p466 q466
      obtain rfl := Option.some.inj e466
      replace p466 := eq_true p466
      replace q466 := eq_true q466
      have e25 := PE ha 3 hon
      exact VL (.string ((rd_T76 l0 x5_1).f1)) (hK.out _ _ ⟨PUT ha 4 hb, HM⟩)
     refine SY ?_ ?_
     ·intro b a w ha HM hb hon hoff K hK
      have e1 := PG ha 1
      exact VL (.int .i64 (wrap64 (x1_1 + 1))) (hK.out _ _ ⟨PUT ha 5 hb, HM⟩)
     refine SY ?_ ?_
     ·intro b a w ha HM hb hon hoff K hK
      have e27 := PE ha 5 hon
      refine ST (eC (some 28) rfl #[.int .i64 (wrap64 (x1_1 + 1))] rfl Try.func73 (laws_markText.calls k1 (wrap64 (x1_1 + 1)) t467 _ A10.out) ?_ (hargs := by (simp only [List.map_toArray, List.map_cons, List.map_nil, evc, eval_of e27]) <;> rfl))
      rintro e w12 ⟨rfl, hR⟩
      refine ⟨_, rfl, ?_⟩
      replace HM := HM.call hR
      clear hR
      exact hK.out _ _ ⟨PUT ha 6 hb, (HM).pick []⟩
     refine SY ?_ ?_
     ·intro b a w ha HM hb hon hoff K hK
      have e26 := PE ha 4 hon
      have e28 := PE ha 6 hon
      exact VL (.bool (((rd_T76 l0 x5_1).f1).toList != t467.toList)) (hK.out _ _ ⟨PUT ha 7 hb, HM⟩)
     exact steps_nil
    rintro _ w13 ⟨rfl, HM⟩
    simp only [putSel, if_true, Act.put, List.setIfInBounds_toArray, List.set_cons_zero, List.set_cons_succ, gt_iff_lt, ge_iff_le]
    replace H := GD H; obtain ⟨c14, H⟩ := H
    obtain ⟨c14b0, c14b1⟩ := BE c14
    clear c14
    (first | rw [c14b0] | rw [c14b1] | skip)
    replace H := GD H; obtain ⟨c15, H⟩ := H
    obtain ⟨c15b0, c15b1⟩ := BE c15
    clear c15
    (first | rw [c15b0] | rw [c15b1] | skip)
    have H' := Aside0.mk H
    clear H
    have p468 : 0 ≤ (x5_1 : Int) := of_decide_eq_true AS
    have q468 : (x5_1 : Int) < (l0.length : Int) := of_decide_eq_true AS
    obtain ⟨ad468, e468, hx468_0, hx468_1, hx468_2⟩ := at_T76 (HM.came HR0.out) x5_1 p468 q468
    obtain rfl := Option.some.inj e468
    replace p468 := eq_true p468
    replace q468 := eq_true q468
    go_wp2
    go_roundg k1
    case measure => have := HK1.out; omega
    case rel => exact ⟨(wrap64 ((wrap64 ((wrap64 (x1_1 + 1)) + 1)) + 1)), (wrap64 (x5_1 + 1)), RS, RS, H', ⟨by have := HK1.out; omega⟩, (MD HM).pick []⟩
   ·have c3b0 := decide_eq_false c3
    clear c3
    first|rw [c3b0]|(simp only [i64_w, i32_w]; rw [c3b0])|skip
    obtain rfl := Option.some.inj H
    go_wp2
    go_ret
    exact ⟨ER, (MD HM).pick []⟩
end Go.Proofs.Ytnlnifpehndacaa.G

namespace Go.Proofs.Ytnlnifpehndacaa.G
open Go.RowKit Go.Proofs.YtnlnifpehndacaaW.PrintWords Go.Proofs.YtnlnifpehndacaaW.PrintLast Go.Proofs.YtnlnifpehndacaaW.PrintMore Go.Proofs.Ytnlnifpehndacaa.Sh
attribute [local go_sem] max2_int min2_int max_two min_two max_three min_three max_four min_four
set_option linter.unusedVariables false
set_option linter.unusedSimpArgs false
def laws_heldIntS.l0 : Nat → List Int → Int → Int → Option (Int)
 | 0, _, _, _ => none
 | k + 1, x0, x1, x5 => if x5 < (x0.length : Int) then (if 0 ≤ x5 then (if (rd x0 x5) = x1 then (laws_heldIntS.l0 k x0 (wrap64 (x1 + 1)) (wrap64 (x5 + 1))) else (none)) else (none)) else (some x1)
def laws_heldIntS.f (k : Nat) (l0 : List Int) (a1 : Int) : Option (Int) := laws_heldIntS.l0 k l0 a1 0
theorem laws_heldIntS.calls (k : Nat) (A0 : Option Addr) (c0 : Nat) (l0 : List Int) (a1 : Int) (r : Int) (w : World) (hr0 : Kd.C (Kd.int .i64) w A0 l0.length l0) (hc0 : l0.length ≤ c0) (h : laws_heldIntS.f k l0 a1 = some r) :
  Calls Try.prog 35 #[.slice A0 l0.length c0, .int .i64 a1] w fun e w' => e = .returned (.int .i64 r) ∧ Drawn0 w w' := by
 have HR0 := Aside0.mk hr0
 have HC0 := Aside0.mk hc0
 clear hr0 hc0
 have H : (laws_heldIntS.l0 k l0 a1 0) = some r := h
 clear h
 have H' := Aside0.mk H
 clear H
 go_enter Try.func35, Try.ntmps35
 go_wp2
 go_loopg [1, 5] k (fun kq v1 v5 w' => ∃ (x1_1 : Int) (x5_1 : Int), v1 = .int .i64 x1_1 ∧ v5 = .int .i64 x5_1 ∧ Aside0 (laws_heldIntS.l0 kq l0 x1_1 x5_1 = some r) ∧ Aside0 (kq ≤ k) ∧ Drawn0 w w')
 case atStart => exact ⟨(a1), (0), RS, RS, H', ⟨Nat.le_refl _⟩, DR⟩
 case round =>
  clear H'
  try clear p2
  obtain ⟨x1_1, x5_1, rfl, rfl, HA, HK1, ⟨m1, rfl⟩⟩ := hrel
  cases gk with
  | zero => exact absurd HA.out (by simp [laws_heldIntS.l0])
  | succ k1 =>
   have H := HA.out
   clear HA
   simp only [laws_heldIntS.l0] at H
   by_cases c3 : x5_1 < (l0.length : Int)
   ·rw [if_pos c3] at H
    have c3b0 : decide (x5_1 < (l0.length : Int)) = true := decide_eq_true c3
    clear c3
    by_cases c4 : 0 ≤ x5_1
    ·rw [if_pos c4] at H
     have c4b0 : decide (0 ≤ x5_1) = true := decide_eq_true c4
     clear c4
     by_cases c5 : (rd l0 x5_1) = x1_1
     ·rw [if_pos c5] at H
      have c5b0 : ((rd l0 x5_1) == x1_1) = true := beq_iff_eq.mpr c5
      have c5b1 : ((rd l0 x5_1) != x1_1) = false := bne_eq_false_iff_eq.mpr c5
      clear c5
      have H' := Aside0.mk H
      clear H
      have p470 : 0 ≤ (x5_1 : Int) := of_decide_eq_true AS
      have q470 : x5_1 < (l0.length : Int) := of_decide_eq_true AS
      obtain ⟨ad470, e470, hx470_0⟩ := Kd.at_int HR0.out x5_1 p470 q470
      cases e470
      replace p470 := eq_true p470
      replace q470 := eq_true q470
      go_wp2
      go_roundg k1
      case measure => have := HK1.out; omega
      case rel => exact ⟨(wrap64 (x1_1 + 1)), (wrap64 (x5_1 + 1)), RS, RS, H', ⟨by have := HK1.out; omega⟩, DR⟩
     ·rw [if_neg c5] at H
      exact absurd H (by simp)
    ·rw [if_neg c4] at H
     exact absurd H (by simp)
   ·rw [if_neg c3] at H
    have c3b0 : decide (x5_1 < (l0.length : Int)) = false := decide_eq_false c3
    clear c3
    obtain rfl := Option.some.inj H
    go_wp2
    go_ret
    exact ⟨by first | rfl | (simp; done) | (simp [*]; done), DR⟩
end Go.Proofs.Ytnlnifpehndacaa.G

namespace Go.Proofs.Ytnlnifpehndacaa.G
open Go.RowKit Go.Proofs.YtnlnifpehndacaaW.PrintWords Go.Proofs.YtnlnifpehndacaaW.PrintLast Go.Proofs.YtnlnifpehndacaaW.PrintMore Go.Proofs.Ytnlnifpehndacaa.Sh
attribute [local go_sem] max2_int min2_int max_two min_two max_three min_three max_four min_four
set_option linter.unusedVariables false
set_option linter.unusedSimpArgs false
open Go.Proofs.Ytnlnifpehndacaa.Mm
def laws_heldThree.f (k : Nat) (a0_0 : Int) (a0_1 : Int) (l0_2 : List (S76)) (l0_3 : List (S76)) (l0_4 : List Int) (a1 : Int) : Option (Int) := (laws_heldItemS.f k l0_2 a1).bind fun t472 => (if t472 < 0 then (none) else ((laws_heldItemS.f k l0_3 t472).bind fun t473 => (if t473 < 0 then (none) else ((laws_heldIntS.f k l0_4 t473).bind fun t474 => (if t474 < 0 then (none) else (some t474))))))
theorem laws_heldThree.calls (k : Nat) (a0_0 : Int) (a0_1 : Int) (A0_2 : Option Addr) (c0_2 : Nat) (l0_2 : List (S76)) (A0_3 : Option Addr) (c0_3 : Nat) (l0_3 : List (S76)) (A0_4 : Option Addr) (c0_4 : Nat) (l0_4 : List Int) (a1 : Int) (r : Int) (w : World) (hr0_2 : Kd.C k76 w A0_2 l0_2.length l0_2) (hc0_2 : l0_2.length ≤ c0_2) (hr0_3 : Kd.C k76 w A0_3 l0_3.length l0_3) (hc0_3 : l0_3.length ≤ c0_3) (hr0_4 : Kd.C (Kd.int .i64) w A0_4 l0_4.length l0_4) (hc0_4 : l0_4.length ≤ c0_4) (h : laws_heldThree.f k a0_0 a0_1 l0_2 l0_3 l0_4 a1 = some r) :
  Calls Try.prog 10 #[.agg #[.int .i64 a0_0, .int .i64 a0_1, .slice A0_2 l0_2.length c0_2, .slice A0_3 l0_3.length c0_3, .slice A0_4 l0_4.length c0_4], .int .i64 a1] w fun e w' => e = .returned (.int .i64 r) ∧ Mem w [] w' [] := by
 have hu25 := Try.underlying25
 have HR0_2 := Aside0.mk hr0_2
 have HC0_2 := Aside0.mk hc0_2
 clear hr0_2 hc0_2
 have HR0_3 := Aside0.mk hr0_3
 have HC0_3 := Aside0.mk hc0_3
 clear hr0_3 hc0_3
 have HR0_4 := Aside0.mk hr0_4
 have HC0_4 := Aside0.mk hc0_4
 clear hr0_4 hc0_4
 have HM := Mem.nil w
 have H := h
 clear h
 unfold laws_heldThree.f at H
 go_enter Try.func10, Try.ntmps10
 replace H := BN H; obtain ⟨t472, A5, H⟩ := H
 replace H := GN H; obtain ⟨c7, H⟩ := H
 have c7b0 := decide_eq_false c7
 clear c7
 replace H := BN H; obtain ⟨t473, A9, H⟩ := H
 replace H := GN H; obtain ⟨c11, H⟩ := H
 have c11b0 := decide_eq_false c11
 clear c11
 replace H := BN H; obtain ⟨t474, A13, H⟩ := H
 replace H := GN H; obtain ⟨c15, H⟩ := H
 have c15b0 := decide_eq_false c15
 clear c15
 obtain rfl := Option.some.inj H
 go_wp2_with (first | ((with_reducible refine gN 2 rfl ?_); refine pB 2 25 [.int .i64 a0_0, .int .i64 a0_1, .slice A0_2 l0_2.length c0_2, .slice A0_3 l0_3.length c0_3, .slice A0_4 l0_4.length c0_4] HM rfl ?_; clear HM; intro gb471 w3 HM; obtain ⟨_,_,_,_,_,_,_,_,_,_⟩ := bk5 (HM.bx 0 rfl)) | ((with_reducible refine gC 34 rfl ?_); refine pC (some 8) rfl #[.slice A0_2 l0_2.length c0_2, .int .i64 a1] rfl Try.func34 (laws_heldItemS.calls k _ _ l0_2 a1 t472 _ (HM.came HR0_2.out) HC0_2.out A5.out) ?_; rintro e w6 ⟨rfl, hR⟩; refine ⟨_, rfl, ?_⟩; replace HM := HM.call hR; clear hR; obtain ⟨_,_,_,_,_,_,_,_,_,_⟩ := bk5 (HM.bx 0 rfl)) | ((with_reducible refine gC 34 rfl ?_); refine pC (some 14) rfl #[.slice A0_3 l0_3.length c0_3, .int .i64 t472] rfl Try.func34 (laws_heldItemS.calls k _ _ l0_3 t472 t473 _ (HM.came HR0_3.out) HC0_3.out A9.out) ?_; rintro e w10 ⟨rfl, hR⟩; refine ⟨_, rfl, ?_⟩; replace HM := HM.call hR; clear hR; obtain ⟨_,_,_,_,_,_,_,_,_,_⟩ := bk5 (HM.bx 0 rfl)) | ((with_reducible refine gC 35 rfl ?_); refine pC (some 20) rfl #[.slice A0_4 l0_4.length c0_4, .int .i64 t473] rfl Try.func35 (laws_heldIntS.calls k _ _ l0_4 t473 t474 _ (HM.came HR0_4.out) HC0_4.out A13.out) ?_; rintro e w14 ⟨rfl, hd⟩; refine ⟨_, rfl, ?_⟩; replace HM := HM.drawn hd; clear hd))
 go_ret
 exact ⟨ER, (MD HM).pick []⟩
def laws_szItem.f (a0_0 : ByteArray) (a0_1 : ByteArray) (a0_2 : Int) (a1 : Int) : Option (Int) := if (wrap64 (a1 - (a0_0.size : Int))) < 0 then (some (-1)) else (if (wrap64 ((wrap64 (a1 - (a0_0.size : Int))) - (a0_1.size : Int))) < 0 then (some (-1)) else (some (wrap64 ((wrap64 (a1 - (a0_0.size : Int))) - (a0_1.size : Int)))))
theorem laws_szItem.calls (a0_0 : ByteArray) (a0_1 : ByteArray) (a0_2 : Int) (a1 : Int) (r : Int) (w : World)  (h : laws_szItem.f a0_0 a0_1 a0_2 a1 = some r) :
  Calls Try.prog 85 #[.agg #[.string a0_0, .string a0_1, .int .i64 a0_2], .int .i64 a1] w fun e w' => e = .returned (.int .i64 r) ∧ Mem w [] w' [] := by
 have hu99 := Try.underlying99
 have HM := Mem.nil w
 have H := h
 clear h
 unfold laws_szItem.f at H
 go_enter Try.func85, Try.ntmps85
 go_upto_if 11 with (first | ((with_reducible refine gN 2 rfl ?_); refine pB 2 99 [.string a0_0, .string a0_1, .int .i64 a0_2] HM rfl ?_; clear HM; intro gb725 w3 HM; obtain ⟨_,_,_,_,_,_⟩ := bk3 (HM.bx 0 rfl)))
 replace H := IT H; rcases H with ⟨c5, H⟩ | ⟨c5, H⟩
 ·have c5b0 := decide_eq_true c5
  clear c5
  first|rw [c5b0]|(simp only [i64_w, i32_w]; rw [c5b0])|skip
  obtain rfl := Option.some.inj H
  go_wp2
  go_ret
  exact ⟨ER, (MD HM).pick []⟩
 ·have c5b0 := decide_eq_false c5
  clear c5
  first|rw [c5b0]|(simp only [i64_w, i32_w]; rw [c5b0])|skip
  go_upto_if 18 with (fail)
  replace H := IT H; rcases H with ⟨c6, H⟩ | ⟨c6, H⟩
  ·have c6b0 := decide_eq_true c6
   clear c6
   first|rw [c6b0]|(simp only [i64_w, i32_w]; rw [c6b0])|skip
   obtain rfl := Option.some.inj H
   go_wp2
   go_ret
   exact ⟨ER, (MD HM).pick []⟩
  ·have c6b0 := decide_eq_false c6
   clear c6
   first|rw [c6b0]|(simp only [i64_w, i32_w]; rw [c6b0])|skip
   obtain rfl := Option.some.inj H
   go_wp2
   go_ret
   exact ⟨ER, (MD HM).pick []⟩
end Go.Proofs.Ytnlnifpehndacaa.G
