/- Part 3 of the claim FnSave, merged by pack.py (this session's program) out of: the print's words, cut to what is needed; texts that gen.py printed (it runs the kit's print in place); texts of this session. -/
import Derived.RegionTactic
import Derived.Shelf.RegionOpenPlain
import Derived.Test.YtnlnifpehndacaaGreatKFnSave1
namespace Go.Proofs.YtnlnifpehndacaaGreat.CutL
end Go.Proofs.YtnlnifpehndacaaGreat.CutL
namespace Go.Proofs.YtnlnifpehndacaaGreat.Man
end Go.Proofs.YtnlnifpehndacaaGreat.Man
namespace Go.Proofs.YtnlnifpehndacaaGreat.Mm
end Go.Proofs.YtnlnifpehndacaaGreat.Mm
namespace Go.Proofs.YtnlnifpehndacaaGreat.Sh
end Go.Proofs.YtnlnifpehndacaaGreat.Sh
set_option maxHeartbeats 8000000
set_option maxRecDepth 100000
namespace Go.Proofs.YtnlnifpehndacaaGreat.G
open Go.RowKit Go.Proofs.YtnlnifpehndacaaGreatW.PrintWords Go.Proofs.YtnlnifpehndacaaGreatW.PrintLast Go.Proofs.YtnlnifpehndacaaGreatW.PrintMore Go.Proofs.YtnlnifpehndacaaGreat.Sh
attribute [local go_sem] max2_int min2_int max_two min_two max_three min_three max_four min_four
set_option linter.unusedVariables false
set_option linter.unusedSimpArgs false
def impl_within.f (a0 : Int) (a1 : Int) (a2 : Int) : Option (Bool) := if a0 ≥ a1 then (some (decide (a0 ≤ a2))) else (some false)
theorem impl_within.calls (a0 : Int) (a1 : Int) (a2 : Int) (r : Bool) (w : World) (h : impl_within.f a0 a1 a2 = some r) :
  Calls Tryz.prog 24 #[.int .i64 a0, .int .i64 a1, .int .i64 a2] w fun e w' => e = .returned (.bool r) ∧ Drawn0 w w' := by
 have H : (if a0 ≥ a1 then (some (decide (a0 ≤ a2))) else (some false)) = some r := h
 clear h
 by_cases c4 : a0 ≥ a1
 ·rw [if_pos c4] at H
  have c4b0 : decide (a1 ≤ a0) = true := decide_eq_true c4
  clear c4
  obtain rfl := Option.some.inj H
  go_enter Tryz.func24, Tryz.ntmps24
  go_wp2
  go_ret
  exact ⟨by first | rfl | (simp; done) | (simp [*]; done), DR⟩
 ·rw [if_neg c4] at H
  have c4b0 : decide (a1 ≤ a0) = false := decide_eq_false c4
  clear c4
  obtain rfl := Option.some.inj H
  go_enter Tryz.func24, Tryz.ntmps24
  go_wp2
  go_ret
  exact ⟨by first | rfl | (simp; done) | (simp [*]; done), DR⟩
end Go.Proofs.YtnlnifpehndacaaGreat.G

namespace Go.Proofs.YtnlnifpehndacaaGreat.G
open Go.RowKit Go.Proofs.YtnlnifpehndacaaGreatW.PrintWords Go.Proofs.YtnlnifpehndacaaGreatW.PrintLast Go.Proofs.YtnlnifpehndacaaGreatW.PrintMore Go.Proofs.YtnlnifpehndacaaGreat.Sh
attribute [local go_sem] max2_int min2_int max_two min_two max_three min_three max_four min_four
set_option linter.unusedVariables false
set_option linter.unusedSimpArgs false
open Go.Proofs.YtnlnifpehndacaaGreat.Man
def impl_Three_ghosts.f (a0 : Int) (a1 : Int) : Option Int := some (max 1 (wrap64 (a0 - a1)))
set_option maxHeartbeats 2000000 in
set_option maxRecDepth 100000 in
theorem impl_Three_ghosts.calls (g : Nat) (a0 : Int) (a1 : Int) (x2 x3 x4 : Value) (r : Int) (w : World) (hb : w.heap[g]? = some (.cells #[.int .i64 a0, .int .i64 a1, x2, x3, x4] 26 (0, 0))) (h : impl_Three_ghosts.f a0 a1 = some r) :
  Calls Tryz.prog 25 #[.pointer (some ⟨g, 0, none⟩)] w fun e w' => e = .returned (.int .i64 r) ∧ ∃ nd, w' = w.drewN nd := by
 unfold impl_Three_ghosts.f at h
 obtain rfl := Option.some.inj h
 clear h
 have hu45 := Tryz.underlying26
 have c0 : w.cell? ⟨g, 0, none⟩ = some (.int .i64 a0) := blk_cell hb 0
 have c1 : w.cell? ⟨g, 1, none⟩ = some (.int .i64 a1) := blk_cell hb 1
 have c2 : w.drew.cell? ⟨g, 0, none⟩ = some (.int .i64 a0) := blk_cell (blk_drew hb) 0
 have c3 : w.drew.cell? ⟨g, 1, none⟩ = some (.int .i64 a1) := blk_cell (blk_drew hb) 1
 have mixed : Tryz.prog.follows .mixedOrders = true := by kernel_rfl
 clear hb
 go_enter Tryz.func25, Tryz.ntmps25
 go_wp2
 go_region_o
 go_wp2
 ·go_ret
  exact ⟨by rw [show max 1 (wrap64 (a0 - a1)) = wrap64 (a0 - a1) by omega]; rfl, 1, rfl⟩
 ·go_ret
  exact ⟨by rw [show max 1 (wrap64 (a0 - a1)) = 1 by omega]; rfl, 1, rfl⟩
end Go.Proofs.YtnlnifpehndacaaGreat.G

namespace Go.Proofs.YtnlnifpehndacaaGreat.G
open Go.RowKit Go.Proofs.YtnlnifpehndacaaGreatW.PrintWords Go.Proofs.YtnlnifpehndacaaGreatW.PrintLast Go.Proofs.YtnlnifpehndacaaGreatW.PrintMore Go.Proofs.YtnlnifpehndacaaGreat.Sh
attribute [local go_sem] max2_int min2_int max_two min_two max_three min_three max_four min_four
set_option linter.unusedVariables false
set_option linter.unusedSimpArgs false
def impl_isNum.f (a0 : Int) : Option (Bool) := (impl_within.f a0 0 4294967295).bind fun t592 => (some t592)
theorem impl_isNum.calls (a0 : Int) (r : Bool) (w : World) (h : impl_isNum.f a0 = some r) :
  Calls Tryz.prog 26 #[.int .i64 a0] w fun e w' => e = .returned (.bool r) ∧ Drawn0 w w' := by
 have H : ((impl_within.f a0 0 4294967295).bind fun t592 => (some t592)) = some r := h
 clear h
 replace H := BS H
 obtain ⟨t592, A20, H⟩ := H
 have A2 := Aside0.mk A20
 clear A20
 obtain rfl := Option.some.inj H
 go_enter Tryz.func26, Tryz.ntmps26
 go_wp2_with (first | ((with_reducible refine gate_callee (f := 24) rfl ?_); refine goesL_ (some 4) rfl rfl Tryz.func24 (by kernel_rfl) rfl #[.int .i64 a0, .int .i64 0, .int .i64 4294967295] rfl AQ ?_; (with_reducible refine (impl_within.calls a0 0 4294967295 t592 _ A2.out).mono ?_); rintro e w' ⟨rfl, ⟨nd, rfl⟩⟩; refine ⟨_, rfl, ?_⟩))
 go_ret
 exact ⟨by first | rfl | (simp; done) | (simp [*]; done), DR⟩
def slices_Index_int_int.l0 : Nat → List Int → Int → Int → Int → Option (Int)
 | 0, _, _, _, _ => none
 | k + 1, x0, x1, x7, x8 => if x8 < x7 then (if 0 ≤ x8 then (if x8 < (x0.length : Int) then (if x1 = (rd x0 x8) then (some x8) else (slices_Index_int_int.l0 k x0 x1 x7 (wrap64 (x8 + 1)))) else (none)) else (none)) else (some (-1))
def slices_Index_int_int.f (k : Nat) (l0 : List Int) (a1 : Int) : Option (Int) := slices_Index_int_int.l0 k l0 a1 (l0.length : Int) 0
theorem slices_Index_int_int.mono_l : ∀ k, (∀ y0 y1 y2 y3, LeO (slices_Index_int_int.l0 k y0 y1 y2 y3) (slices_Index_int_int.l0 (k + 1) y0 y1 y2 y3))
 | 0 => fun _ _ _ _ r h => by simp [slices_Index_int_int.l0] at h
 | k + 1 => by
  have ih0 := slices_Index_int_int.mono_l k
  ·intro y0 y1 y2 y3
   unfold slices_Index_int_int.l0
   repeat' first | (with_reducible first | exact ih0 _ _ _ _ | exact LeO.refl _ | exact LeO.none _ | refine LeO.ite ?_ ?_ | refine LeO.bind ?_ (fun _ => ?_)) | exact LeO.none _ | refine LeO.ite ?_ ?_ | refine LeO.bind ?_ (fun _ => ?_)
theorem slices_Index_int_int.mono : ∀ a0 a1 k, LeO (slices_Index_int_int.f k a0 a1) (slices_Index_int_int.f (k + 1) a0 a1) := by
 intro a0 a1 k
 have ih0 := slices_Index_int_int.mono_l k
 unfold slices_Index_int_int.f
 repeat' first | (with_reducible first | exact ih0 _ _ _ _ | exact LeO.refl _ | exact LeO.none _ | refine LeO.ite ?_ ?_ | refine LeO.bind ?_ (fun _ => ?_)) | exact LeO.none _ | refine LeO.ite ?_ ?_ | refine LeO.bind ?_ (fun _ => ?_)
theorem slices_Index_int_int.calls (k : Nat) (A0 : Option Addr) (c0 : Nat) (l0 : List Int) (a1 : Int) (r : Int) (w : World) (hr0 : Kd.C (Kd.int .i64) w A0 l0.length l0) (hc0 : l0.length ≤ c0) (h : slices_Index_int_int.f k l0 a1 = some r) :
  Calls Tryz.prog 43 #[.slice A0 l0.length c0, .int .i64 a1] w fun e w' => e = .returned (.int .i64 r) ∧ Drawn0 w w' := by
 have HR0 := Aside0.mk hr0
 have HC0 := Aside0.mk hc0
 clear hr0 hc0
 have H : (slices_Index_int_int.l0 k l0 a1 (l0.length : Int) 0) = some r := h
 clear h
 have H' := Aside0.mk H
 clear H
 go_enter Tryz.func43, Tryz.ntmps43
 go_wp2
 go_loopg [8] k (fun kq v8 w' => ∃ (x8_1 : Int), v8 = .int .i64 x8_1 ∧ Aside0 (slices_Index_int_int.l0 kq l0 a1 (l0.length : Int) x8_1 = some r) ∧ Aside0 (kq ≤ k) ∧ Drawn0 w w')
 case atStart => exact ⟨(0), RS, H', ⟨Nat.le_refl _⟩, DR⟩
 case round =>
  clear H'
  try clear p2
  obtain ⟨x8_1, rfl, HA, HK1, ⟨m1, rfl⟩⟩ := hrel
  cases gk with
  | zero => exact absurd HA.out (by simp [slices_Index_int_int.l0])
  | succ k1 =>
   have H := HA.out
   clear HA
   simp only [slices_Index_int_int.l0] at H
   by_cases c3 : x8_1 < (l0.length : Int)
   ·rw [if_pos c3] at H
    have c3b0 : decide (x8_1 < (l0.length : Int)) = true := decide_eq_true c3
    clear c3
    by_cases c4 : 0 ≤ x8_1
    ·rw [if_pos c4] at H
     have c4b0 : decide (0 ≤ x8_1) = true := decide_eq_true c4
     clear c4
     by_cases c5 : x8_1 < (l0.length : Int)
     ·rw [if_pos c5] at H
      have c5b0 : decide (x8_1 < (l0.length : Int)) = true := decide_eq_true c5
      clear c5
      by_cases c6 : a1 = (rd l0 x8_1)
      ·rw [if_pos c6] at H
       have c6b0 : (a1 == (rd l0 x8_1)) = true := beq_iff_eq.mpr c6
       have c6b1 : (a1 != (rd l0 x8_1)) = false := bne_eq_false_iff_eq.mpr c6
       clear c6
       obtain rfl := Option.some.inj H
       have p594 : 0 ≤ (x8_1 : Int) := of_decide_eq_true AS
       have q594 : x8_1 < (l0.length : Int) := of_decide_eq_true AS
       obtain ⟨ad594, e594, hx594_0⟩ := Kd.at_int HR0.out x8_1 p594 q594
       cases e594
       replace p594 := eq_true p594
       replace q594 := eq_true q594
       go_wp2
       go_ret
       exact ⟨by first | rfl | (simp; done) | (simp [*]; done), DR⟩
      ·rw [if_neg c6] at H
       have c6b0 : (a1 == (rd l0 x8_1)) = false := beq_eq_false_iff_ne.mpr c6
       have c6b1 : (a1 != (rd l0 x8_1)) = true := bne_iff_ne.mpr c6
       have H' := Aside0.mk H
       clear H
       have p594 : 0 ≤ (x8_1 : Int) := of_decide_eq_true AS
       have q594 : x8_1 < (l0.length : Int) := of_decide_eq_true AS
       obtain ⟨ad594, e594, hx594_0⟩ := Kd.at_int HR0.out x8_1 p594 q594
       cases e594
       replace p594 := eq_true p594
       replace q594 := eq_true q594
       go_wp2
       go_roundg k1
       case measure => have := HK1.out; omega
       case rel => exact ⟨(wrap64 (x8_1 + 1)), RS, H', ⟨by have := HK1.out; omega⟩, DR⟩
     ·rw [if_neg c5] at H
      exact absurd H (by simp)
    ·rw [if_neg c4] at H
     exact absurd H (by simp)
   ·rw [if_neg c3] at H
    have c3b0 : decide (x8_1 < (l0.length : Int)) = false := decide_eq_false c3
    clear c3
    obtain rfl := Option.some.inj H
    go_wp2
    go_ret
    exact ⟨by first | rfl | (simp; done) | (simp [*]; done), DR⟩
def slices_Contains_int_int.f (k : Nat) (l0 : List Int) (a1 : Int) : Option (Bool) := (slices_Index_int_int.f k l0 a1).bind fun t596 => (some (decide (t596 ≥ 0)))
theorem slices_Contains_int_int.mono : ∀ a0 a1 k, LeO (slices_Contains_int_int.f k a0 a1) (slices_Contains_int_int.f (k + 1) a0 a1) := by
 intro a0 a1 k
 unfold slices_Contains_int_int.f
 repeat' first | (with_reducible first | exact slices_Index_int_int.mono _ _ _ | exact LeO.refl _ | exact LeO.none _ | refine LeO.ite ?_ ?_ | refine LeO.bind ?_ (fun _ => ?_)) | exact LeO.none _ | refine LeO.ite ?_ ?_ | refine LeO.bind ?_ (fun _ => ?_)
theorem slices_Contains_int_int.calls (k : Nat) (A0 : Option Addr) (c0 : Nat) (l0 : List Int) (a1 : Int) (r : Bool) (w : World) (hr0 : Kd.C (Kd.int .i64) w A0 l0.length l0) (hc0 : l0.length ≤ c0) (h : slices_Contains_int_int.f k l0 a1 = some r) :
  Calls Tryz.prog 27 #[.slice A0 l0.length c0, .int .i64 a1] w fun e w' => e = .returned (.bool r) ∧ Drawn0 w w' := by
 have HR0 := Aside0.mk hr0
 have HC0 := Aside0.mk hc0
 clear hr0 hc0
 have H : ((slices_Index_int_int.f k l0 a1).bind fun t596 => (some (decide (t596 ≥ 0)))) = some r := h
 clear h
 replace H := BS H
 obtain ⟨t596, A30, H⟩ := H
 have A3 := Aside0.mk A30
 clear A30
 obtain rfl := Option.some.inj H
 go_enter Tryz.func27, Tryz.ntmps27
 go_wp2_with (first | ((with_reducible refine gate_callee (f := 43) rfl ?_); refine goesL_ (some 7) rfl rfl Tryz.func43 (by kernel_rfl) rfl #[.slice A0 l0.length c0, .int .i64 a1] rfl AQ ?_; (with_reducible refine (slices_Index_int_int.calls k _ _ l0 a1 t596 _ ?side1 ?side2 A3.out).mono ?_); (case side1 => repeat (first | exact HR0.out | (with_reducible refine Kd.C_alloc ?_ _) | (with_reducible refine Kd.C_drewN ?_ _) | (with_reducible refine Kd.C_drew ?_))); (case side2 => exact HC0.out); rintro e w' ⟨rfl, ⟨nd, rfl⟩⟩; refine ⟨_, rfl, ?_⟩))
 go_ret
 exact ⟨by first | rfl | (simp; done) | (simp [*]; done), DR⟩
end Go.Proofs.YtnlnifpehndacaaGreat.G

namespace Go.Proofs.YtnlnifpehndacaaGreat.G
open Go.RowKit Go.Proofs.YtnlnifpehndacaaGreatW.PrintWords Go.Proofs.YtnlnifpehndacaaGreatW.PrintLast Go.Proofs.YtnlnifpehndacaaGreatW.PrintMore Go.Proofs.YtnlnifpehndacaaGreat.Sh
attribute [local go_sem] max2_int min2_int max_two min_two max_three min_three max_four min_four
set_option linter.unusedVariables false
set_option linter.unusedSimpArgs false
open Go.Proofs.YtnlnifpehndacaaGreat.Mm
def impl_copyItems.f (l0 : List (S60)) : Option ((List (S60))) := if ([] : List (S60)).length + l0.length < 3518437208883 then (some (([] : List (S60)) ++ l0)) else (none)
theorem impl_copyItems.calls (A0 : Option Addr) (c0 : Nat) (l0 : List (S60)) (r : List (S60)) (w : World) (hr0 : Kd.C k60 w A0 l0.length l0) (hc0 : l0.length ≤ c0) (h : impl_copyItems.f l0 = some r) :
  Calls Tryz.prog 28 #[.slice A0 l0.length c0] w fun e w' => ∃ v0_ : Value, e = .returned (v0_) ∧ Mem w [] w' [rowR k60 60 v0_ r] := by
 have HR0 := Aside0.mk hr0
 have HC0 := Aside0.mk hc0
 clear hr0 hc0
 have HM := Mem.nil w
 have H := h
 clear h
 unfold impl_copyItems.f at H
 go_enter Tryz.func28, Tryz.ntmps28
 replace H := GD H; obtain ⟨c2, H⟩ := H
 have LMc2 := Aside0.mk c2
 clear c2
 obtain rfl := Option.some.inj H
 go_wp2_with (first | ((with_reducible refine gate_builtin (b := .append) (xs := #[.const (.slice none 0 0), .tmp 3]) rfl ?_); refine pAn (.const (.slice none 0 0)) (.tmp 3) 23 60 k60 l0 A0 l0.length c0 HM rfl Tryz.underlying23 info60 (HM.came HR0.out) (by have h_ := LMc2.out; omega) ?_; clear HM; intro v598 w3 HM))
 go_ret
 exact ⟨_, ER, (MD HM).pick [0]⟩
end Go.Proofs.YtnlnifpehndacaaGreat.G

namespace Go.Proofs.YtnlnifpehndacaaGreat.G
open Go.RowKit Go.Proofs.YtnlnifpehndacaaGreatW.PrintWords Go.Proofs.YtnlnifpehndacaaGreatW.PrintLast Go.Proofs.YtnlnifpehndacaaGreatW.PrintMore Go.Proofs.YtnlnifpehndacaaGreat.Sh
attribute [local go_sem] max2_int min2_int max_two min_two max_three min_three max_four min_four
set_option linter.unusedVariables false
set_option linter.unusedSimpArgs false
def impl_isPlain.l0 : Nat → ByteArray → Int → Option (Bool)
 | 0, _, _ => none
 | k + 1, x0, x3 => if x3 < (x0.size : Int) then (if 0 ≤ x3 then (if (bt x0 x3) = 32 then (some false) else (if (bt x0 x3) = 10 then (some false) else (impl_isPlain.l0 k x0 (wrap64 (x3 + 1))))) else (none)) else (some true)
def impl_isPlain.f (k : Nat) (a0 : ByteArray) : Option (Bool) := impl_isPlain.l0 k a0 0
theorem impl_isPlain.calls (k : Nat) (a0 : ByteArray) (r : Bool) (w : World) (h : impl_isPlain.f k a0 = some r) :
  Calls Tryz.prog 64 #[.string a0] w fun e w' => e = .returned (.bool r) ∧ Drawn0 w w' := by
 have H : (impl_isPlain.l0 k a0 0) = some r := h
 clear h
 have H' := Aside0.mk H
 clear H
 go_enter Tryz.func64, Tryz.ntmps64
 go_wp2
 go_loopg [3] k (fun kq v3 w' => ∃ (x3_1 : Int), v3 = .int .i64 x3_1 ∧ Aside0 (impl_isPlain.l0 kq a0 x3_1 = some r) ∧ Aside0 (kq ≤ k) ∧ Drawn0 w w')
 case atStart => exact ⟨(0), RS, H', ⟨Nat.le_refl _⟩, DR⟩
 case round =>
  clear H'
  obtain ⟨x3_1, rfl, HA, HK1, ⟨m1, rfl⟩⟩ := hrel
  cases gk with
  | zero => exact absurd HA.out (by simp [impl_isPlain.l0])
  | succ k1 =>
   have H := HA.out
   clear HA
   simp only [impl_isPlain.l0] at H
   by_cases c2 : x3_1 < (a0.size : Int)
   ·rw [if_pos c2] at H
    have c2b0 : decide (x3_1 < (a0.size : Int)) = true := decide_eq_true c2
    clear c2
    by_cases c3 : 0 ≤ x3_1
    ·rw [if_pos c3] at H
     have c3b0 : decide (0 ≤ x3_1) = true := decide_eq_true c3
     clear c3
     by_cases c5 : (bt a0 x3_1) = 32
     ·rw [if_pos c5] at H
      have c5b0 : ((bt a0 x3_1) == 32) = true := beq_iff_eq.mpr c5
      have c5b1 : ((bt a0 x3_1) != 32) = false := bne_eq_false_iff_eq.mpr c5
      clear c5
      obtain rfl := Option.some.inj H
      have p4 : 0 ≤ (x3_1 : Int) := of_decide_eq_true AS
      have q4 : x3_1 < (a0.size : Int) := of_decide_eq_true AS
      have hx4 := bt_at a0 x3_1
      replace p4 := eq_true p4
      replace q4 := eq_true q4
      go_wp2
      go_ret
      exact ⟨by first | rfl | (simp; done) | (simp [*]; done), DR⟩
     ·rw [if_neg c5] at H
      have c5b0 : ((bt a0 x3_1) == 32) = false := beq_eq_false_iff_ne.mpr c5
      have c5b1 : ((bt a0 x3_1) != 32) = true := bne_iff_ne.mpr c5
      by_cases c7 : (bt a0 x3_1) = 10
      ·rw [if_pos c7] at H
       have c7b0 : ((bt a0 x3_1) == 10) = true := beq_iff_eq.mpr c7
       have c7b1 : ((bt a0 x3_1) != 10) = false := bne_eq_false_iff_eq.mpr c7
       clear c7
       obtain rfl := Option.some.inj H
       have p4 : 0 ≤ (x3_1 : Int) := of_decide_eq_true AS
       have q4 : x3_1 < (a0.size : Int) := of_decide_eq_true AS
       have hx4 := bt_at a0 x3_1
       replace p4 := eq_true p4
       replace q4 := eq_true q4
       have p6 : 0 ≤ (x3_1 : Int) := of_decide_eq_true AS
       have q6 : x3_1 < (a0.size : Int) := of_decide_eq_true AS
       have hx6 := bt_at a0 x3_1
       replace p6 := eq_true p6
       replace q6 := eq_true q6
       go_wp2
       go_ret
       exact ⟨by first | rfl | (simp; done) | (simp [*]; done), DR⟩
      ·rw [if_neg c7] at H
       have c7b0 : ((bt a0 x3_1) == 10) = false := beq_eq_false_iff_ne.mpr c7
       have c7b1 : ((bt a0 x3_1) != 10) = true := bne_iff_ne.mpr c7
       have H' := Aside0.mk H
       clear H
       have p4 : 0 ≤ (x3_1 : Int) := of_decide_eq_true AS
       have q4 : x3_1 < (a0.size : Int) := of_decide_eq_true AS
       have hx4 := bt_at a0 x3_1
       replace p4 := eq_true p4
       replace q4 := eq_true q4
       have p6 : 0 ≤ (x3_1 : Int) := of_decide_eq_true AS
       have q6 : x3_1 < (a0.size : Int) := of_decide_eq_true AS
       have hx6 := bt_at a0 x3_1
       replace p6 := eq_true p6
       replace q6 := eq_true q6
       go_wp2
       go_roundg k1
       case measure => have := HK1.out; omega
       case rel => exact ⟨(wrap64 (x3_1 + 1)), RS, H', ⟨by have := HK1.out; omega⟩, DR⟩
    ·rw [if_neg c3] at H
     exact absurd H (by simp)
   ·rw [if_neg c2] at H
    have c2b0 : decide (x3_1 < (a0.size : Int)) = false := decide_eq_false c2
    clear c2
    obtain rfl := Option.some.inj H
    go_wp2
    go_ret
    exact ⟨by first | rfl | (simp; done) | (simp [*]; done), DR⟩
end Go.Proofs.YtnlnifpehndacaaGreat.G

namespace Go.Proofs.YtnlnifpehndacaaGreat.G
open Go.RowKit Go.Proofs.YtnlnifpehndacaaGreatW.PrintWords Go.Proofs.YtnlnifpehndacaaGreatW.PrintLast Go.Proofs.YtnlnifpehndacaaGreatW.PrintMore Go.Proofs.YtnlnifpehndacaaGreat.Sh
attribute [local go_sem] max2_int min2_int max_two min_two max_three min_three max_four min_four
set_option linter.unusedVariables false
set_option linter.unusedSimpArgs false
open Go.Proofs.YtnlnifpehndacaaGreat.Mm
def impl_ItemOk.f (k : Nat) (a0_0 : ByteArray) (a0_1 : ByteArray) (a0_2 : Int) : Option (Bool) := (impl_within.f (a0_0.size : Int) 1 20).bind fun t601 => (if t601 = true then (if (a0_1.size : Int) ≤ 40 then ((impl_isPlain.f k a0_0).bind fun t602 => (if t602 = true then ((impl_isPlain.f k a0_1).bind fun t603 => (if t603 = true then ((impl_within.f a0_2 0 3).bind fun t604 => (some t604)) else (some false))) else (some false))) else (some false)) else (some false))
theorem impl_ItemOk.calls (k : Nat) (a0_0 : ByteArray) (a0_1 : ByteArray) (a0_2 : Int) (r : Bool) (w : World)  (h : impl_ItemOk.f k a0_0 a0_1 a0_2 = some r) :
  Calls Tryz.prog 44 #[.agg #[.string a0_0, .string a0_1, .int .i64 a0_2]] w fun e w' => e = .returned (.bool r) ∧ Mem w [] w' [] := by
 have hu60 := Tryz.underlying60
 have HM := Mem.nil w
 have H := h
 clear h
 unfold impl_ItemOk.f at H
 go_enter Tryz.func44, Tryz.ntmps44
 replace H := BN H; obtain ⟨t601, A4, H⟩ := H
 replace H := IB H
 rcases H with ⟨c6, H⟩ | ⟨c6, H⟩
 ·subst c6
  replace H := IT H; rcases H with ⟨c8, H⟩ | ⟨c8, H⟩
  ·replace c8 : (a0_1.size : Int) ≤ 40 := c8
   have c8b0 := decide_eq_true c8
   have c8b1 : decide (a0_1.size ≤ 40) = true := decide_eq_true (by omega)
   clear c8
   replace H := BN H; obtain ⟨t602, A9, H⟩ := H
   replace H := IB H
   rcases H with ⟨c11, H⟩ | ⟨c11, H⟩
   ·subst c11
    replace H := BN H; obtain ⟨t603, A13, H⟩ := H
    replace H := IB H
    rcases H with ⟨c15, H⟩ | ⟨c15, H⟩
    ·subst c15
     replace H := BN H; obtain ⟨t604, A17, H⟩ := H
     obtain rfl := Option.some.inj H
     go_wp2_with (first | ((with_reducible refine gN 1 rfl ?_); refine pB 1 60 [.string a0_0, .string a0_1, .int .i64 a0_2] HM rfl ?_; clear HM; intro gb600 w2 HM; obtain ⟨_,_,_,_,_,_⟩ := bk3 (HM.bx 0 rfl)) | ((with_reducible refine gC 24 rfl ?_); refine pC (some 6) rfl #[.int .i64 (a0_0.size : Int), .int .i64 1, .int .i64 20] rfl Tryz.func24 (impl_within.calls (a0_0.size : Int) 1 20 true _ A4.out) ?_; rintro e w5 ⟨rfl, hd⟩; refine ⟨_, rfl, ?_⟩; replace HM := HM.drawn hd; clear hd; obtain ⟨_,_,_,_,_,_⟩ := bk3 (HM.bx 0 rfl)) | ((with_reducible refine gC 64 rfl ?_); refine pC (some 16) rfl #[.string a0_0] rfl Tryz.func64 (impl_isPlain.calls k a0_0 true _ A9.out) ?_; rintro e w10 ⟨rfl, hd⟩; refine ⟨_, rfl, ?_⟩; replace HM := HM.drawn hd; clear hd; obtain ⟨_,_,_,_,_,_⟩ := bk3 (HM.bx 0 rfl)) | ((with_reducible refine gC 64 rfl ?_); refine pC (some 21) rfl #[.string a0_1] rfl Tryz.func64 (impl_isPlain.calls k a0_1 true _ A13.out) ?_; rintro e w14 ⟨rfl, hd⟩; refine ⟨_, rfl, ?_⟩; replace HM := HM.drawn hd; clear hd; obtain ⟨_,_,_,_,_,_⟩ := bk3 (HM.bx 0 rfl)) | ((with_reducible refine gC 24 rfl ?_); refine pC (some 26) rfl #[.int .i64 a0_2, .int .i64 0, .int .i64 3] rfl Tryz.func24 (impl_within.calls a0_2 0 3 t604 _ A17.out) ?_; rintro e w18 ⟨rfl, hd⟩; refine ⟨_, rfl, ?_⟩; replace HM := HM.drawn hd; clear hd))
     go_ret
     exact ⟨ER, (MD HM).pick []⟩
    ·subst c15
     obtain rfl := Option.some.inj H
     go_wp2_with (first | ((with_reducible refine gN 1 rfl ?_); refine pB 1 60 [.string a0_0, .string a0_1, .int .i64 a0_2] HM rfl ?_; clear HM; intro gb600 w2 HM; obtain ⟨_,_,_,_,_,_⟩ := bk3 (HM.bx 0 rfl)) | ((with_reducible refine gC 24 rfl ?_); refine pC (some 6) rfl #[.int .i64 (a0_0.size : Int), .int .i64 1, .int .i64 20] rfl Tryz.func24 (impl_within.calls (a0_0.size : Int) 1 20 true _ A4.out) ?_; rintro e w5 ⟨rfl, hd⟩; refine ⟨_, rfl, ?_⟩; replace HM := HM.drawn hd; clear hd; obtain ⟨_,_,_,_,_,_⟩ := bk3 (HM.bx 0 rfl)) | ((with_reducible refine gC 64 rfl ?_); refine pC (some 16) rfl #[.string a0_0] rfl Tryz.func64 (impl_isPlain.calls k a0_0 true _ A9.out) ?_; rintro e w10 ⟨rfl, hd⟩; refine ⟨_, rfl, ?_⟩; replace HM := HM.drawn hd; clear hd; obtain ⟨_,_,_,_,_,_⟩ := bk3 (HM.bx 0 rfl)) | ((with_reducible refine gC 64 rfl ?_); refine pC (some 21) rfl #[.string a0_1] rfl Tryz.func64 (impl_isPlain.calls k a0_1 false _ A13.out) ?_; rintro e w14 ⟨rfl, hd⟩; refine ⟨_, rfl, ?_⟩; replace HM := HM.drawn hd; clear hd))
     go_ret
     exact ⟨ER, (MD HM).pick []⟩
   ·subst c11
    obtain rfl := Option.some.inj H
    go_wp2_with (first | ((with_reducible refine gN 1 rfl ?_); refine pB 1 60 [.string a0_0, .string a0_1, .int .i64 a0_2] HM rfl ?_; clear HM; intro gb600 w2 HM; obtain ⟨_,_,_,_,_,_⟩ := bk3 (HM.bx 0 rfl)) | ((with_reducible refine gC 24 rfl ?_); refine pC (some 6) rfl #[.int .i64 (a0_0.size : Int), .int .i64 1, .int .i64 20] rfl Tryz.func24 (impl_within.calls (a0_0.size : Int) 1 20 true _ A4.out) ?_; rintro e w5 ⟨rfl, hd⟩; refine ⟨_, rfl, ?_⟩; replace HM := HM.drawn hd; clear hd; obtain ⟨_,_,_,_,_,_⟩ := bk3 (HM.bx 0 rfl)) | ((with_reducible refine gC 64 rfl ?_); refine pC (some 16) rfl #[.string a0_0] rfl Tryz.func64 (impl_isPlain.calls k a0_0 false _ A9.out) ?_; rintro e w10 ⟨rfl, hd⟩; refine ⟨_, rfl, ?_⟩; replace HM := HM.drawn hd; clear hd))
    go_ret
    exact ⟨ER, (MD HM).pick []⟩
  ·replace c8 : ¬ ((a0_1.size : Int) ≤ 40) := c8
   have c8b0 := decide_eq_false c8
   have c8b1 : decide (a0_1.size ≤ 40) = false := decide_eq_false (by omega)
   clear c8
   obtain rfl := Option.some.inj H
   go_wp2_with (first | ((with_reducible refine gN 1 rfl ?_); refine pB 1 60 [.string a0_0, .string a0_1, .int .i64 a0_2] HM rfl ?_; clear HM; intro gb600 w2 HM; obtain ⟨_,_,_,_,_,_⟩ := bk3 (HM.bx 0 rfl)) | ((with_reducible refine gC 24 rfl ?_); refine pC (some 6) rfl #[.int .i64 (a0_0.size : Int), .int .i64 1, .int .i64 20] rfl Tryz.func24 (impl_within.calls (a0_0.size : Int) 1 20 true _ A4.out) ?_; rintro e w5 ⟨rfl, hd⟩; refine ⟨_, rfl, ?_⟩; replace HM := HM.drawn hd; clear hd; obtain ⟨_,_,_,_,_,_⟩ := bk3 (HM.bx 0 rfl)))
   go_ret
   exact ⟨ER, (MD HM).pick []⟩
 ·subst c6
  obtain rfl := Option.some.inj H
  go_wp2_with (first | ((with_reducible refine gN 1 rfl ?_); refine pB 1 60 [.string a0_0, .string a0_1, .int .i64 a0_2] HM rfl ?_; clear HM; intro gb600 w2 HM; obtain ⟨_,_,_,_,_,_⟩ := bk3 (HM.bx 0 rfl)) | ((with_reducible refine gC 24 rfl ?_); refine pC (some 6) rfl #[.int .i64 (a0_0.size : Int), .int .i64 1, .int .i64 20] rfl Tryz.func24 (impl_within.calls (a0_0.size : Int) 1 20 false _ A4.out) ?_; rintro e w5 ⟨rfl, hd⟩; refine ⟨_, rfl, ?_⟩; replace HM := HM.drawn hd; clear hd))
  go_ret
  exact ⟨ER, (MD HM).pick []⟩
end Go.Proofs.YtnlnifpehndacaaGreat.G

namespace Go.Proofs.YtnlnifpehndacaaGreat.G
open Go.RowKit Go.Proofs.YtnlnifpehndacaaGreatW.PrintWords Go.Proofs.YtnlnifpehndacaaGreatW.PrintLast Go.Proofs.YtnlnifpehndacaaGreatW.PrintMore Go.Proofs.YtnlnifpehndacaaGreat.Sh
attribute [local go_sem] max2_int min2_int max_two min_two max_three min_three max_four min_four
set_option linter.unusedVariables false
set_option linter.unusedSimpArgs false
open Go.Proofs.YtnlnifpehndacaaGreat.Man
theorem impl_itemAt.closure (key : ByteArray) (B : Nat) (W : World) (x0 x1 : ByteArray) (x2 : Int) (hcell : W.cell? ⟨B, 0, none⟩ = some (.string key)) (hB : B < W.heap.size) :
  Calls Tryz.prog 66 #[.agg #[.string x0, .string x1, .int .i64 x2], .pointer (some ⟨B, 0, none⟩)] W fun e w' => e = .returned (.bool (x0.toList == key.toList)) ∧ Below W.heap.size W w' := by
 have hne : B ≠ W.heap.size := by omega
 have hu := Tryz.underlying60
 go_enter Tryz.func66, Tryz.ntmps66
 go_wp2
 go_ret
 exact ⟨rfl, by repeat (first | exact Below.refl _ _ | apply below_alloc)⟩
def impl_itemAt.idx (key : ByteArray) : List S60 → Nat → Int
 | [], _ => -1
 | x :: r, i => if x.f0.toList = key.toList then (i : Int) else impl_itemAt.idx key r (i + 1)
theorem impl_itemAt.idx_at (key : ByteArray) (l : List S60) (i : Nat) (h : i < l.length) : impl_itemAt.idx key (l.drop i) i = if (rd_T60 l (i : Int)).f0.toList = key.toList then (i : Int) else impl_itemAt.idx key (l.drop (i + 1)) (i + 1) := by
 rw [List.drop_eq_getElem_cons h, impl_itemAt.idx]
 have e : rd_T60 l (i : Int) = l[i] := by
  show l.getD (i : Int).toNat _ = _
  simp [List.getD_eq_getElem?_getD, h]
 rw [e]
theorem impl_itemAt.idx_end (key : ByteArray) (l : List S60) (i : Nat) (h : ¬ i < l.length) : impl_itemAt.idx key (l.drop i) i = -1 := by
 rw [List.drop_of_length_le (by omega)]; rfl
set_option maxHeartbeats 1000000 in
theorem impl_itemAt.indexFunc (key : ByteArray) (B : Nat) (A0 : Option Addr) (c0 : Nat) (l0 : List S60) (w : World) (hcell : w.cell? ⟨B, 0, none⟩ = some (.string key)) (hB : B < w.heap.size) (hr0 : Kd.C k60 w A0 l0.length l0) (hc0 : l0.length ≤ c0) :
  Calls Tryz.prog 65 #[.slice A0 l0.length c0, .func (.func 66) #[] #[.pointer (some ⟨B, 0, none⟩)]] w fun e w' => e = .returned (.int .i64 (impl_itemAt.idx key l0 0)) ∧ Below w.heap.size w w' := by
 have HR0 := Aside0.mk hr0
 have HC0 := Aside0.mk hc0
 have HL := Aside0.mk (show l0.length ≤ 9223372036854775807 from hr0.2.1)
 have HX := Aside0.mk hcell
 have HBB := Aside0.mk hB
 clear hr0 hc0 hcell hB
 have HB := Aside0.mk (Below.refl w.heap.size w)
 obtain ⟨R, hR⟩ : ∃ R, R = impl_itemAt.idx key l0 0 := ⟨_, rfl⟩
 rw [← hR]
 have HN := Aside0.mk (show impl_itemAt.idx key (l0.drop 0) 0 = R from hR.symm)
 clear hR
 go_enter Tryz.func65, Tryz.ntmps65
 go_wp2
 go_loopg [5, 8] l0.length (fun kq _ v8 w' => ∃ x : Int, v8 = .int .i64 x ∧ Aside0 (∃ n : Nat, x = (n : Int) ∧ impl_itemAt.idx key (l0.drop n) n = R ∧ n + kq = l0.length) ∧ Aside0 (Below w.heap.size w w'))
 case atStart => exact ⟨0, rfl, ⟨0, rfl, HN.out, Nat.zero_add _⟩, HB⟩
 case round =>
  clear HN
  obtain ⟨x, rfl, HN, HB⟩ := hrel
  have hcl : ∀ y : S60, Calls Tryz.prog 66 #[.agg #[.string y.f0, .string y.f1, .int .i64 y.f2], .pointer (some ⟨B, 0, none⟩)] wr fun e w' => e = .returned (.bool (y.f0.toList == key.toList)) ∧ Below wr.heap.size wr w' := fun y => impl_itemAt.closure key B wr y.f0 y.f1 y.f2 ((HB.out.cell (World.block_lt_of_cell? w _ HX.out)).trans HX.out) (Nat.lt_of_lt_of_le HBB.out HB.out.size)
  by_cases hlt : x < (l0.length : Int)
  ·have hd : decide (x < (l0.length : Int)) = true := decide_eq_true hlt
   have hn0 : 0 ≤ x := by obtain ⟨n, rfl, _⟩ := HN.out; exact Int.natCast_nonneg n
   obtain ⟨ad, hA, hx0, hx1, hx2⟩ := at_T60 HR0.out x hn0 hlt
   subst hA
   replace hx0 := (HB.out.cell (World.block_lt_of_cell? w _ hx0)).trans hx0
   replace hx1 := (HB.out.cell (World.block_lt_of_cell? w _ hx1)).trans hx1
   replace hx2 := (HB.out.cell (World.block_lt_of_cell? w _ hx2)).trans hx2
   have hcall := hcl (rd_T60 l0 x)
   clear hcl
   have H0 := Aside0.mk hn0
   have H1 := Aside0.mk hlt
   replace hn0 := eq_true hn0
   replace hlt := eq_true hlt
   obtain ⟨y, hy⟩ : ∃ y, rd_T60 l0 x = y := ⟨_, rfl⟩
   rw [hy] at hx0 hx1 hx2 hcall
   have HY := Aside0.mk hy
   clear hy
   by_cases c : y.f0.toList = key.toList
   ·rw [show (y.f0.toList == key.toList) = true from beq_iff_eq.mpr c] at hcall
    have C := Aside0.mk c
    clear c
    go_wp2_with fail
    refine hcall.mono ?_
    rintro e w' ⟨rfl, hb'⟩
    have HB' := Aside0.mk hb'
    clear hb' hcall
    go_wp2
    go_ret
    refine ⟨?_, below_step HB.out HB'.out⟩
    obtain ⟨n, rfl, hn, hk⟩ := HN.out
    have e := impl_itemAt.idx_at key l0 n (Int.ofNat_lt.mp H1.out)
    rw [HY.out, if_pos C.out, hn] at e
    rw [e]
    rfl
   ·rw [show (y.f0.toList == key.toList) = false from beq_eq_false_iff_ne.mpr c] at hcall
    have C := Aside0.mk c
    clear c
    go_wp2_with fail
    refine hcall.mono ?_
    rintro e w' ⟨rfl, hb'⟩
    have HB' := Aside0.mk hb'
    clear hb' hcall
    go_wp2
    obtain ⟨n, rfl, hn, hk⟩ := HN.out
    have hlt' := Int.ofNat_lt.mp H1.out
    go_roundg (gk - 1)
    case measure => omega
    case rel =>
     have e := impl_itemAt.idx_at key l0 n hlt'
     rw [HY.out, if_neg C.out, hn] at e
     exact ⟨_, rfl, ⟨n + 1, wsucc_ (by have := HL.out; omega), e.symm, by omega⟩, ⟨below_step HB.out HB'.out⟩⟩
  ·have hd : decide (x < (l0.length : Int)) = false := decide_eq_false hlt
   clear hcl
   have HLT := Aside0.mk hlt
   clear hlt
   go_wp2
   go_ret
   obtain ⟨n, rfl, hn, hk⟩ := HN.out
   have hlt' := HLT.out
   rw [impl_itemAt.idx_end key l0 n (by omega)] at hn
   exact ⟨by rw [← hn]; rfl, HB.out⟩
def impl_itemAt.f (l0 : List S60) (a1 : ByteArray) : Option Int := some (impl_itemAt.idx a1 l0 0)
theorem impl_itemAt.calls (A0 : Option Addr) (c0 : Nat) (l0 : List S60) (a1 : ByteArray) (r : Int) (w : World) (hr0 : Kd.C k60 w A0 l0.length l0) (hc0 : l0.length ≤ c0) (h : impl_itemAt.f l0 a1 = some r) :
  Calls Tryz.prog 45 #[.slice A0 l0.length c0, .string a1] w fun e w' => e = .returned (.int .i64 r) ∧ Below w.heap.size w w' := by
 obtain rfl := Option.some.inj h
 have hb0 : Below w.heap.size w (w.alloc (.cells #[.string a1] 9)) := below_alloc (Below.refl _ w) _
 have hcall := impl_itemAt.indexFunc a1 w.heap.size A0 c0 l0 (w.alloc (.cells #[.string a1] 9)) (by simp) (by simp) (Kd.C_below hr0 hb0) hc0
 have HB := Aside0.mk hb0
 clear h hr0 hc0 hb0
 obtain ⟨R, hR⟩ : ∃ R, R = impl_itemAt.idx a1 l0 0 := ⟨_, rfl⟩
 rw [← hR] at hcall ⊢
 have HR := Aside0.mk hR
 clear hR
 go_enter Tryz.func45, Tryz.ntmps45
 go_wp2_with fail
 refine hcall.mono ?_
 rintro e w' ⟨rfl, hb'⟩
 have HB' := Aside0.mk hb'
 clear hb' hcall
 go_wp2
 go_ret
 exact ⟨rfl, below_step HB.out HB'.out⟩
end Go.Proofs.YtnlnifpehndacaaGreat.G

namespace Go.Proofs.YtnlnifpehndacaaGreat.G
open Go.RowKit Go.Proofs.YtnlnifpehndacaaGreatW.PrintWords Go.Proofs.YtnlnifpehndacaaGreatW.PrintLast Go.Proofs.YtnlnifpehndacaaGreatW.PrintMore Go.Proofs.YtnlnifpehndacaaGreat.Sh
attribute [local go_sem] max2_int min2_int max_two min_two max_three min_three max_four min_four
set_option linter.unusedVariables false
set_option linter.unusedSimpArgs false
open Go.Proofs.YtnlnifpehndacaaGreat.Mm
def impl_areItems.l0 : Nat → List (S60) → List (S60) → Int → Int → Option (Bool)
 | 0, _, _, _, _ => none
 | k + 1, x0, x5, x6, x7 => if x7 < x6 then (if 0 ≤ x7 then (if x7 < (x5.length : Int) then ((impl_ItemOk.f k ((rd_T60 x5 x7).f0) ((rd_T60 x5 x7).f1) ((rd_T60 x5 x7).f2)).bind fun t607 => (if t607 = true then ((impl_itemAt.f x0 ((rd_T60 x5 x7).f0)).bind fun t608 => (if t608 = x7 then (impl_areItems.l0 k x0 x5 x6 (wrap64 (x7 + 1))) else (some false))) else (some false))) else (none)) else (none)) else (some true)
def impl_areItems.f (k : Nat) (l0 : List (S60)) : Option (Bool) := impl_areItems.l0 k l0 l0 (l0.length : Int) 0
theorem impl_areItems.calls (k : Nat) (A0 : Option Addr) (c0 : Nat) (l0 : List (S60)) (r : Bool) (w : World) (hr0 : Kd.C k60 w A0 l0.length l0) (hc0 : l0.length ≤ c0) (h : impl_areItems.f k l0 = some r) :
  Calls Tryz.prog 29 #[.slice A0 l0.length c0] w fun e w' => e = .returned (.bool r) ∧ Mem w [] w' [] := by
 have hu60 := Tryz.underlying60
 have HR0 := Aside0.mk hr0
 have HC0 := Aside0.mk hc0
 clear hr0 hc0
 have HM := Mem.nil w
 have H := h
 clear h
 unfold impl_areItems.f at H
 go_enter Tryz.func29, Tryz.ntmps29
 have H' := Aside0.mk H
 clear H
 go_wp2
 go_loopg [7] k (fun kq v7 w' => ∃ (x7_1 : Int), v7 = .int .i64 x7_1 ∧ Aside0 (impl_areItems.l0 kq l0 l0 (l0.length : Int) x7_1 = some r) ∧ Aside0 (kq ≤ k) ∧ Mem w [] w' [])
 case atStart => exact ⟨(0), RS, H', ⟨Nat.le_refl _⟩, (MD HM).pick []⟩
 case round =>
  clear H' HM
  obtain ⟨x7_1, rfl, HA, HK1, HM⟩ := hrel
  cases gk with
  | zero => exact absurd HA.out (by simp [impl_areItems.l0])
  | succ k1 =>
   have H := HA.out
   clear HA
   simp only [impl_areItems.l0] at H
   go_upto_if 8 with (fail)
   replace H := IT H; rcases H with ⟨c2, H⟩ | ⟨c2, H⟩
   ·have c2b0 := decide_eq_true c2
    clear c2
    first|rw [c2b0]|(simp only [i64_w, i32_w]; rw [c2b0])|skip
    replace H := GD H; obtain ⟨c3, H⟩ := H
    have c3b0 := decide_eq_true c3
    clear c3
    replace H := GD H; obtain ⟨c4, H⟩ := H
    have c4b0 := decide_eq_true c4
    clear c4
    replace H := BN H; obtain ⟨t607, A8, H⟩ := H
    replace H := IB H
    rcases H with ⟨c10, H⟩ | ⟨c10, H⟩
    ·subst c10
     replace H := BN H; obtain ⟨t608, A12, H⟩ := H
     have p605 : 0 ≤ (x7_1 : Int) := of_decide_eq_true AS
     have q605 : (x7_1 : Int) < (l0.length : Int) := of_decide_eq_true AS
     obtain ⟨ad605, e605, hx605_0, hx605_1, hx605_2⟩ := at_T60 (HM.came HR0.out) x7_1 p605 q605
     cases e605
     replace p605 := eq_true p605
     replace q605 := eq_true q605
     go_upto_if 22 with (first | ((with_reducible refine gN 4 rfl ?_); refine pB 4 60 [.string (⟨#[]⟩ : ByteArray), .string (⟨#[]⟩ : ByteArray), .int .i64 0] HM rfl ?_; clear HM; intro gb606 w5 HM) | ((with_reducible refine gS 4 rfl ?_); refine pS 0 4 0 [.string ((rd_T60 l0 x7_1).f0), .string ((rd_T60 l0 x7_1).f1), .int .i64 ((rd_T60 l0 x7_1).f2)] HM rfl rfl ?_; clear HM; intro w6 HM; obtain ⟨_,_,_,_,_,_⟩ := bk3 (HM.bx 0 rfl)) | ((with_reducible refine gC 44 rfl ?_); refine pC (some 13) rfl #[.agg #[.string ((rd_T60 l0 x7_1).f0), .string ((rd_T60 l0 x7_1).f1), .int .i64 ((rd_T60 l0 x7_1).f2)]] rfl Tryz.func44 (impl_ItemOk.calls k1 ((rd_T60 l0 x7_1).f0) ((rd_T60 l0 x7_1).f1) ((rd_T60 l0 x7_1).f2) true _ A8.out) ?_; rintro e w9 ⟨rfl, hR⟩; refine ⟨_, rfl, ?_⟩; replace HM := HM.call hR; clear hR; obtain ⟨_,_,_,_,_,_⟩ := bk3 (HM.bx 0 rfl)) | ((with_reducible refine gC 45 rfl ?_); refine pC (some 19) rfl #[.slice (some ad605) l0.length c0, .string ((rd_T60 l0 x7_1).f0)] rfl Tryz.func45 (impl_itemAt.calls (some ad605) c0 l0 ((rd_T60 l0 x7_1).f0) t608 _ (HM.came HR0.out) HC0.out A12.out) ?_; rintro e w13 ⟨rfl, hb⟩; refine ⟨_, rfl, ?_⟩; replace HM := HM.below hb; clear hb))
     replace HM := nzM HM
     replace H := IT H; rcases H with ⟨c14, H⟩ | ⟨c14, H⟩
     ·obtain ⟨c14b0, c14b1⟩ := BE c14
      clear c14
      first|rw [c14b0]|(simp only [i64_w, i32_w]; rw [c14b0])|skip
      have H' := Aside0.mk H
      clear H
      go_wp2
      go_roundg k1
      case measure => have := HK1.out; omega
      case rel => exact ⟨(wrap64 (x7_1 + 1)), RS, H', ⟨by have := HK1.out; omega⟩, (MD HM).pick []⟩
     ·obtain ⟨c14b0, c14b1⟩ := BF c14
      first|rw [c14b0]|(simp only [i64_w, i32_w]; rw [c14b0])|skip
      obtain rfl := Option.some.inj H
      go_wp2
      go_ret
      exact ⟨ER, (MD HM).pick []⟩
    ·subst c10
     obtain rfl := Option.some.inj H
     have p605 : 0 ≤ (x7_1 : Int) := of_decide_eq_true AS
     have q605 : (x7_1 : Int) < (l0.length : Int) := of_decide_eq_true AS
     obtain ⟨ad605, e605, hx605_0, hx605_1, hx605_2⟩ := at_T60 (HM.came HR0.out) x7_1 p605 q605
     cases e605
     replace p605 := eq_true p605
     replace q605 := eq_true q605
     go_wp2_with (first | ((with_reducible refine gN 4 rfl ?_); refine pB 4 60 [.string (⟨#[]⟩ : ByteArray), .string (⟨#[]⟩ : ByteArray), .int .i64 0] HM rfl ?_; clear HM; intro gb606 w5 HM) | ((with_reducible refine gS 4 rfl ?_); refine pS 0 4 0 [.string ((rd_T60 l0 x7_1).f0), .string ((rd_T60 l0 x7_1).f1), .int .i64 ((rd_T60 l0 x7_1).f2)] HM rfl rfl ?_; clear HM; intro w6 HM; obtain ⟨_,_,_,_,_,_⟩ := bk3 (HM.bx 0 rfl)) | ((with_reducible refine gC 44 rfl ?_); refine pC (some 13) rfl #[.agg #[.string ((rd_T60 l0 x7_1).f0), .string ((rd_T60 l0 x7_1).f1), .int .i64 ((rd_T60 l0 x7_1).f2)]] rfl Tryz.func44 (impl_ItemOk.calls k1 ((rd_T60 l0 x7_1).f0) ((rd_T60 l0 x7_1).f1) ((rd_T60 l0 x7_1).f2) false _ A8.out) ?_; rintro e w9 ⟨rfl, hR⟩; refine ⟨_, rfl, ?_⟩; replace HM := HM.call hR; clear hR))
     go_ret
     exact ⟨ER, (MD HM).pick []⟩
   ·have c2b0 := decide_eq_false c2
    clear c2
    first|rw [c2b0]|(simp only [i64_w, i32_w]; rw [c2b0])|skip
    obtain rfl := Option.some.inj H
    go_wp2
    go_ret
    exact ⟨ER, (MD HM).pick []⟩
mutual
def impl_ThreeOk.j0 : Nat → Bool → Int → Int → List (S60) → List (S60) → List Int → Option (Bool)
 | 0, _, _, _, _, _, _ => none
 | k + 1, x24, x610000, x610001, x610002, x610003, x610004 => if x24 = true then (some false) else (impl_ThreeOk.l0 k x610004 (x610004.length : Int) 0 x610000 x610001 x610002 x610003 x610004)
def impl_ThreeOk.l0 : Nat → List Int → Int → Int → Int → Int → List (S60) → List (S60) → List Int → Option (Bool)
 | 0, _, _, _, _, _, _, _, _ => none
 | k + 1, x26, x27, x28, x610000, x610001, x610002, x610003, x610004 => if x28 < x27 then (if 0 ≤ x28 then (if x28 < (x26.length : Int) then ((impl_isNum.f (rd x26 x28)).bind fun t621 => (if t621 = true then (if x28 ≤ (x610004.length : Int) then ((slices_Contains_int_int.f k (x610004.take (x28 : Int).toNat) (rd x26 x28)).bind fun t623 => (if t623 = true then (some false) else (impl_ThreeOk.l0 k x26 x27 (wrap64 (x28 + 1)) x610000 x610001 x610002 x610003 x610004))) else (none)) else (some false))) else (none)) else (none)) else ((impl_copyItems.f x610002).bind fun t613 => (if t613.length + x610003.length < 3518437208883 then ((some (t613 ++ x610003 : List (S60))).bind fun y616 => (if (y616.length : Int) ≤ x610000 then ((impl_areItems.f k y616).bind fun t619 => (some t619)) else (some false))) else (none)))
end
def impl_ThreeOk.f (k : Nat) (a0_0 : Int) (a0_1 : Int) (l0_2 : List (S60)) (l0_3 : List (S60)) (l0_4 : List Int) : Option (Bool) := (impl_within.f a0_0 1 60).bind fun t610 => (if t610 = true then ((impl_within.f a0_1 1 a0_0).bind fun t611 => (if t611 = true then ((impl_Three_ghosts.f a0_0 a0_1).bind fun t612 => (impl_ThreeOk.j0 k (decide ((l0_4.length : Int) > t612)) a0_0 a0_1 l0_2 l0_3 l0_4)) else (impl_ThreeOk.j0 k true a0_0 a0_1 l0_2 l0_3 l0_4))) else (impl_ThreeOk.j0 k true a0_0 a0_1 l0_2 l0_3 l0_4))
def impl_ThreeOk.T1 : Bool × List (List Nat × List Nat) := (true, [([], []), ([0], [0]), ([1], [1]), ([2], [2]), ([3, 2], [3]), ([4], [4]), ([5, 4], [4, 5]), ([4], [4]), ([7, 4], [4, 7]), ([6, 8, 4, 4], [4, 6, 8]), ([9, 4], [4, 9]), ([4, 10], [4, 10]), ([11, 9], [11]), ([12], [12]), ([13, 12], [12, 13]), ([14, 12], [12, 14]), ([12, 12], [12]), ([15, 16, 12], [12, 15, 16]), ([12, 17], [12, 17])])
def impl_ThreeOk.B1 : List Nat := [0, 1, 3, 7, 15, 31, 63, 31, 159, 511, 1023, 2047, 4095, 8191, 16383, 32767, 8191, 131071, 262143]
theorem impl_ThreeOk.tab1 : rtab .any (opsOf Tryz.f11 1) = impl_ThreeOk.T1 := by kernel_rfl
theorem impl_ThreeOk.bits1 : waitsOk impl_ThreeOk.T1.2 impl_ThreeOk.B1 = true := by kernel_rfl
def impl_ThreeOk.T9 : Bool × List (List Nat × List Nat) := (true, [([], []), ([0], [0]), ([1], [1]), ([], []), ([3], [3]), ([2, 4, 2], [2, 4]), ([5, 5, 0, 1, 2, 3, 4, 5], [5])])
def impl_ThreeOk.B9 : List Nat := [0, 1, 3, 0, 8, 31, 63]
theorem impl_ThreeOk.tab9 : rtab .any (opsOf Tryz.f11 9) = impl_ThreeOk.T9 := by kernel_rfl
theorem impl_ThreeOk.bits9 : waitsOk impl_ThreeOk.T9.2 impl_ThreeOk.B9 = true := by kernel_rfl
theorem impl_ThreeOk.calls (k : Nat) (a0_0 : Int) (a0_1 : Int) (A0_2 : Option Addr) (c0_2 : Nat) (l0_2 : List (S60)) (A0_3 : Option Addr) (c0_3 : Nat) (l0_3 : List (S60)) (A0_4 : Option Addr) (c0_4 : Nat) (l0_4 : List Int) (r : Bool) (w : World) (hr0_2 : Kd.C k60 w A0_2 l0_2.length l0_2) (hc0_2 : l0_2.length ≤ c0_2) (hr0_3 : Kd.C k60 w A0_3 l0_3.length l0_3) (hc0_3 : l0_3.length ≤ c0_3) (hr0_4 : Kd.C (Kd.int .i64) w A0_4 l0_4.length l0_4) (hc0_4 : l0_4.length ≤ c0_4) (h : impl_ThreeOk.f k a0_0 a0_1 l0_2 l0_3 l0_4 = some r) :
  Calls Tryz.prog 11 #[.agg #[.int .i64 a0_0, .int .i64 a0_1, .slice A0_2 l0_2.length c0_2, .slice A0_3 l0_3.length c0_3, .slice A0_4 l0_4.length c0_4]] w fun e w' => e = .returned (.bool r) ∧ Mem w [] w' [] := by
 have hu26 := Tryz.underlying26
 have HR0_2 := Aside0.mk hr0_2
 have HC0_2 := Aside0.mk hc0_2
 clear hr0_2 hc0_2
 have HR0_3 := Aside0.mk hr0_3
 have HC0_3 := Aside0.mk hc0_3
 clear hr0_3 hc0_3
 have HR0_4 := Aside0.mk hr0_4
 have HC0_4 := Aside0.mk hc0_4
 clear hr0_4 hc0_4
 have HM := Mem.nil w
 have H := h
 clear h
 unfold impl_ThreeOk.f at H
 go_enter Tryz.func11, Tryz.ntmps11
 have HC3 := Aside0.mk H
 clear H
 go_upto_region 1 with (first | ((with_reducible refine gN 1 rfl ?_); refine pB 1 26 [.int .i64 a0_0, .int .i64 a0_1, .slice A0_2 l0_2.length c0_2, .slice A0_3 l0_3.length c0_3, .slice A0_4 l0_4.length c0_4] HM rfl ?_; clear HM; intro gb609 w2 HM))
 go_cut [24] (fun v24 wc => ∃ (kq : Nat) (x24_2 : Bool), v24 = .bool x24_2 ∧ Aside0 (impl_ThreeOk.j0 kq x24_2 a0_0 a0_1 l0_2 l0_3 l0_4 = some r) ∧ Aside0 (kq ≤ k) ∧ Mem w [] wc [box 26 gb609 [.int .i64 a0_0, .int .i64 a0_1, .slice A0_2 l0_2.length c0_2, .slice A0_3 l0_3.length c0_3, .slice A0_4 l0_4.length c0_4]])
 case first =>
  have H := HC3.out
  clear HC3
  try go_wp2
  replace H := BN H; obtain ⟨t610, A4, H⟩ := H
  replace H := IB H
  rcases H with ⟨c5, H⟩ | ⟨c5, H⟩
  ·subst c5
   replace H := BN H; obtain ⟨t611, A6, H⟩ := H
   replace H := IB H
   rcases H with ⟨c7, H⟩ | ⟨c7, H⟩
   ·subst c7
    replace H := BN H; obtain ⟨t612, A8, H⟩ := H
    refine RGN 19 [0, 1, 2, 3, 4, 5, 6, 7, 8, 9, 10, 11, 12, 13, 14, 15, 16, 17, 18] (fun a0 b a w' => a = putSel a0 b [(0, 6, .pointer (some ⟨gb609, 0, none⟩)), (1, 7, .int .i64 a0_0), (2, 8, .bool true), (3, 9, .bool (!true)), (4, 10, .bool (!true)), (5, 11, .pointer (some ⟨gb609, 1, none⟩)), (6, 12, .int .i64 a0_1), (7, 13, .pointer (some ⟨gb609, 0, none⟩)), (8, 14, .int .i64 a0_0), (9, 15, .bool true), (10, 16, .bool (!true)), (11, 17, .bool (!true)), (12, 18, .bool (!true)), (13, 19, .pointer (some ⟨gb609, 4, none⟩)), (14, 20, .slice A0_4 l0_4.length c0_4), (15, 21, .int .i64 (l0_4.length : Int)), (16, 22, .int .i64 t612), (17, 23, .bool (decide ((l0_4.length : Int) > t612))), (18, 24, .bool (decide ((l0_4.length : Int) > t612)))] ∧ Mem w [] w' [box 26 gb609 [.int .i64 a0_0, .int .i64 a0_1, .slice A0_2 l0_2.length c0_2, .slice A0_3 l0_3.length c0_3, .slice A0_4 l0_4.length c0_4]]) impl_ThreeOk.tab1 impl_ThreeOk.bits1 ?_ ?_ ?_
    ·exact ⟨PS0' rfl _, (HM.drew).pick [0]⟩
    ·clear HM
     refine SY ?_ ?_
     ·intro b a w ha HM hb hon hoff K hK
      have e1 := PG ha 1
      exact VL (.pointer (some ⟨gb609, 0, none⟩)) (hK.out _ _ ⟨PUT ha 0 hb, HM⟩)
     refine SY ?_ ?_
     ·intro b a w ha HM hb hon hoff K hK
      obtain ⟨_,_,_,_,_,_,_,_,_,_⟩ := bk5 (HM.bx 0 rfl)
      have e6 := PE ha 0 hon
      exact VL (.int .i64 a0_0) (hK.out _ _ ⟨PUT ha 1 hb, HM⟩)
     refine SY ?_ ?_
     ·intro b a w ha HM hb hon hoff K hK
      have e7 := PE ha 1 hon
      refine ST (eC (some 8) rfl #[.int .i64 a0_0, .int .i64 1, .int .i64 60] rfl Tryz.func24 (impl_within.calls a0_0 1 60 true _ A4.out) ?_ (hargs := by (simp only [List.map_toArray, List.map_cons, List.map_nil, evc, eval_of e7]) <;> rfl))
      rintro e w17 ⟨rfl, hd⟩
      refine ⟨_, rfl, ?_⟩
      replace HM := HM.drawn hd
      clear hd
      exact hK.out _ _ ⟨PUT ha 2 hb, (HM).pick [0]⟩
     refine SY ?_ ?_
     ·intro b a w ha HM hb hon hoff K hK
      have e8 := PE ha 2 hon
      exact VL (.bool (!true)) (hK.out _ _ ⟨PUT ha 3 hb, HM⟩)
     refine SY ?_ ?_
     ·intro b a w ha HM hb hon hoff K hK
      have e9 := PE ha 3 hon
      exact VL (.bool (!true)) (hK.out _ _ ⟨PUT ha 4 hb, HM⟩)
     refine SY ?_ ?_
     ·intro b a w ha HM hb hon hoff K hK
      have e1 := PG ha 1
      have e10 := PE ha 4 hon
      exact VL (.pointer (some ⟨gb609, 1, none⟩)) (hK.out _ _ ⟨PUT ha 5 hb, HM⟩) (hw := wanted_on rfl rfl rfl (e10.trans (by first | rfl | (simp [*]; done))))
     refine SY ?_ ?_
     ·intro b a w ha HM hb hon hoff K hK
      obtain ⟨_,_,_,_,_,_,_,_,_,_⟩ := bk5 (HM.bx 0 rfl)
      have e11 := PE ha 5 hon
      have e10 := PE ha 4 hon
      exact VL (.int .i64 a0_1) (hK.out _ _ ⟨PUT ha 6 hb, HM⟩) (hw := wanted_on rfl rfl rfl (e10.trans (by first | rfl | (simp [*]; done))))
     refine SY ?_ ?_
     ·intro b a w ha HM hb hon hoff K hK
      have e1 := PG ha 1
      have e10 := PE ha 4 hon
      exact VL (.pointer (some ⟨gb609, 0, none⟩)) (hK.out _ _ ⟨PUT ha 7 hb, HM⟩) (hw := wanted_on rfl rfl rfl (e10.trans (by first | rfl | (simp [*]; done))))
     refine SY ?_ ?_
     ·intro b a w ha HM hb hon hoff K hK
      obtain ⟨_,_,_,_,_,_,_,_,_,_⟩ := bk5 (HM.bx 0 rfl)
      have e13 := PE ha 7 hon
      have e10 := PE ha 4 hon
      exact VL (.int .i64 a0_0) (hK.out _ _ ⟨PUT ha 8 hb, HM⟩) (hw := wanted_on rfl rfl rfl (e10.trans (by first | rfl | (simp [*]; done))))
     refine SY ?_ ?_
     ·intro b a w ha HM hb hon hoff K hK
      have e12 := PE ha 6 hon
      have e14 := PE ha 8 hon
      have e10 := PE ha 4 hon
      refine ST (eC (some 15) rfl #[.int .i64 a0_1, .int .i64 1, .int .i64 a0_0] rfl Tryz.func24 (impl_within.calls a0_1 1 a0_0 true _ A6.out) ?_ (hargs := by (simp only [List.map_toArray, List.map_cons, List.map_nil, evc, eval_of e12, eval_of e14]) <;> rfl)) (hw := wanted_on rfl rfl rfl (e10.trans (by first | rfl | (simp [*]; done))))
      rintro e w20 ⟨rfl, hd⟩
      refine ⟨_, rfl, ?_⟩
      replace HM := HM.drawn hd
      clear hd
      exact hK.out _ _ ⟨PUT ha 9 hb, (HM).pick [0]⟩
     refine SY ?_ ?_
     ·intro b a w ha HM hb hon hoff K hK
      have e15 := PE ha 9 hon
      have e10 := PE ha 4 hon
      exact VL (.bool (!true)) (hK.out _ _ ⟨PUT ha 10 hb, HM⟩) (hw := wanted_on rfl rfl rfl (e10.trans (by first | rfl | (simp [*]; done))))
     refine SY ?_ ?_
     ·intro b a w ha HM hb hon hoff K hK
      have e10 := PE ha 4 hon
      have e16 := PE ha 10 hon
      exact VL (.bool (!true)) (hK.out _ _ ⟨PUT ha 11 hb, HM⟩)
     refine SY ?_ ?_
     ·intro b a w ha HM hb hon hoff K hK
      have e17 := PE ha 11 hon
      exact VL (.bool (!true)) (hK.out _ _ ⟨PUT ha 12 hb, HM⟩)
     refine SY ?_ ?_
     ·intro b a w ha HM hb hon hoff K hK
      have e1 := PG ha 1
      have e18 := PE ha 12 hon
      exact VL (.pointer (some ⟨gb609, 4, none⟩)) (hK.out _ _ ⟨PUT ha 13 hb, HM⟩) (hw := wanted_on rfl rfl rfl (e18.trans (by first | rfl | (simp [*]; done))))
     refine SY ?_ ?_
     ·intro b a w ha HM hb hon hoff K hK
      obtain ⟨_,_,_,_,_,_,_,_,_,_⟩ := bk5 (HM.bx 0 rfl)
      have e19 := PE ha 13 hon
      have e18 := PE ha 12 hon
      exact VL (.slice A0_4 l0_4.length c0_4) (hK.out _ _ ⟨PUT ha 14 hb, HM⟩) (hw := wanted_on rfl rfl rfl (e18.trans (by first | rfl | (simp [*]; done))))
     refine SY ?_ ?_
     ·intro b a w ha HM hb hon hoff K hK
      have e20 := PE ha 14 hon
      have e18 := PE ha 12 hon
      exact VL (.int .i64 (l0_4.length : Int)) (hK.out _ _ ⟨PUT ha 15 hb, HM⟩) (hw := wanted_on rfl rfl rfl (e18.trans (by first | rfl | (simp [*]; done))))
     refine SY ?_ ?_
     ·intro b a w ha HM hb hon hoff K hK
      have e1 := PG ha 1
      have e18 := PE ha 12 hon
      refine ST (eC (some 22) rfl #[.pointer (some ⟨gb609, 0, none⟩)] rfl Tryz.func25 (impl_Three_ghosts.calls gb609 a0_0 a0_1 _ _ _ t612 _ (HM.bx 0 rfl) A8.out) ?_ (hargs := by (simp only [List.map_toArray, List.map_cons, List.map_nil, evc, eval_of e1]) <;> rfl)) (hw := wanted_on rfl rfl rfl (e18.trans (by first | rfl | (simp [*]; done))))
      rintro e w22 ⟨rfl, nd_, rfl⟩
      refine ⟨_, rfl, ?_⟩
      replace HM := HM.drewN nd_
      exact hK.out _ _ ⟨PUT ha 16 hb, (HM).pick [0]⟩
     refine SY ?_ ?_
     ·intro b a w ha HM hb hon hoff K hK
      have e21 := PE ha 15 hon
      have e22 := PE ha 16 hon
      have e18 := PE ha 12 hon
      exact VL (.bool (decide ((l0_4.length : Int) > t612))) (hK.out _ _ ⟨PUT ha 17 hb, HM⟩) (hw := wanted_on rfl rfl rfl (e18.trans (by first | rfl | (simp [*]; done))))
     refine SY ?_ ?_
     ·intro b a w ha HM hb hon hoff K hK
      have e18 := PE ha 12 hon
      have e23 := PE ha 17 hon
      exact VL (.bool (decide ((l0_4.length : Int) > t612))) (hK.out _ _ ⟨PUT ha 18 hb, HM⟩)
     exact steps_nil
    rintro _ w23 ⟨rfl, HM⟩
    simp only [putSel, if_true, Act.put, List.setIfInBounds_toArray, List.set_cons_zero, List.set_cons_succ, gt_iff_lt, ge_iff_le]
    have H' := Aside0.mk H
    clear H
    go_wp2
    go_meet
    case rel => exact ⟨_, (decide ((l0_4.length : Int) > t612)), RS, H', ⟨by first | omega | exact Nat.le_refl _⟩, (MD HM).pick [0]⟩
   ·subst c7
    refine RGN 19 [0, 1, 2, 3, 4, 5, 6, 7, 8, 9, 10, 11, 12, 13, 14, 15, 16, 17, 18] (fun a0 b a w' => a = putSel a0 b [(0, 6, .pointer (some ⟨gb609, 0, none⟩)), (1, 7, .int .i64 a0_0), (2, 8, .bool true), (3, 9, .bool (!true)), (4, 10, .bool (!true)), (5, 11, .pointer (some ⟨gb609, 1, none⟩)), (6, 12, .int .i64 a0_1), (7, 13, .pointer (some ⟨gb609, 0, none⟩)), (8, 14, .int .i64 a0_0), (9, 15, .bool false), (10, 16, .bool (!false)), (11, 17, .bool (!false)), (12, 18, .bool (!false)), (13, 19, undef), (14, 20, undef), (15, 21, undef), (16, 22, undef), (17, 23, undef), (18, 24, .bool true)] ∧ Mem w [] w' [box 26 gb609 [.int .i64 a0_0, .int .i64 a0_1, .slice A0_2 l0_2.length c0_2, .slice A0_3 l0_3.length c0_3, .slice A0_4 l0_4.length c0_4]]) impl_ThreeOk.tab1 impl_ThreeOk.bits1 ?_ ?_ ?_
    ·exact ⟨PS0' rfl _, (HM.drew).pick [0]⟩
    ·clear HM
     refine SY ?_ ?_
     ·intro b a w ha HM hb hon hoff K hK
      have e1 := PG ha 1
      exact VL (.pointer (some ⟨gb609, 0, none⟩)) (hK.out _ _ ⟨PUT ha 0 hb, HM⟩)
     refine SY ?_ ?_
     ·intro b a w ha HM hb hon hoff K hK
      obtain ⟨_,_,_,_,_,_,_,_,_,_⟩ := bk5 (HM.bx 0 rfl)
      have e6 := PE ha 0 hon
      exact VL (.int .i64 a0_0) (hK.out _ _ ⟨PUT ha 1 hb, HM⟩)
     refine SY ?_ ?_
     ·intro b a w ha HM hb hon hoff K hK
      have e7 := PE ha 1 hon
      refine ST (eC (some 8) rfl #[.int .i64 a0_0, .int .i64 1, .int .i64 60] rfl Tryz.func24 (impl_within.calls a0_0 1 60 true _ A4.out) ?_ (hargs := by (simp only [List.map_toArray, List.map_cons, List.map_nil, evc, eval_of e7]) <;> rfl))
      rintro e w30 ⟨rfl, hd⟩
      refine ⟨_, rfl, ?_⟩
      replace HM := HM.drawn hd
      clear hd
      exact hK.out _ _ ⟨PUT ha 2 hb, (HM).pick [0]⟩
     refine SY ?_ ?_
     ·intro b a w ha HM hb hon hoff K hK
      have e8 := PE ha 2 hon
      exact VL (.bool (!true)) (hK.out _ _ ⟨PUT ha 3 hb, HM⟩)
     refine SY ?_ ?_
     ·intro b a w ha HM hb hon hoff K hK
      have e9 := PE ha 3 hon
      exact VL (.bool (!true)) (hK.out _ _ ⟨PUT ha 4 hb, HM⟩)
     refine SY ?_ ?_
     ·intro b a w ha HM hb hon hoff K hK
      have e1 := PG ha 1
      have e10 := PE ha 4 hon
      exact VL (.pointer (some ⟨gb609, 1, none⟩)) (hK.out _ _ ⟨PUT ha 5 hb, HM⟩) (hw := wanted_on rfl rfl rfl (e10.trans (by first | rfl | (simp [*]; done))))
     refine SY ?_ ?_
     ·intro b a w ha HM hb hon hoff K hK
      obtain ⟨_,_,_,_,_,_,_,_,_,_⟩ := bk5 (HM.bx 0 rfl)
      have e11 := PE ha 5 hon
      have e10 := PE ha 4 hon
      exact VL (.int .i64 a0_1) (hK.out _ _ ⟨PUT ha 6 hb, HM⟩) (hw := wanted_on rfl rfl rfl (e10.trans (by first | rfl | (simp [*]; done))))
     refine SY ?_ ?_
     ·intro b a w ha HM hb hon hoff K hK
      have e1 := PG ha 1
      have e10 := PE ha 4 hon
      exact VL (.pointer (some ⟨gb609, 0, none⟩)) (hK.out _ _ ⟨PUT ha 7 hb, HM⟩) (hw := wanted_on rfl rfl rfl (e10.trans (by first | rfl | (simp [*]; done))))
     refine SY ?_ ?_
     ·intro b a w ha HM hb hon hoff K hK
      obtain ⟨_,_,_,_,_,_,_,_,_,_⟩ := bk5 (HM.bx 0 rfl)
      have e13 := PE ha 7 hon
      have e10 := PE ha 4 hon
      exact VL (.int .i64 a0_0) (hK.out _ _ ⟨PUT ha 8 hb, HM⟩) (hw := wanted_on rfl rfl rfl (e10.trans (by first | rfl | (simp [*]; done))))
     refine SY ?_ ?_
     ·intro b a w ha HM hb hon hoff K hK
      have e12 := PE ha 6 hon
      have e14 := PE ha 8 hon
      have e10 := PE ha 4 hon
      refine ST (eC (some 15) rfl #[.int .i64 a0_1, .int .i64 1, .int .i64 a0_0] rfl Tryz.func24 (impl_within.calls a0_1 1 a0_0 false _ A6.out) ?_ (hargs := by (simp only [List.map_toArray, List.map_cons, List.map_nil, evc, eval_of e12, eval_of e14]) <;> rfl)) (hw := wanted_on rfl rfl rfl (e10.trans (by first | rfl | (simp [*]; done))))
      rintro e w33 ⟨rfl, hd⟩
      refine ⟨_, rfl, ?_⟩
      replace HM := HM.drawn hd
      clear hd
      exact hK.out _ _ ⟨PUT ha 9 hb, (HM).pick [0]⟩
     refine SY ?_ ?_
     ·intro b a w ha HM hb hon hoff K hK
      have e15 := PE ha 9 hon
      have e10 := PE ha 4 hon
      exact VL (.bool (!false)) (hK.out _ _ ⟨PUT ha 10 hb, HM⟩) (hw := wanted_on rfl rfl rfl (e10.trans (by first | rfl | (simp [*]; done))))
     refine SY ?_ ?_
     ·intro b a w ha HM hb hon hoff K hK
      have e10 := PE ha 4 hon
      have e16 := PE ha 10 hon
      exact VL (.bool (!false)) (hK.out _ _ ⟨PUT ha 11 hb, HM⟩)
     refine SY ?_ ?_
     ·intro b a w ha HM hb hon hoff K hK
      have e17 := PE ha 11 hon
      exact VL (.bool (!false)) (hK.out _ _ ⟨PUT ha 12 hb, HM⟩)
     refine SY ?_ ?_
     ·intro b a w ha HM hb hon hoff K hK
      have e18 := PE ha 12 hon
      exact VN ( wanted_off rfl rfl rfl (e18.trans (by first | rfl | (simp [*]; done)))) (hK.out _ _ ⟨PUT ha 13 hb, HM⟩)
     refine SY ?_ ?_
     ·intro b a w ha HM hb hon hoff K hK
      have e18 := PE ha 12 hon
      exact VN ( wanted_off rfl rfl rfl (e18.trans (by first | rfl | (simp [*]; done)))) (hK.out _ _ ⟨PUT ha 14 hb, HM⟩)
     refine SY ?_ ?_
     ·intro b a w ha HM hb hon hoff K hK
      have e18 := PE ha 12 hon
      exact VN ( wanted_off rfl rfl rfl (e18.trans (by first | rfl | (simp [*]; done)))) (hK.out _ _ ⟨PUT ha 15 hb, HM⟩)
     refine SY ?_ ?_
     ·intro b a w ha HM hb hon hoff K hK
      have e18 := PE ha 12 hon
      exact VN ( wanted_off rfl rfl rfl (e18.trans (by first | rfl | (simp [*]; done)))) (hK.out _ _ ⟨PUT ha 16 hb, HM⟩)
     refine SY ?_ ?_
     ·intro b a w ha HM hb hon hoff K hK
      have e18 := PE ha 12 hon
      exact VN ( wanted_off rfl rfl rfl (e18.trans (by first | rfl | (simp [*]; done)))) (hK.out _ _ ⟨PUT ha 17 hb, HM⟩)
     refine SY ?_ ?_
     ·intro b a w ha HM hb hon hoff K hK
      have e18 := PE ha 12 hon
      have e23 := PE ha 17 hon
      exact VL (.bool true) (hK.out _ _ ⟨PUT ha 18 hb, HM⟩)
     exact steps_nil
    rintro _ w34 ⟨rfl, HM⟩
    simp only [putSel, if_true, Act.put, List.setIfInBounds_toArray, List.set_cons_zero, List.set_cons_succ, gt_iff_lt, ge_iff_le]
    have H' := Aside0.mk H
    clear H
    go_wp2
    go_meet
    case rel => exact ⟨_, (true), RS, H', ⟨by first | omega | exact Nat.le_refl _⟩, (MD HM).pick [0]⟩
  ·subst c5
   refine RGN 19 [0, 1, 2, 3, 4, 5, 6, 7, 8, 9, 10, 11, 12, 13, 14, 15, 16, 17, 18] (fun a0 b a w' => a = putSel a0 b [(0, 6, .pointer (some ⟨gb609, 0, none⟩)), (1, 7, .int .i64 a0_0), (2, 8, .bool false), (3, 9, .bool (!false)), (4, 10, .bool (!false)), (5, 11, undef), (6, 12, undef), (7, 13, undef), (8, 14, undef), (9, 15, undef), (10, 16, undef), (11, 17, .bool true), (12, 18, .bool true), (13, 19, undef), (14, 20, undef), (15, 21, undef), (16, 22, undef), (17, 23, undef), (18, 24, .bool true)] ∧ Mem w [] w' [box 26 gb609 [.int .i64 a0_0, .int .i64 a0_1, .slice A0_2 l0_2.length c0_2, .slice A0_3 l0_3.length c0_3, .slice A0_4 l0_4.length c0_4]]) impl_ThreeOk.tab1 impl_ThreeOk.bits1 ?_ ?_ ?_
   ·exact ⟨PS0' rfl _, (HM.drew).pick [0]⟩
   ·clear HM
    refine SY ?_ ?_
    ·intro b a w ha HM hb hon hoff K hK
     have e1 := PG ha 1
     exact VL (.pointer (some ⟨gb609, 0, none⟩)) (hK.out _ _ ⟨PUT ha 0 hb, HM⟩)
    refine SY ?_ ?_
    ·intro b a w ha HM hb hon hoff K hK
     obtain ⟨_,_,_,_,_,_,_,_,_,_⟩ := bk5 (HM.bx 0 rfl)
     have e6 := PE ha 0 hon
     exact VL (.int .i64 a0_0) (hK.out _ _ ⟨PUT ha 1 hb, HM⟩)
    refine SY ?_ ?_
    ·intro b a w ha HM hb hon hoff K hK
     have e7 := PE ha 1 hon
     refine ST (eC (some 8) rfl #[.int .i64 a0_0, .int .i64 1, .int .i64 60] rfl Tryz.func24 (impl_within.calls a0_0 1 60 false _ A4.out) ?_ (hargs := by (simp only [List.map_toArray, List.map_cons, List.map_nil, evc, eval_of e7]) <;> rfl))
     rintro e w38 ⟨rfl, hd⟩
     refine ⟨_, rfl, ?_⟩
     replace HM := HM.drawn hd
     clear hd
     exact hK.out _ _ ⟨PUT ha 2 hb, (HM).pick [0]⟩
    refine SY ?_ ?_
    ·intro b a w ha HM hb hon hoff K hK
     have e8 := PE ha 2 hon
     exact VL (.bool (!false)) (hK.out _ _ ⟨PUT ha 3 hb, HM⟩)
    refine SY ?_ ?_
    ·intro b a w ha HM hb hon hoff K hK
     have e9 := PE ha 3 hon
     exact VL (.bool (!false)) (hK.out _ _ ⟨PUT ha 4 hb, HM⟩)
    refine SY ?_ ?_
    ·intro b a w ha HM hb hon hoff K hK
     have e10 := PE ha 4 hon
     exact VN ( wanted_off rfl rfl rfl (e10.trans (by first | rfl | (simp [*]; done)))) (hK.out _ _ ⟨PUT ha 5 hb, HM⟩)
    refine SY ?_ ?_
    ·intro b a w ha HM hb hon hoff K hK
     have e10 := PE ha 4 hon
     exact VN ( wanted_off rfl rfl rfl (e10.trans (by first | rfl | (simp [*]; done)))) (hK.out _ _ ⟨PUT ha 6 hb, HM⟩)
    refine SY ?_ ?_
    ·intro b a w ha HM hb hon hoff K hK
     have e10 := PE ha 4 hon
     exact VN ( wanted_off rfl rfl rfl (e10.trans (by first | rfl | (simp [*]; done)))) (hK.out _ _ ⟨PUT ha 7 hb, HM⟩)
    refine SY ?_ ?_
    ·intro b a w ha HM hb hon hoff K hK
     have e10 := PE ha 4 hon
     exact VN ( wanted_off rfl rfl rfl (e10.trans (by first | rfl | (simp [*]; done)))) (hK.out _ _ ⟨PUT ha 8 hb, HM⟩)
    refine SY ?_ ?_
    ·intro b a w ha HM hb hon hoff K hK
     have e10 := PE ha 4 hon
     exact VN ( wanted_off rfl rfl rfl (e10.trans (by first | rfl | (simp [*]; done)))) (hK.out _ _ ⟨PUT ha 9 hb, HM⟩)
    refine SY ?_ ?_
    ·intro b a w ha HM hb hon hoff K hK
     have e10 := PE ha 4 hon
     exact VN ( wanted_off rfl rfl rfl (e10.trans (by first | rfl | (simp [*]; done)))) (hK.out _ _ ⟨PUT ha 10 hb, HM⟩)
    refine SY ?_ ?_
    ·intro b a w ha HM hb hon hoff K hK
     have e10 := PE ha 4 hon
     have e16 := PE ha 10 hon
     exact VL (.bool true) (hK.out _ _ ⟨PUT ha 11 hb, HM⟩)
    refine SY ?_ ?_
    ·intro b a w ha HM hb hon hoff K hK
     have e17 := PE ha 11 hon
     exact VL (.bool true) (hK.out _ _ ⟨PUT ha 12 hb, HM⟩)
    refine SY ?_ ?_
    ·intro b a w ha HM hb hon hoff K hK
     have e18 := PE ha 12 hon
     exact VN ( wanted_off rfl rfl rfl (e18.trans (by first | rfl | (simp [*]; done)))) (hK.out _ _ ⟨PUT ha 13 hb, HM⟩)
    refine SY ?_ ?_
    ·intro b a w ha HM hb hon hoff K hK
     have e18 := PE ha 12 hon
     exact VN ( wanted_off rfl rfl rfl (e18.trans (by first | rfl | (simp [*]; done)))) (hK.out _ _ ⟨PUT ha 14 hb, HM⟩)
    refine SY ?_ ?_
    ·intro b a w ha HM hb hon hoff K hK
     have e18 := PE ha 12 hon
     exact VN ( wanted_off rfl rfl rfl (e18.trans (by first | rfl | (simp [*]; done)))) (hK.out _ _ ⟨PUT ha 15 hb, HM⟩)
    refine SY ?_ ?_
    ·intro b a w ha HM hb hon hoff K hK
     have e18 := PE ha 12 hon
     exact VN ( wanted_off rfl rfl rfl (e18.trans (by first | rfl | (simp [*]; done)))) (hK.out _ _ ⟨PUT ha 16 hb, HM⟩)
    refine SY ?_ ?_
    ·intro b a w ha HM hb hon hoff K hK
     have e18 := PE ha 12 hon
     exact VN ( wanted_off rfl rfl rfl (e18.trans (by first | rfl | (simp [*]; done)))) (hK.out _ _ ⟨PUT ha 17 hb, HM⟩)
    refine SY ?_ ?_
    ·intro b a w ha HM hb hon hoff K hK
     have e18 := PE ha 12 hon
     have e23 := PE ha 17 hon
     exact VL (.bool true) (hK.out _ _ ⟨PUT ha 18 hb, HM⟩)
    exact steps_nil
   rintro _ w39 ⟨rfl, HM⟩
   simp only [putSel, if_true, Act.put, List.setIfInBounds_toArray, List.set_cons_zero, List.set_cons_succ, gt_iff_lt, ge_iff_le]
   have H' := Aside0.mk H
   clear H
   go_wp2
   go_meet
   case rel => exact ⟨_, (true), RS, H', ⟨by first | omega | exact Nat.le_refl _⟩, (MD HM).pick [0]⟩
 case rest =>
  clear HC3 HM
  obtain ⟨kq, x24_2, rfl, HA, HJ2, HM⟩ := hcut
  cases kq with
  | zero => exact absurd HA.out (by simp [impl_ThreeOk.j0])
  | succ kj2 =>
   have H := HA.out
   clear HA
   simp only [impl_ThreeOk.j0] at H
   go_upto_if 24 with (fail)
   replace H := IB H
   rcases H with ⟨c40, H⟩ | ⟨c40, H⟩
   ·subst c40
    obtain rfl := Option.some.inj H
    go_wp2
    go_ret
    exact ⟨ER, (MD HM).pick []⟩
   ·subst c40
    have H' := Aside0.mk H
    clear H
    obtain ⟨_,_,_,_,_,_,_,_,_,_⟩ := bk5 (HM.bx 0 rfl)
    go_wp2
    go_loopg [28] kj2 (fun kq v28 w' => ∃ (x28_2 : Int), v28 = .int .i64 x28_2 ∧ Aside0 (impl_ThreeOk.l0 kq l0_4 (l0_4.length : Int) x28_2 a0_0 a0_1 l0_2 l0_3 l0_4 = some r) ∧ Aside0 (kq ≤ kj2) ∧ Mem w [] w' [box 26 gb609 [.int .i64 a0_0, .int .i64 a0_1, .slice A0_2 l0_2.length c0_2, .slice A0_3 l0_3.length c0_3, .slice A0_4 l0_4.length c0_4]])
    case atStart => exact ⟨(0), RS, H', ⟨Nat.le_refl _⟩, (MD HM).pick [0]⟩
    case round =>
     clear H' HM
     obtain ⟨x28_2, rfl, HA, HK2, HM⟩ := hrel
     cases gk with
     | zero => exact absurd HA.out (by simp [impl_ThreeOk.l0])
     | succ k2 =>
      have H := HA.out
      clear HA
      simp only [impl_ThreeOk.l0] at H
      go_upto_if 29 with (fail)
      replace H := IT H; rcases H with ⟨c42, H⟩ | ⟨c42, H⟩
      ·have c42b0 := decide_eq_true c42
       clear c42
       first|rw [c42b0]|(simp only [i64_w, i32_w]; rw [c42b0])|skip
       replace H := GD H; obtain ⟨c43, H⟩ := H
       have c43b0 := decide_eq_true c43
       clear c43
       replace H := GD H; obtain ⟨c44, H⟩ := H
       have c44b0 := decide_eq_true c44
       clear c44
       replace H := BN H; obtain ⟨t621, A45, H⟩ := H
       replace H := IB H
       rcases H with ⟨c47, H⟩ | ⟨c47, H⟩
       ·subst c47
        have c49b0 := eq_true (of_decide_eq_true AS : 0 ≤ x28_2)
        replace H := GD H; obtain ⟨c50, H⟩ := H
        have c50b0 := eq_true c50
        have c50b1 : decide (x28_2 ≤ (l0_4.length : Int)) = true := decide_eq_true c50
        clear c50
        replace H := BN H; obtain ⟨t623, A52, H⟩ := H
        have p620 : 0 ≤ (x28_2 : Int) := of_decide_eq_true AS
        have q620 : (x28_2 : Int) < (l0_4.length : Int) := of_decide_eq_true AS
        obtain ⟨ad620, e620, hx620_0⟩ := Kd.at_int (HM.came HR0_4.out) x28_2 p620 q620
        cases e620
        replace p620 := eq_true p620
        replace q620 := eq_true q620
        go_upto_if 43 with (first | ((with_reducible refine gC 26 rfl ?_); refine pC (some 34) rfl #[.int .i64 (rd l0_4 x28_2)] rfl Tryz.func26 (impl_isNum.calls (rd l0_4 x28_2) true _ A45.out) ?_; rintro e w46 ⟨rfl, hd⟩; refine ⟨_, rfl, ?_⟩; replace HM := HM.drawn hd; clear hd; obtain ⟨_,_,_,_,_,_,_,_,_,_⟩ := bk5 (HM.bx 0 rfl)) | ((with_reducible refine gate_sl (t := 24) rfl ?_); refine pRtf 24 3 (Kd.int .i64) _ _ x28_2 l0_4 (some ad620) c0_4 rfl Tryz.underlying24 info3 HC0_4.out (of_decide_eq_true AS) (of_decide_eq_true AS) ?_; intro Yx51 bx51 hYx51 hbx51; have HYx51 := Aside0.mk hYx51; have HBx51 := Aside0.mk hbx51; clear hYx51 hbx51; have hlx51 : (l0_4.take (x28_2 : Int).toNat).length = (x28_2 : Int).toNat := by rw [List.length_take]; have h_ : (x28_2 : Int) ≤ ((l0_4.length : Int) : Int) := of_decide_eq_true AS; omega) | ((with_reducible refine gC 27 rfl ?_); refine pC (some 42) rfl #[.slice Yx51 (l0_4.take (x28_2 : Int).toNat).length bx51, .int .i64 (rd l0_4 x28_2)] rfl Tryz.func27 (slices_Contains_int_int.calls k2 _ _ (l0_4.take (x28_2 : Int).toNat) (rd l0_4 x28_2) t623 _ (HYx51.out _ (HM.came HR0_4.out)) HBx51.out A52.out) ?_ (hargs := by (try simp only [List.map_toArray, List.map_cons, List.map_nil]); first | done | rfl | (rw [hlx51]; rfl) | (simp only [List.length_take]; rfl)); rintro e w53 ⟨rfl, hd⟩; refine ⟨_, rfl, ?_⟩; replace HM := HM.drawn hd; clear hd))
        replace H := IB H
        rcases H with ⟨c54, H⟩ | ⟨c54, H⟩
        ·subst c54
         obtain rfl := Option.some.inj H
         go_wp2
         go_ret
         exact ⟨ER, (MD HM).pick []⟩
        ·subst c54
         have H' := Aside0.mk H
         clear H
         go_wp2
         go_roundg k2
         case measure => have := HJ2.out; have := HK2.out; omega
         case rel => exact ⟨(wrap64 (x28_2 + 1)), RS, H', ⟨by have := HJ2.out; have := HK2.out; omega⟩, (MD HM).pick [0]⟩
       ·subst c47
        obtain rfl := Option.some.inj H
        have p620 : 0 ≤ (x28_2 : Int) := of_decide_eq_true AS
        have q620 : (x28_2 : Int) < (l0_4.length : Int) := of_decide_eq_true AS
        obtain ⟨ad620, e620, hx620_0⟩ := Kd.at_int (HM.came HR0_4.out) x28_2 p620 q620
        cases e620
        replace p620 := eq_true p620
        replace q620 := eq_true q620
        go_wp2_with (first | ((with_reducible refine gC 26 rfl ?_); refine pC (some 34) rfl #[.int .i64 (rd l0_4 x28_2)] rfl Tryz.func26 (impl_isNum.calls (rd l0_4 x28_2) false _ A45.out) ?_; rintro e w46 ⟨rfl, hd⟩; refine ⟨_, rfl, ?_⟩; replace HM := HM.drawn hd; clear hd))
        go_ret
        exact ⟨ER, (MD HM).pick []⟩
      ·have c42b0 := decide_eq_false c42
       clear c42
       first|rw [c42b0]|(simp only [i64_w, i32_w]; rw [c42b0])|skip
       try go_wp2
       replace H := BN H; obtain ⟨t613, A55, H⟩ := H
       replace H := GD H; obtain ⟨c56, H⟩ := H
       have LMc56 := Aside0.mk c56
       clear c56
       replace H := BLt H; obtain ⟨y616, Ny616, H⟩ := H
       replace Ny616 := Aside0.mk Ny616
       refine RGN 7 [0, 1, 2, 3, 4, 5, 6] (fun a0 b a w' => ∃ (v614 : Value) (v617 : Value), a = putSel a0 b [(0, 45, .pointer (some ⟨gb609, 2, none⟩)), (1, 46, .slice A0_2 l0_2.length c0_2), (2, 47, v614), (3, 48, .pointer (some ⟨gb609, 3, none⟩)), (4, 49, .slice A0_3 l0_3.length c0_3), (5, 50, v617), (6, 5, v617)] ∧ Mem w [] w' [box 26 gb609 [.int .i64 a0_0, .int .i64 a0_1, .slice A0_2 l0_2.length c0_2, .slice A0_3 l0_3.length c0_3, .slice A0_4 l0_4.length c0_4], sel (b 5) (rowR k60 60 v617 y616) (sel (b 2) (rowR k60 60 v614 t613) (emp))]) impl_ThreeOk.tab9 impl_ThreeOk.bits9 ?_ ?_ ?_
       ·exact ⟨.bool false, .bool false, PS0' rfl _, (HM.drew.ems 1).pick [0, 1]⟩
       ·clear HM
        refine SZ ?_ ?_
        ·rintro b a w ⟨v614, v617, ha, HM⟩ hb hon hoff K hK
         replace ha := Aside0.mk ha
         have e1 := PG ha 1
         exact VL (.pointer (some ⟨gb609, 2, none⟩)) (hK.out _ _ ⟨v614, v617, PUT ha 0 hb, HM⟩)
        refine SZ ?_ ?_
        ·rintro b a w ⟨v614, v617, ha, HM⟩ hb hon hoff K hK
         replace ha := Aside0.mk ha
         obtain ⟨_,_,_,_,_,_,_,_,_,_⟩ := bk5 (HM.bx 0 rfl)
         have e45 := PE ha 0 hon
         exact VL (.slice A0_2 l0_2.length c0_2) (hK.out _ _ ⟨v614, v617, PUT ha 1 hb, HM⟩)
        refine SZ ?_ ?_
        ·rintro b a w ⟨v614, v617, ha, HM⟩ hb hon hoff K hK
         replace ha := Aside0.mk ha
         have e46 := PE ha 1 hon
         refine ST (eC (some 47) rfl #[.slice A0_2 l0_2.length c0_2] rfl Tryz.func28 (impl_copyItems.calls _ _ l0_2 t613 _ (HM.came HR0_2.out) HC0_2.out A55.out) ?_ (hargs := by (simp only [List.map_toArray, List.map_cons, List.map_nil, evc, eval_of e46]) <;> rfl))
         rintro e w62 ⟨v614, rfl, hR⟩
         refine ⟨_, rfl, ?_⟩
         replace HM := HM.call hR
         clear hR
         exact hK.out _ _ ⟨v614, v617, PUT ha 2 hb, (HM.iF 2 rfl (hoff 5 rfl)).pick [0, 2]⟩
        refine SZ ?_ ?_
        ·rintro b a w ⟨v614, v617, ha, HM⟩ hb hon hoff K hK
         replace ha := Aside0.mk ha
         have e1 := PG ha 1
         exact VL (.pointer (some ⟨gb609, 3, none⟩)) (hK.out _ _ ⟨v614, v617, PUT ha 3 hb, HM⟩)
        refine SZ ?_ ?_
        ·rintro b a w ⟨v614, v617, ha, HM⟩ hb hon hoff K hK
         replace ha := Aside0.mk ha
         obtain ⟨_,_,_,_,_,_,_,_,_,_⟩ := bk5 (HM.bx 0 rfl)
         have e48 := PE ha 3 hon
         exact VL (.slice A0_3 l0_3.length c0_3) (hK.out _ _ ⟨v614, v617, PUT ha 4 hb, HM⟩)
        refine SZ ?_ ?_
        ·rintro b a w ⟨v614, v617, ha, HM⟩ hb hon hoff K hK
         replace ha := Aside0.mk ha
         replace HM := (HM.sF 1 rfl hb).sT 1 rfl (hon 2 rfl)
         have e47 := PE ha 2 hon
         have e49 := PE ha 4 hon
         refine ST (eA 1 (.tmp 47) (.tmp 49) 23 60 k60 v614 t613 l0_3 A0_3 l0_3.length c0_3 HM rfl Tryz.underlying23 info60 rfl (HM.came HR0_3.out) (by have h_ := LMc56.out; omega) ?_ (ops := #[]) (hw := by rfl) (hs := (eval_of e47)) (hx := (eval_of e49)))
         clear HM
         intro v617 w64 HM
         replace HM := HM.nm 1 rfl Ny616.out
         exact hK.out _ _ ⟨v614, v617, PUT (PCH ha 6 (hoff 6 rfl)) 5 hb, (HM).pick [0, 1]⟩
        refine SZ ?_ ?_
        ·rintro b a w ⟨v614, v617, ha, HM⟩ hb hon hoff K hK
         replace ha := Aside0.mk ha
         have e50 := PE ha 5 hon
         exact VL (v617) (hK.out _ _ ⟨v614, v617, PUT ha 6 hb, HM⟩)
        exact steps_nil
       rintro _ w65 ⟨v614, v617, rfl, HM⟩
       replace HM := HM.sT 1 rfl rfl
       simp only [putSel, if_true, Act.put, List.setIfInBounds_toArray, List.set_cons_zero, List.set_cons_succ, gt_iff_lt, ge_iff_le]
       replace H := IT H; rcases H with ⟨c68, H⟩ | ⟨c68, H⟩
       ·have c68b0 := decide_eq_true c68
        clear c68
        replace H := BN H; obtain ⟨t619, A69, H⟩ := H
        obtain rfl := Option.some.inj H
        obtain ⟨Xo66, ko66, rfl⟩ := HM.rdR 1 rfl
        obtain ⟨_,_,_,_,_,_,_,_,_,_⟩ := bk5 (HM.bx 0 rfl)
        go_wp2_with (first | ((with_reducible refine gC 29 rfl ?_); refine pC (some 58) rfl #[.slice Xo66 y616.length ko66] rfl Tryz.func29 (impl_areItems.calls k2 _ _ y616 t619 _ (HM.CR 1 rfl).2.2 (HM.CR 1 rfl).2.1 A69.out) ?_; rintro e w70 ⟨rfl, hR⟩; refine ⟨_, rfl, ?_⟩; replace HM := HM.call hR; clear hR))
        go_ret
        exact ⟨ER, (MD HM).pick []⟩
       ·have c68b0 := decide_eq_false c68
        clear c68
        obtain rfl := Option.some.inj H
        obtain ⟨Xo66, ko66, rfl⟩ := HM.rdR 1 rfl
        obtain ⟨_,_,_,_,_,_,_,_,_,_⟩ := bk5 (HM.bx 0 rfl)
        go_wp2
        go_ret
        exact ⟨ER, (MD HM).pick []⟩
def impl_split.l0 : Nat → ByteArray → Int → List ByteArray → Int → Int → Option (List ByteArray)
 | 0, _, _, _, _, _ => none
 | k + 1, x0, x1, x5, x6, x7 => if x7 < (x0.size : Int) then (if 0 ≤ x7 then (if (bt x0 x7) = x1 then (if 0 ≤ x6 then (if x6 ≤ x7 then (if x7 ≤ (x0.size : Int) then (if x5.length < 8796093022208 then (impl_split.l0 k x0 x1 (x5 ++ [x0.extract (x6 : Int).toNat (x7 : Int).toNat]) (wrap64 (x7 + 1)) (wrap64 (x7 + 1))) else (none)) else (none)) else (none)) else (none)) else (impl_split.l0 k x0 x1 x5 x6 (wrap64 (x7 + 1)))) else (none)) else (if 0 ≤ x6 then (if x6 ≤ (x0.size : Int) then (if x5.length < 8796093022208 then (some (x5 ++ [x0.extract (x6 : Int).toNat x0.size])) else (none)) else (none)) else (none))
def impl_split.f (k : Nat) (a0 : ByteArray) (a1 : Int) : Option (List ByteArray) := impl_split.l0 k a0 a1 (([] : List ByteArray)) 0 0
theorem impl_split.calls (k : Nat) (a0 : ByteArray) (a1 : Int) (r : List ByteArray) (w : World)  (h : impl_split.f k a0 a1 = some r) :
  Calls Tryz.prog 33 #[.string a0, .int .u8 a1] w fun e w' => ∃ v0_ : Value, e = .returned (v0_) ∧ Mem w [] w' [rowR Kd.string 9 v0_ r] := by
 have HM := Mem.nil w
 have H := h
 clear h
 unfold impl_split.f at H
 go_enter Tryz.func33, Tryz.ntmps33
 have H' := Aside0.mk H
 clear H
 go_wp2_with (first | ((with_reducible refine gN 8 rfl ?_); refine pL 8 Kd.string 9 ([] : List ByteArray) [] (Reps.none _ _) HM rfl ?_; clear HM; intro v625 w3 HM))
 go_loopg [5, 6, 7] k (fun kq v5 v6 v7 w' => ∃ (x5_1 : List ByteArray) (x6_1 : Int) (x7_1 : Int), v6 = .int .i64 x6_1 ∧ v7 = .int .i64 x7_1 ∧ Aside0 (impl_split.l0 kq a0 a1 x5_1 x6_1 x7_1 = some r) ∧ Aside0 (kq ≤ k) ∧ Mem w [] w' [rowR Kd.string 9 v5 x5_1])
 case atStart => exact ⟨((([] : List ByteArray))), (0), (0), RS, RS, H', ⟨Nat.le_refl _⟩, (MD HM).pick [0]⟩
 case round =>
  clear H' HM
  obtain ⟨x5_1, x6_1, x7_1, rfl, rfl, HA, HK1, HM⟩ := hrel
  cases gk with
  | zero => exact absurd HA.out (by simp [impl_split.l0])
  | succ k1 =>
   have H := HA.out
   clear HA
   simp only [impl_split.l0] at H
   go_upto_if 12 with (fail)
   replace H := IT H; rcases H with ⟨c4, H⟩ | ⟨c4, H⟩
   ·have c4b0 := decide_eq_true c4
    clear c4
    first|rw [c4b0]|(simp only [i64_w, i32_w]; rw [c4b0])|skip
    replace H := GD H; obtain ⟨c5, H⟩ := H
    have c5b0 := decide_eq_true c5
    clear c5
    have p6 : 0 ≤ (x7_1 : Int) := of_decide_eq_true AS
    have q6 : x7_1 < (a0.size : Int) := of_decide_eq_true AS
    have hx6 := bt_at a0 x7_1
    replace p6 := eq_true p6
    replace q6 := eq_true q6
    go_upto_if 19 with (fail)
    replace H := IT H; rcases H with ⟨c7, H⟩ | ⟨c7, H⟩
    ·obtain ⟨c7b0, c7b1⟩ := BE c7
     clear c7
     first|rw [c7b0]|(simp only [i64_w, i32_w]; rw [c7b0])|skip
     replace H := GD H; obtain ⟨c8, H⟩ := H
     have c8b0 := eq_true c8
     have c8b1 : decide (0 ≤ x6_1) = true := decide_eq_true c8
     clear c8
     replace H := GD H; obtain ⟨c9, H⟩ := H
     have c9b0 := eq_true c9
     have c9b1 : decide (x6_1 ≤ x7_1) = true := decide_eq_true c9
     clear c9
     replace H := GD H; obtain ⟨c10, H⟩ := H
     have c10b0 := eq_true c10
     have c10b1 : decide (x7_1 ≤ (a0.size : Int)) = true := decide_eq_true c10
     clear c10
     replace H := GD H; obtain ⟨c11, H⟩ := H
     have LMc11 := Aside0.mk c11
     clear c11
     have H' := Aside0.mk H
     clear H
     go_wp2_with (first | ((with_reducible refine gN 25 rfl ?_); refine pL 25 Kd.string 9 [a0.extract (x6_1 : Int).toNat (x7_1 : Int).toNat] [.string (a0.extract (x6_1 : Int).toNat (x7_1 : Int).toNat)] (Reps.one (show Kd.M Kd.string _ _ _ (a0.extract (x6_1 : Int).toNat (x7_1 : Int).toNat) [.string (a0.extract (x6_1 : Int).toNat (x7_1 : Int).toNat)] from rfl) (Reps.none _ _)) HM rfl ?_; clear HM; intro v13 w12 HM; obtain ⟨Xv13, kv13, rfl⟩ := HM.rdR 1 rfl) | ((with_reducible refine gate_builtin (b := .append) (xs := #[.tmp 20, .tmp 25]) rfl ?_); refine pA 0 (.tmp 20) (.tmp 25) 71 9 Kd.string u5 x5_1 [a0.extract (x6_1 : Int).toNat (x7_1 : Int).toNat] Xv13 ([a0.extract (x6_1 : Int).toNat (x7_1 : Int).toNat].length) kv13 HM rfl Tryz.underlying71 info9 rfl (HM.CR 1 rfl).2.2 (by have h_ := LMc11.out; simp only [List.length_singleton]; omega) ?_; clear HM; intro v628 w14 HM))
     go_roundg k1
     case measure => have := HK1.out; omega
     case rel => exact ⟨((x5_1 ++ [a0.extract (x6_1 : Int).toNat (x7_1 : Int).toNat])), (wrap64 (x7_1 + 1)), (wrap64 (x7_1 + 1)), RS, RS, H', ⟨by have := HK1.out; omega⟩, (MD HM).pick [0]⟩
    ·obtain ⟨c7b0, c7b1⟩ := BF c7
     first|rw [c7b0]|(simp only [i64_w, i32_w]; rw [c7b0])|skip
     have H' := Aside0.mk H
     clear H
     go_wp2
     go_roundg k1
     case measure => have := HK1.out; omega
     case rel => exact ⟨(x5_1), (x6_1), (wrap64 (x7_1 + 1)), RS, RS, H', ⟨by have := HK1.out; omega⟩, (MD HM).pick [0]⟩
   ·have c4b0 := decide_eq_false c4
    clear c4
    first|rw [c4b0]|(simp only [i64_w, i32_w]; rw [c4b0])|skip
    replace H := GD H; obtain ⟨c15, H⟩ := H
    have c15b0 := eq_true c15
    have c15b1 : decide (0 ≤ x6_1) = true := decide_eq_true c15
    clear c15
    replace H := GD H; obtain ⟨c16, H⟩ := H
    have c16b0 := eq_true c16
    have c16b1 : decide (x6_1 ≤ (a0.size : Int)) = true := decide_eq_true c16
    clear c16
    replace H := GD H; obtain ⟨c17, H⟩ := H
    have LMc17 := Aside0.mk c17
    clear c17
    obtain rfl := Option.some.inj H
    go_wp2_with (first | ((with_reducible refine gN 33 rfl ?_); refine pL 33 Kd.string 9 [a0.extract (x6_1 : Int).toNat a0.size] [.string (a0.extract (x6_1 : Int).toNat a0.size)] (Reps.one (show Kd.M Kd.string _ _ _ (a0.extract (x6_1 : Int).toNat a0.size) [.string (a0.extract (x6_1 : Int).toNat a0.size)] from rfl) (Reps.none _ _)) HM rfl ?_; clear HM; intro v19 w18 HM; obtain ⟨Xv19, kv19, rfl⟩ := HM.rdR 1 rfl) | ((with_reducible refine gate_builtin (b := .append) (xs := #[.tmp 29, .tmp 33]) rfl ?_); refine pA 0 (.tmp 29) (.tmp 33) 71 9 Kd.string u5 x5_1 [a0.extract (x6_1 : Int).toNat a0.size] Xv19 ([a0.extract (x6_1 : Int).toNat a0.size].length) kv19 HM rfl Tryz.underlying71 info9 rfl (HM.CR 1 rfl).2.2 (by have h_ := LMc17.out; simp only [List.length_singleton]; omega) ?_; clear HM; intro v631 w20 HM))
    go_ret
    exact ⟨_, ER, (MD HM).pick [0]⟩
def impl_Cut.f (k : Nat) (a0 : ByteArray) : Option (List ByteArray) := (impl_split.f k a0 32).bind fun t633 => (some t633)
theorem impl_Cut.calls (k : Nat) (a0 : ByteArray) (r : List ByteArray) (w : World)  (h : impl_Cut.f k a0 = some r) :
  Calls Tryz.prog 53 #[.string a0] w fun e w' => ∃ v0_ : Value, e = .returned (v0_) ∧ Mem w [] w' [rowR Kd.string 9 v0_ r] := by
 have HM := Mem.nil w
 have H := h
 clear h
 unfold impl_Cut.f at H
 go_enter Tryz.func53, Tryz.ntmps53
 replace H := BN H; obtain ⟨t633, A2, H⟩ := H
 obtain rfl := Option.some.inj H
 go_wp2_with (first | ((with_reducible refine gC 33 rfl ?_); refine pC (some 4) rfl #[.string a0, .int .u8 32] rfl Tryz.func33 (impl_split.calls k a0 32 t633 _ A2.out) ?_; rintro e w3 ⟨v634, rfl, hR⟩; refine ⟨_, rfl, ?_⟩; replace HM := HM.call hR; clear hR))
 go_ret
 exact ⟨_, ER, (MD HM).pick [0]⟩
def impl_NumText.l0 : Nat → Int → ByteArray → Option (ByteArray)
 | 0, _, _ => none
 | k + 1, x0, x3 => if x0 > 9 then ((some (([(wrap64 (48 + (Int.tmod x0 10))) % 256] : List Int) : List Int)).bind fun y637 => (if (strOfNums y637).size + x3.size ≤ 9223372036854775807 then (impl_NumText.l0 k (wrap64 (Int.tdiv x0 10)) ((strOfNums y637) ++ x3)) else (none))) else ((some (([(wrap64 (48 + x0)) % 256] : List Int) : List Int)).bind fun y640 => (if (strOfNums y640).size + x3.size ≤ 9223372036854775807 then (some ((strOfNums y640) ++ x3)) else (none)))
def impl_NumText.f (k : Nat) (a0 : Int) : Option (ByteArray) := (impl_isNum.f a0).bind fun t636 => (if t636 = true then (impl_NumText.l0 k a0 (⟨#[]⟩ : ByteArray)) else (some (⟨#[]⟩ : ByteArray)))
theorem impl_NumText.calls (k : Nat) (a0 : Int) (r : ByteArray) (w : World)  (h : impl_NumText.f k a0 = some r) :
  Calls Tryz.prog 18 #[.int .i64 a0] w fun e w' => e = .returned (.string r) ∧ Mem w [] w' [] := by
 have HM := Mem.nil w
 have H := h
 clear h
 unfold impl_NumText.f at H
 go_enter Tryz.func18, Tryz.ntmps18
 replace H := BN H; obtain ⟨t636, A2, H⟩ := H
 go_upto_if 6 with (first | ((with_reducible refine gC 26 rfl ?_); refine pC (some 5) rfl #[.int .i64 a0] rfl Tryz.func26 (impl_isNum.calls a0 t636 _ A2.out) ?_; rintro e w3 ⟨rfl, hd⟩; refine ⟨_, rfl, ?_⟩; replace HM := HM.drawn hd; clear hd))
 replace H := IB H
 rcases H with ⟨c4, H⟩ | ⟨c4, H⟩
 ·subst c4
  have H' := Aside0.mk H
  clear H
  go_wp2
  go_loopg [0, 3] k (fun kq v0 v3 w' => ∃ (x0_1 : Int) (x3_1 : ByteArray), v0 = .int .i64 x0_1 ∧ v3 = .string x3_1 ∧ Aside0 (impl_NumText.l0 kq x0_1 x3_1 = some r) ∧ Aside0 (kq ≤ k) ∧ Mem w [] w' [])
  case atStart => exact ⟨(a0), ((⟨#[]⟩ : ByteArray)), RS, RS, H', ⟨Nat.le_refl _⟩, (MD HM).pick []⟩
  case round =>
   clear H' HM
   obtain ⟨x0_1, x3_1, rfl, rfl, HA, HK1, HM⟩ := hrel
   cases gk with
   | zero => exact absurd HA.out (by simp [impl_NumText.l0])
   | succ k1 =>
    have H := HA.out
    clear HA
    simp only [impl_NumText.l0] at H
    go_upto_if 8 with (fail)
    replace H := IT H; rcases H with ⟨c5, H⟩ | ⟨c5, H⟩
    ·have c5b0 : decide (9 < x0_1) = true := decide_eq_true c5
     clear c5
     first|rw [c5b0]|(simp only [i64_w, i32_w]; rw [c5b0])|skip
     replace H := BLt H; obtain ⟨y637, Ny637, H⟩ := H
     replace Ny637 := Aside0.mk Ny637
     replace H := GD H; obtain ⟨c8, H⟩ := H
     have c8b0 := eq_true c8
     have c8b1 : decide ((strOfNums y637).size + x3_1.size ≤ 9223372036854775807) = true := decide_eq_true c8
     try have c8b2 : (9223372036854775807 < (strOfNums y637).size + x3_1.size) = False := eq_false (Nat.not_lt.2 c8)
     have H' := Aside0.mk H
     clear H
     go_wp2_with (first | ((with_reducible refine gN 13 rfl ?_); refine pL 13 (Kd.int .u8) 5 ([(wrap64 (48 + (Int.tmod x0_1 10))) % 256] : List Int) [.int .u8 ((wrap64 (48 + (Int.tmod x0_1 10))) % 256)] (Reps.one (show Kd.M (Kd.int .u8) _ _ _ ((wrap64 (48 + (Int.tmod x0_1 10))) % 256) [.int .u8 ((wrap64 (48 + (Int.tmod x0_1 10))) % 256)] from rfl) (Reps.none _ _)) HM rfl ?_; clear HM; intro v638 w6 HM; replace HM := HM.nm 0 rfl Ny637.out; have hcv7 := HM.str 0 rfl Tryz.underlying22 Tryz.underlying5 Tryz.underlying9))
     go_roundg k1
     case measure => have := HK1.out; omega
     case rel => exact ⟨(wrap64 (Int.tdiv x0_1 10)), ((strOfNums y637) ++ x3_1), RS, RS, H', ⟨by have := HK1.out; omega⟩, (MD HM).pick []⟩
    ·have c5b0 : decide (9 < x0_1) = false := decide_eq_false c5
     clear c5
     first|rw [c5b0]|(simp only [i64_w, i32_w]; rw [c5b0])|skip
     replace H := BLt H; obtain ⟨y640, Ny640, H⟩ := H
     replace Ny640 := Aside0.mk Ny640
     replace H := GD H; obtain ⟨c11, H⟩ := H
     have c11b0 := eq_true c11
     have c11b1 : decide ((strOfNums y640).size + x3_1.size ≤ 9223372036854775807) = true := decide_eq_true c11
     try have c11b2 : (9223372036854775807 < (strOfNums y640).size + x3_1.size) = False := eq_false (Nat.not_lt.2 c11)
     obtain rfl := Option.some.inj H
     go_wp2_with (first | ((with_reducible refine gN 22 rfl ?_); refine pL 22 (Kd.int .u8) 5 ([(wrap64 (48 + x0_1)) % 256] : List Int) [.int .u8 ((wrap64 (48 + x0_1)) % 256)] (Reps.one (show Kd.M (Kd.int .u8) _ _ _ ((wrap64 (48 + x0_1)) % 256) [.int .u8 ((wrap64 (48 + x0_1)) % 256)] from rfl) (Reps.none _ _)) HM rfl ?_; clear HM; intro v641 w9 HM; replace HM := HM.nm 0 rfl Ny640.out; have hcv10 := HM.str 0 rfl Tryz.underlying22 Tryz.underlying5 Tryz.underlying9))
     go_ret
     exact ⟨ER, (MD HM).pick []⟩
 ·subst c4
  obtain rfl := Option.some.inj H
  go_wp2
  go_ret
  exact ⟨ER, (MD HM).pick []⟩
def impl_TextNum.l0 : Nat → ByteArray → Int → Int → Option (Int × Bool)
 | 0, _, _, _ => none
 | k + 1, x0, x4, x5 => if x5 < (x0.size : Int) then (if 0 ≤ x5 then (if (bt x0 x5) < 48 then (some (0, false)) else (if (bt x0 x5) > 57 then (some (0, false)) else (impl_TextNum.l0 k x0 (wrap64 ((wrap64 (10 * x4)) + (((bt x0 x5) - 48) % 256))) (wrap64 (x5 + 1))))) else (none)) else ((impl_NumText.f k x4).bind fun t644 => (if t644.toList = x0.toList then (some (x4, true)) else (some (0, false))))
def impl_TextNum.f (k : Nat) (a0 : ByteArray) : Option (Int × Bool) := (impl_within.f (a0.size : Int) 1 10).bind fun t643 => (if t643 = true then (impl_TextNum.l0 k a0 0 0) else (some (0, false)))
theorem impl_TextNum.calls (k : Nat) (a0 : ByteArray) (r1 : Int) (r2 : Bool) (w : World)  (h : impl_TextNum.f k a0 = some (r1, r2)) :
  Calls Tryz.prog 54 #[.string a0] w fun e w' => e = .returned (.tuple #[.int .i64 r1, .bool r2]) ∧ Mem w [] w' [] := by
 have HM := Mem.nil w
 have H := h
 clear h
 unfold impl_TextNum.f at H
 go_enter Tryz.func54, Tryz.ntmps54
 replace H := BN H; obtain ⟨t643, A2, H⟩ := H
 go_upto_if 9 with (first | ((with_reducible refine gC 24 rfl ?_); refine pC (some 8) rfl #[.int .i64 (a0.size : Int), .int .i64 1, .int .i64 10] rfl Tryz.func24 (impl_within.calls (a0.size : Int) 1 10 t643 _ A2.out) ?_; rintro e w3 ⟨rfl, hd⟩; refine ⟨_, rfl, ?_⟩; replace HM := HM.drawn hd; clear hd))
 replace H := IB H
 rcases H with ⟨c4, H⟩ | ⟨c4, H⟩
 ·subst c4
  have H' := Aside0.mk H
  clear H
  go_wp2
  go_loopg [4, 5] k (fun kq v4 v5 w' => ∃ (x4_1 : Int) (x5_1 : Int), v4 = .int .i64 x4_1 ∧ v5 = .int .i64 x5_1 ∧ Aside0 (impl_TextNum.l0 kq a0 x4_1 x5_1 = some (r1, r2)) ∧ Aside0 (kq ≤ k) ∧ Mem w [] w' [])
  case atStart => exact ⟨(0), (0), RS, RS, H', ⟨Nat.le_refl _⟩, (MD HM).pick []⟩
  case round =>
   clear H' HM
   obtain ⟨x4_1, x5_1, rfl, rfl, HA, HK1, HM⟩ := hrel
   cases gk with
   | zero => exact absurd HA.out (by simp [impl_TextNum.l0])
   | succ k1 =>
    have H := HA.out
    clear HA
    simp only [impl_TextNum.l0] at H
    go_upto_if 13 with (fail)
    replace H := IT H; rcases H with ⟨c5, H⟩ | ⟨c5, H⟩
    ·have c5b0 := decide_eq_true c5
     clear c5
     first|rw [c5b0]|(simp only [i64_w, i32_w]; rw [c5b0])|skip
     replace H := GD H; obtain ⟨c6, H⟩ := H
     have c6b0 := decide_eq_true c6
     clear c6
     replace H := IT H; rcases H with ⟨c8, H⟩ | ⟨c8, H⟩
     ·have c8b0 := decide_eq_true c8
      clear c8
      simp only [Option.some.injEq, Prod.mk.injEq] at H
      obtain ⟨rfl, rfl⟩ := H
      have p7 : 0 ≤ (x5_1 : Int) := of_decide_eq_true AS
      have q7 : x5_1 < (a0.size : Int) := of_decide_eq_true AS
      have hx7 := bt_at a0 x5_1
      replace p7 := eq_true p7
      replace q7 := eq_true q7
      go_wp2
      go_ret2
      exact ⟨ER, (MD HM).pick []⟩
     ·have c8b0 := decide_eq_false c8
      clear c8
      have p7 : 0 ≤ (x5_1 : Int) := of_decide_eq_true AS
      have q7 : x5_1 < (a0.size : Int) := of_decide_eq_true AS
      have hx7 := bt_at a0 x5_1
      replace p7 := eq_true p7
      replace q7 := eq_true q7
      have p9 : 0 ≤ (x5_1 : Int) := of_decide_eq_true AS
      have q9 : x5_1 < (a0.size : Int) := of_decide_eq_true AS
      have hx9 := bt_at a0 x5_1
      replace p9 := eq_true p9
      replace q9 := eq_true q9
      go_upto_if 25 with (fail)
      replace H := IT H; rcases H with ⟨c10, H⟩ | ⟨c10, H⟩
      ·have c10b0 : decide (57 < (bt a0 x5_1)) = true := decide_eq_true c10
       clear c10
       first|rw [c10b0]|(simp only [i64_w, i32_w]; rw [c10b0])|skip
       simp only [Option.some.injEq, Prod.mk.injEq] at H
       obtain ⟨rfl, rfl⟩ := H
       go_wp2
       go_ret2
       exact ⟨ER, (MD HM).pick []⟩
      ·have c10b0 : decide (57 < (bt a0 x5_1)) = false := decide_eq_false c10
       clear c10
       first|rw [c10b0]|(simp only [i64_w, i32_w]; rw [c10b0])|skip
       have H' := Aside0.mk H
       clear H
       have p11 : 0 ≤ (x5_1 : Int) := of_decide_eq_true AS
       have q11 : x5_1 < (a0.size : Int) := of_decide_eq_true AS
       have hx11 := bt_at a0 x5_1
       replace p11 := eq_true p11
       replace q11 := eq_true q11
       go_wp2
       go_roundg k1
       case measure => have := HK1.out; omega
       case rel => exact ⟨(wrap64 ((wrap64 (10 * x4_1)) + (((bt a0 x5_1) - 48) % 256))), (wrap64 (x5_1 + 1)), RS, RS, H', ⟨by have := HK1.out; omega⟩, (MD HM).pick []⟩
    ·have c5b0 := decide_eq_false c5
     clear c5
     first|rw [c5b0]|(simp only [i64_w, i32_w]; rw [c5b0])|skip
     replace H := BN H; obtain ⟨t644, A12, H⟩ := H
     go_upto_if 37 with (first | ((with_reducible refine gC 18 rfl ?_); refine pC (some 35) rfl #[.int .i64 x4_1] rfl Tryz.func18 (impl_NumText.calls k1 x4_1 t644 _ A12.out) ?_; rintro e w13 ⟨rfl, hR⟩; refine ⟨_, rfl, ?_⟩; replace HM := HM.call hR; clear hR))
     replace H := IT H; rcases H with ⟨c14, H⟩ | ⟨c14, H⟩
     ·obtain ⟨c14b0, c14b1⟩ := BE c14
      clear c14
      first|rw [c14b0]|(simp only [i64_w, i32_w]; rw [c14b0])|skip
      simp only [Option.some.injEq, Prod.mk.injEq] at H
      obtain ⟨rfl, rfl⟩ := H
      go_wp2
      go_ret2
      exact ⟨ER, (MD HM).pick []⟩
     ·obtain ⟨c14b0, c14b1⟩ := BF c14
      first|rw [c14b0]|(simp only [i64_w, i32_w]; rw [c14b0])|skip
      simp only [Option.some.injEq, Prod.mk.injEq] at H
      obtain ⟨rfl, rfl⟩ := H
      go_wp2
      go_ret2
      exact ⟨ER, (MD HM).pick []⟩
 ·subst c4
  simp only [Option.some.injEq, Prod.mk.injEq] at H
  obtain ⟨rfl, rfl⟩ := H
  go_wp2
  go_ret2
  exact ⟨ER, (MD HM).pick []⟩
def impl_numbers.l0 : Nat → ByteArray → List ByteArray → List Int → List ByteArray → Int → Int → Option (List Int × Bool)
 | 0, _, _, _, _, _, _ => none
 | k + 1, x1, x6, x7, x16, x17, x18 => if x18 < x17 then (if 0 ≤ x18 then (if x18 < (x16.length : Int) then ((impl_TextNum.f k (rdOf ByteArray.empty x16 x18)).bind fun bt656 => (if bt656.2 = true then (if x7.length < 17592186044416 then (impl_numbers.l0 k x1 x6 (x7 ++ [bt656.1]) x16 x17 (wrap64 (x18 + 1))) else (none)) else (some (([] : List Int), false)))) else (none)) else (none)) else (if 0 < (x6.length : Int) then (some (x7, ((rdOf ByteArray.empty x6 0).toList == x1.toList))) else (none))
def impl_numbers.f (k : Nat) (a0 : ByteArray) (a1 : ByteArray) : Option (List Int × Bool) := (impl_Cut.f k a0).bind fun t645 => (if 1 ≤ (t645.length : Int) then ((some (t645.tail : List ByteArray)).bind fun y651 => (impl_numbers.l0 k a1 t645 (([] : List Int)) y651 (y651.length : Int) 0)) else (none))
theorem impl_numbers.calls (k : Nat) (a0 : ByteArray) (a1 : ByteArray) (r1 : List Int) (r2 : Bool) (w : World)  (h : impl_numbers.f k a0 a1 = some (r1, r2)) :
  Calls Tryz.prog 34 #[.string a0, .string a1] w fun e w' => ∃ v0_ : Value, e = .returned (.tuple #[v0_, .bool r2]) ∧ Mem w [] w' [rowR (Kd.int .i64) 3 v0_ r1] := by
 have HM := Mem.nil w
 have H := h
 clear h
 unfold impl_numbers.f at H
 go_enter Tryz.func34, Tryz.ntmps34
 replace H := BN H; obtain ⟨t645, A3, H⟩ := H
 replace H := GD H; obtain ⟨c6, H⟩ := H
 have c6b0 := eq_true c6
 have c6b1 : decide (1 ≤ (t645.length : Int)) = true := decide_eq_true c6
 clear c6
 replace H := BLt H; obtain ⟨_, rfl, H⟩ := H
 have H' := Aside0.mk H
 clear H
 go_wp2_with (first | ((with_reducible refine gC 53 rfl ?_); refine pC (some 13) rfl #[.string a0] rfl Tryz.func53 (impl_Cut.calls k a0 t645 _ A3.out) ?_; rintro e w4 ⟨v646, rfl, hR⟩; refine ⟨_, rfl, ?_⟩; replace HM := HM.call hR; clear hR) | ((with_reducible refine gN 14 rfl ?_); refine pL 14 (Kd.int .i64) 3 ([] : List Int) [] (Reps.none _ _) HM rfl ?_; clear HM; intro v649 w5 HM; obtain ⟨Xo7, ko7, rfl⟩ := HM.rdR 0 rfl) | ((with_reducible refine gate_sl (t := 71) rfl ?_); refine pRdf 71 9 Kd.string _ _ 1 t645 Xo7 ko7 rfl Tryz.underlying71 info9 (HM.CR 0 rfl).2.1 (by omega) (of_decide_eq_true AS) ?_; intro Yx8 bx8 hYx8 hbx8; simp only [Int.reduceToNat, List.drop_one] at hYx8 hbx8; have HYx8 := Aside0.mk hYx8; have HBx8 := Aside0.mk hbx8; clear hYx8 hbx8))
 repeat (go_quiet (first | ((with_reducible refine gC 53 rfl ?_); refine pC (some 13) rfl #[.string a0] rfl Tryz.func53 (impl_Cut.calls k a0 t645 _ A3.out) ?_; rintro e w4 ⟨v646, rfl, hR⟩; refine ⟨_, rfl, ?_⟩; replace HM := HM.call hR; clear hR) | ((with_reducible refine gN 14 rfl ?_); refine pL 14 (Kd.int .i64) 3 ([] : List Int) [] (Reps.none _ _) HM rfl ?_; clear HM; intro v649 w5 HM; obtain ⟨Xo7, ko7, rfl⟩ := HM.rdR 0 rfl) | ((with_reducible refine gate_sl (t := 71) rfl ?_); refine pRdf 71 9 Kd.string _ _ 1 t645 Xo7 ko7 rfl Tryz.underlying71 info9 (HM.CR 0 rfl).2.1 (by omega) (of_decide_eq_true AS) ?_; intro Yx8 bx8 hYx8 hbx8; simp only [Int.reduceToNat, List.drop_one] at hYx8 hbx8; have HYx8 := Aside0.mk hYx8; have HBx8 := Aside0.mk hbx8; clear hYx8 hbx8)); try go_wp2_with (first | ((with_reducible refine gC 53 rfl ?_); refine pC (some 13) rfl #[.string a0] rfl Tryz.func53 (impl_Cut.calls k a0 t645 _ A3.out) ?_; rintro e w4 ⟨v646, rfl, hR⟩; refine ⟨_, rfl, ?_⟩; replace HM := HM.call hR; clear hR) | ((with_reducible refine gN 14 rfl ?_); refine pL 14 (Kd.int .i64) 3 ([] : List Int) [] (Reps.none _ _) HM rfl ?_; clear HM; intro v649 w5 HM; obtain ⟨Xo7, ko7, rfl⟩ := HM.rdR 0 rfl) | ((with_reducible refine gate_sl (t := 71) rfl ?_); refine pRdf 71 9 Kd.string _ _ 1 t645 Xo7 ko7 rfl Tryz.underlying71 info9 (HM.CR 0 rfl).2.1 (by omega) (of_decide_eq_true AS) ?_; intro Yx8 bx8 hYx8 hbx8; simp only [Int.reduceToNat, List.drop_one] at hYx8 hbx8; have HYx8 := Aside0.mk hYx8; have HBx8 := Aside0.mk hbx8; clear hYx8 hbx8)))
 go_loopg [7, 18] k (fun kq v7 v18 w' => ∃ (x7_1 : List Int) (x18_1 : Int), v18 = .int .i64 x18_1 ∧ Aside0 (impl_numbers.l0 kq a1 t645 x7_1 (t645.tail) ((t645.tail).length : Int) x18_1 = some (r1, r2)) ∧ Aside0 (kq ≤ k) ∧ Mem w [] w' [rowR Kd.string 9 (.slice Xo7 t645.length ko7) t645, rowR (Kd.int .i64) 3 v7 x7_1])
 case atStart => exact ⟨((([] : List Int))), (0), RS, H', ⟨Nat.le_refl _⟩, (MD HM).pick [0, 1]⟩
 case round =>
  clear H' HM
  obtain ⟨x7_1, x18_1, rfl, HA, HK1, HM⟩ := hrel
  cases gk with
  | zero => exact absurd HA.out (by simp [impl_numbers.l0])
  | succ k1 =>
   have H := HA.out
   clear HA
   simp only [impl_numbers.l0] at H
   go_upto_if 19 with (fail)
   repeat (go_quiet (fail); go_upto_if 19 with (fail))
   replace H := IT H; rcases H with ⟨c9, H⟩ | ⟨c9, H⟩
   ·have c9b0 := decide_eq_true c9
    have c9b5 := c9b0
    simp only [List.length_tail] at c9b5
    clear c9
    first|rw [c9b0]|rw [c9b5]|(simp only [i64_w, i32_w]; rw [c9b0])|skip
    replace H := GD H; obtain ⟨c10, H⟩ := H
    have c10b0 := decide_eq_true c10
    clear c10
    replace H := GD H; obtain ⟨c11, H⟩ := H
    have c11b0 := decide_eq_true c11
    have c11b5 := c11b0
    simp only [List.length_tail] at c11b5
    clear c11
    replace H := BN H; obtain ⟨⟨t656, t657⟩, A12, H⟩ := H
    have p655 : 0 ≤ (x18_1 : Int) := of_decide_eq_true AS
    have q655 : (x18_1 : Int) < ((t645.tail).length : Int) := of_decide_eq_true AS
    obtain ⟨ad655, e655, hx655_0⟩ := Kd.at_string (HYx8.out _ (HM.CR 0 rfl).2.2) x18_1 p655 q655
    cases e655
    replace p655 := eq_true p655
    replace q655 := eq_true q655
    have qt655 := q655
    simp only [List.length_tail] at qt655
    go_upto_if 28 with (first | ((with_reducible refine gC 54 rfl ?_); refine pC (some 24) rfl #[.string (rdOf ByteArray.empty (t645.tail) x18_1)] rfl Tryz.func54 (impl_TextNum.calls k1 (rdOf ByteArray.empty (t645.tail) x18_1) t656 t657 _ A12.out) ?_; rintro e w13 ⟨rfl, hR⟩; refine ⟨_, rfl, ?_⟩; replace HM := HM.call hR; clear hR))
    repeat (go_quiet (first | ((with_reducible refine gC 54 rfl ?_); refine pC (some 24) rfl #[.string (rdOf ByteArray.empty (t645.tail) x18_1)] rfl Tryz.func54 (impl_TextNum.calls k1 (rdOf ByteArray.empty (t645.tail) x18_1) t656 t657 _ A12.out) ?_; rintro e w13 ⟨rfl, hR⟩; refine ⟨_, rfl, ?_⟩; replace HM := HM.call hR; clear hR)); go_upto_if 28 with (first | ((with_reducible refine gC 54 rfl ?_); refine pC (some 24) rfl #[.string (rdOf ByteArray.empty (t645.tail) x18_1)] rfl Tryz.func54 (impl_TextNum.calls k1 (rdOf ByteArray.empty (t645.tail) x18_1) t656 t657 _ A12.out) ?_; rintro e w13 ⟨rfl, hR⟩; refine ⟨_, rfl, ?_⟩; replace HM := HM.call hR; clear hR)))
    replace H := IB H
    rcases H with ⟨c14, H⟩ | ⟨c14, H⟩
    ·subst c14
     replace H := GD H; obtain ⟨c15, H⟩ := H
     have LMc15 := Aside0.mk c15
     clear c15
     have H' := Aside0.mk H
     clear H
     go_wp2_with (first | ((with_reducible refine gN 31 rfl ?_); refine pL 31 (Kd.int .i64) 3 [t656] [.int .i64 t656] (Reps.one (show Kd.M (Kd.int .i64) _ _ _ t656 [.int .i64 t656] from rfl) (Reps.none _ _)) HM rfl ?_; clear HM; intro v17 w16 HM; obtain ⟨Xv17, kv17, rfl⟩ := HM.rdR 2 rfl) | ((with_reducible refine gate_builtin (b := .append) (xs := #[.tmp 29, .tmp 31]) rfl ?_); refine pA 1 (.tmp 29) (.tmp 31) 24 3 (Kd.int .i64) u7 x7_1 [t656] Xv17 ([t656].length) kv17 HM rfl Tryz.underlying24 info3 rfl (HM.CR 2 rfl).2.2 (by have h_ := LMc15.out; simp only [List.length_singleton]; omega) ?_; clear HM; intro v659 w18 HM))
     repeat (go_quiet (first | ((with_reducible refine gN 31 rfl ?_); refine pL 31 (Kd.int .i64) 3 [t656] [.int .i64 t656] (Reps.one (show Kd.M (Kd.int .i64) _ _ _ t656 [.int .i64 t656] from rfl) (Reps.none _ _)) HM rfl ?_; clear HM; intro v17 w16 HM; obtain ⟨Xv17, kv17, rfl⟩ := HM.rdR 2 rfl) | ((with_reducible refine gate_builtin (b := .append) (xs := #[.tmp 29, .tmp 31]) rfl ?_); refine pA 1 (.tmp 29) (.tmp 31) 24 3 (Kd.int .i64) u7 x7_1 [t656] Xv17 ([t656].length) kv17 HM rfl Tryz.underlying24 info3 rfl (HM.CR 2 rfl).2.2 (by have h_ := LMc15.out; simp only [List.length_singleton]; omega) ?_; clear HM; intro v659 w18 HM)); try go_wp2_with (first | ((with_reducible refine gN 31 rfl ?_); refine pL 31 (Kd.int .i64) 3 [t656] [.int .i64 t656] (Reps.one (show Kd.M (Kd.int .i64) _ _ _ t656 [.int .i64 t656] from rfl) (Reps.none _ _)) HM rfl ?_; clear HM; intro v17 w16 HM; obtain ⟨Xv17, kv17, rfl⟩ := HM.rdR 2 rfl) | ((with_reducible refine gate_builtin (b := .append) (xs := #[.tmp 29, .tmp 31]) rfl ?_); refine pA 1 (.tmp 29) (.tmp 31) 24 3 (Kd.int .i64) u7 x7_1 [t656] Xv17 ([t656].length) kv17 HM rfl Tryz.underlying24 info3 rfl (HM.CR 2 rfl).2.2 (by have h_ := LMc15.out; simp only [List.length_singleton]; omega) ?_; clear HM; intro v659 w18 HM)))
     go_roundg k1
     case measure => have := HK1.out; omega
     case rel => exact ⟨((x7_1 ++ [t656])), (wrap64 (x18_1 + 1)), RS, H', ⟨by have := HK1.out; omega⟩, (MD HM).pick [0, 1]⟩
    ·subst c14
     simp only [Option.some.injEq, Prod.mk.injEq] at H
     obtain ⟨rfl, rfl⟩ := H
     replace HM := HM.nl (Kd.int .i64) 3
     go_wp2
     repeat (go_quiet (fail); try go_wp2_with (fail))
     go_ret2
     exact ⟨_, ER, (MD HM).pick [2]⟩
   ·have c9b0 : decide (x18_1 < ((t645.tail).length : Int)) = false := decide_eq_false c9
    have c9b5 := c9b0
    simp only [List.length_tail] at c9b5
    clear c9
    first|rw [c9b0]|rw [c9b5]|(simp only [i64_w, i32_w]; rw [c9b0])|skip
    replace H := GD H; obtain ⟨c19, H⟩ := H
    replace c19 : 0 < (t645.length : Int) := c19
    have c19b0 : decide (0 < (t645.length : Int)) = true := decide_eq_true c19
    have c19b1 : decide (0 < t645.length) = true := decide_eq_true (by omega)
    have c19b9 : decide (0 < t645.length) = true := decide_eq_true (by omega)
    clear c19
    simp only [Option.some.injEq, Prod.mk.injEq] at H
    obtain ⟨rfl, rfl⟩ := H
    have p661 : 0 ≤ (0 : Int) := (by omega)
    have q661 : (0 : Int) < (t645.length : Int) := of_decide_eq_true AS
    obtain ⟨ad661, e661, hx661_0⟩ := Kd.at_string (HM.CR 0 rfl).2.2 0 p661 q661
    cases e661
    have qi661 : (0 < t645.length) = True := eq_true (by omega)
    (try rw [show ((0 : Int)).toNat = 0 from rfl] at hx661_0)
    (try rw [Addr.add_zero'] at hx661_0)
    replace p661 := eq_true p661
    replace q661 := eq_true q661
    go_wp2
    repeat (go_quiet (fail); try go_wp2_with (fail))
    go_ret2
    exact ⟨_, ER, (MD HM).pick [1]⟩
end Go.Proofs.YtnlnifpehndacaaGreat.G

namespace Go.Proofs.YtnlnifpehndacaaGreat.G
open Go.RowKit Go.Proofs.YtnlnifpehndacaaGreatW.PrintWords Go.Proofs.YtnlnifpehndacaaGreatW.PrintLast Go.Proofs.YtnlnifpehndacaaGreatW.PrintMore Go.Proofs.YtnlnifpehndacaaGreat.Sh
attribute [local go_sem] max2_int min2_int max_two min_two max_three min_three max_four min_four
set_option linter.unusedVariables false
set_option linter.unusedSimpArgs false
open Go.Proofs.YtnlnifpehndacaaGreat.Man
def strings_ContainsAny.f (a0 : ByteArray) (a1 : ByteArray) : Option Bool := if a1 = (⟨#[61, 42]⟩ : ByteArray) ∧ a0.size < 4294967281 then some (hasMark a0) else none
theorem strings_ContainsAny.calls (a0 : ByteArray) (a1 : ByteArray) (r : Bool) (w : World) (h : strings_ContainsAny.f a0 a1 = some r) :
  Calls Tryz.prog 56 #[.string a0, .string a1] w fun e w' => e = .returned (.bool r) ∧ Below w.heap.size w w' := by
 unfold strings_ContainsAny.f at h
 by_cases c : a1 = (⟨#[61, 42]⟩ : ByteArray) ∧ a0.size < 4294967281
 rotate_left
 ·rw [if_neg c] at h; cases h
 rw [if_pos c] at h
 obtain rfl := Option.some.inj h
 obtain ⟨rfl, hs⟩ := c
 have hc := indexAny_mark a0 hs w
 have hm := Aside0.mk (hasMark_iff a0)
 clear h hs
 obtain ⟨m, hmm⟩ : ∃ m, m = hasMark a0 := ⟨_, rfl⟩
 rw [← hmm] at hm ⊢
 clear hmm
 go_enter Tryz.func56, Tryz.ntmps56
 go_wp2_with fail
 refine hc.mono ?_
 rintro e w' ⟨q, rfl, hq, hb⟩
 have HB := Aside0.mk hb
 rw [hm.out] at hq
 clear hb hc
 by_cases hq0 : 0 ≤ q
 ·obtain rfl : m = true := hq.1 hq0
  clear hq
  go_wp2
  go_ret
  exact ⟨rfl, HB.out⟩
 ·obtain rfl : m = false := by
   cases m
   ·rfl
   ·exact absurd (hq.2 rfl) hq0
  have hd : decide (0 ≤ q) = false := decide_eq_false hq0
  clear hq
  go_wp2
  go_ret
  exact ⟨rfl, HB.out⟩
end Go.Proofs.YtnlnifpehndacaaGreat.G

namespace Go.Proofs.YtnlnifpehndacaaGreat.G
open Go.RowKit Go.Proofs.YtnlnifpehndacaaGreatW.PrintWords Go.Proofs.YtnlnifpehndacaaGreatW.PrintLast Go.Proofs.YtnlnifpehndacaaGreatW.PrintMore Go.Proofs.YtnlnifpehndacaaGreat.Sh
attribute [local go_sem] max2_int min2_int max_two min_two max_three min_three max_four min_four
set_option linter.unusedVariables false
set_option linter.unusedSimpArgs false
open Go.Proofs.YtnlnifpehndacaaGreat.Mm
def impl_ItemText.f (k : Nat) (a0_0 : ByteArray) (a0_1 : ByteArray) (a0_2 : Int) : Option (ByteArray) := (impl_ItemOk.f k a0_0 a0_1 a0_2).bind fun t664 => (if t664 = true then (if a0_0.size + a0_1.size ≤ 9223372036854775807 then ((strings_ContainsAny.f (a0_0 ++ a0_1) (⟨#[61, 42]⟩ : ByteArray)).bind fun t665 => (if t665 = true then (some (⟨#[]⟩ : ByteArray)) else (if a0_0.size + 1 ≤ 9223372036854775807 then (if a0_0.size + 1 + a0_1.size ≤ 9223372036854775807 then (if a0_0.size + 1 + a0_1.size + 1 ≤ 9223372036854775807 then ((impl_NumText.f k a0_2).bind fun t666 => (if a0_0.size + 1 + a0_1.size + 1 + t666.size ≤ 9223372036854775807 then (some ((((a0_0 ++ (⟨#[61]⟩ : ByteArray)) ++ a0_1) ++ (⟨#[42]⟩ : ByteArray)) ++ t666)) else (none))) else (none)) else (none)) else (none)))) else (none)) else (some (⟨#[]⟩ : ByteArray)))
def impl_ItemText.T3 : Bool × List (List Nat × List Nat) := (true, [([], []), ([0], [0]), ([1], [1]), ([], []), ([3], [3]), ([2, 4], [2, 4]), ([5], [5]), ([], []), ([7], [7]), ([8], [8]), ([6, 9], [6, 9]), ([10, 9, 0, 1, 2, 3, 4, 5, 6, 7, 8, 9, 10], [10])])
def impl_ItemText.B3 : List Nat := [0, 1, 3, 0, 8, 31, 63, 0, 128, 384, 1023, 2047]
theorem impl_ItemText.tab3 : rtab .any (opsOf Tryz.f37 3) = impl_ItemText.T3 := by kernel_rfl
theorem impl_ItemText.bits3 : waitsOk impl_ItemText.T3.2 impl_ItemText.B3 = true := by kernel_rfl
theorem impl_ItemText.calls (k : Nat) (a0_0 : ByteArray) (a0_1 : ByteArray) (a0_2 : Int) (r : ByteArray) (w : World)  (h : impl_ItemText.f k a0_0 a0_1 a0_2 = some r) :
  Calls Tryz.prog 37 #[.agg #[.string a0_0, .string a0_1, .int .i64 a0_2]] w fun e w' => e = .returned (.string r) ∧ Mem w [] w' [] := by
 have hu60 := Tryz.underlying60
 have HM := Mem.nil w
 have H := h
 clear h
 unfold impl_ItemText.f at H
 go_enter Tryz.func37, Tryz.ntmps37
 replace H := BN H; obtain ⟨t664, A4, H⟩ := H
 replace H := IB H
 rcases H with ⟨c6, H⟩ | ⟨c6, H⟩
 ·subst c6
  replace H := GD H; obtain ⟨c8, H⟩ := H
  have c8b0 := eq_true c8
  have c8b1 : decide (a0_0.size + a0_1.size ≤ 9223372036854775807) = true := decide_eq_true c8
  try have c8b2 : (9223372036854775807 < a0_0.size + a0_1.size) = False := eq_false (Nat.not_lt.2 c8)
  replace H := BN H; obtain ⟨t665, A9, H⟩ := H
  go_upto_if 13 with (first | ((with_reducible refine gN 1 rfl ?_); refine pB 1 60 [.string a0_0, .string a0_1, .int .i64 a0_2] HM rfl ?_; clear HM; intro gb663 w2 HM; obtain ⟨_,_,_,_,_,_⟩ := bk3 (HM.bx 0 rfl)) | ((with_reducible refine gC 44 rfl ?_); refine pC (some 4) rfl #[.agg #[.string a0_0, .string a0_1, .int .i64 a0_2]] rfl Tryz.func44 (impl_ItemOk.calls k a0_0 a0_1 a0_2 true _ A4.out) ?_; rintro e w5 ⟨rfl, hR⟩; refine ⟨_, rfl, ?_⟩; replace HM := HM.call hR; clear hR; obtain ⟨_,_,_,_,_,_⟩ := bk3 (HM.bx 0 rfl)) | ((with_reducible refine gC 56 rfl ?_); refine pC (some 12) rfl #[.string (a0_0 ++ a0_1), .string (⟨#[61, 42]⟩ : ByteArray)] rfl Tryz.func56 (strings_ContainsAny.calls (a0_0 ++ a0_1) (⟨#[61, 42]⟩ : ByteArray) t665 _ A9.out) ?_; rintro e w10 ⟨rfl, hb⟩; refine ⟨_, rfl, ?_⟩; replace HM := HM.below hb; clear hb))
  replace HM := nzM HM
  replace H := IB H
  rcases H with ⟨c11, H⟩ | ⟨c11, H⟩
  ·subst c11
   obtain rfl := Option.some.inj H
   go_wp2
   go_ret
   exact ⟨ER, (MD HM).pick []⟩
  ·subst c11
   try go_wp2
   replace H := GD H; obtain ⟨c12, H⟩ := H
   have c12b0 := eq_true c12
   have c12b1 : decide (a0_0.size + 1 ≤ 9223372036854775807) = true := decide_eq_true c12
   try have c12b2 : (9223372036854775807 < a0_0.size + 1) = False := eq_false (Nat.not_lt.2 c12)
   replace H := GD H; obtain ⟨c13, H⟩ := H
   have c13b0 := eq_true c13
   have c13b1 : decide (a0_0.size + 1 + a0_1.size ≤ 9223372036854775807) = true := decide_eq_true c13
   try have c13b2 : (9223372036854775807 < a0_0.size + 1 + a0_1.size) = False := eq_false (Nat.not_lt.2 c13)
   replace H := GD H; obtain ⟨c14, H⟩ := H
   have c14b0 := eq_true c14
   have c14b1 : decide (a0_0.size + 1 + a0_1.size + 1 ≤ 9223372036854775807) = true := decide_eq_true c14
   try have c14b2 : (9223372036854775807 < a0_0.size + 1 + a0_1.size + 1) = False := eq_false (Nat.not_lt.2 c14)
   replace H := BN H; obtain ⟨t666, A15, H⟩ := H
   replace H := GD H; obtain ⟨c16, H⟩ := H
   have c16b0 := eq_true c16
   have c16b1 : decide (a0_0.size + 1 + a0_1.size + 1 + t666.size ≤ 9223372036854775807) = true := decide_eq_true c16
   try have c16b2 : (9223372036854775807 < a0_0.size + 1 + a0_1.size + 1 + t666.size) = False := eq_false (Nat.not_lt.2 c16)
   refine RGN 12 [0, 1, 2, 3, 4, 5, 6, 7, 8, 9, 10, 11] (fun a0 b a w' => a = putSel a0 b [(0, 14, .pointer (some ⟨gb663, 0, none⟩)), (1, 15, .string a0_0), (2, 16, .string (a0_0 ++ (⟨#[61]⟩ : ByteArray))), (3, 17, .pointer (some ⟨gb663, 1, none⟩)), (4, 18, .string a0_1), (5, 19, .string ((a0_0 ++ (⟨#[61]⟩ : ByteArray)) ++ a0_1)), (6, 20, .string (((a0_0 ++ (⟨#[61]⟩ : ByteArray)) ++ a0_1) ++ (⟨#[42]⟩ : ByteArray))), (7, 21, .pointer (some ⟨gb663, 2, none⟩)), (8, 22, .int .i64 a0_2), (9, 23, .string t666), (10, 24, .string ((((a0_0 ++ (⟨#[61]⟩ : ByteArray)) ++ a0_1) ++ (⟨#[42]⟩ : ByteArray)) ++ t666)), (11, 2, .string ((((a0_0 ++ (⟨#[61]⟩ : ByteArray)) ++ a0_1) ++ (⟨#[42]⟩ : ByteArray)) ++ t666))] ∧ Mem w [] w' [box 60 gb663 [.string a0_0, .string a0_1, .int .i64 a0_2]]) impl_ItemText.tab3 impl_ItemText.bits3 ?_ ?_ ?_
   ·exact ⟨PS0' rfl _, (HM.drew).pick [0]⟩
   ·clear HM
    refine SY ?_ ?_
    ·intro b a w ha HM hb hon hoff K hK
     have e1 := PG ha 1
     exact VL (.pointer (some ⟨gb663, 0, none⟩)) (hK.out _ _ ⟨PUT ha 0 hb, HM⟩)
    refine SY ?_ ?_
    ·intro b a w ha HM hb hon hoff K hK
     obtain ⟨_,_,_,_,_,_⟩ := bk3 (HM.bx 0 rfl)
     have e14 := PE ha 0 hon
     exact VL (.string a0_0) (hK.out _ _ ⟨PUT ha 1 hb, HM⟩)
    refine SY ?_ ?_
    ·intro b a w ha HM hb hon hoff K hK
     have e15 := PE ha 1 hon
     exact VL (.string (a0_0 ++ (⟨#[61]⟩ : ByteArray))) (hK.out _ _ ⟨PUT ha 2 hb, HM⟩)
    refine SY ?_ ?_
    ·intro b a w ha HM hb hon hoff K hK
     have e1 := PG ha 1
     exact VL (.pointer (some ⟨gb663, 1, none⟩)) (hK.out _ _ ⟨PUT ha 3 hb, HM⟩)
    refine SY ?_ ?_
    ·intro b a w ha HM hb hon hoff K hK
     obtain ⟨_,_,_,_,_,_⟩ := bk3 (HM.bx 0 rfl)
     have e17 := PE ha 3 hon
     exact VL (.string a0_1) (hK.out _ _ ⟨PUT ha 4 hb, HM⟩)
    refine SY ?_ ?_
    ·intro b a w ha HM hb hon hoff K hK
     have e16 := PE ha 2 hon
     have e18 := PE ha 4 hon
     exact VL (.string ((a0_0 ++ (⟨#[61]⟩ : ByteArray)) ++ a0_1)) (hK.out _ _ ⟨PUT ha 5 hb, HM⟩)
    refine SY ?_ ?_
    ·intro b a w ha HM hb hon hoff K hK
     have e19 := PE ha 5 hon
     exact VL (.string (((a0_0 ++ (⟨#[61]⟩ : ByteArray)) ++ a0_1) ++ (⟨#[42]⟩ : ByteArray))) (hK.out _ _ ⟨PUT ha 6 hb, HM⟩)
    refine SY ?_ ?_
    ·intro b a w ha HM hb hon hoff K hK
     have e1 := PG ha 1
     exact VL (.pointer (some ⟨gb663, 2, none⟩)) (hK.out _ _ ⟨PUT ha 7 hb, HM⟩)
    refine SY ?_ ?_
    ·intro b a w ha HM hb hon hoff K hK
     obtain ⟨_,_,_,_,_,_⟩ := bk3 (HM.bx 0 rfl)
     have e21 := PE ha 7 hon
     exact VL (.int .i64 a0_2) (hK.out _ _ ⟨PUT ha 8 hb, HM⟩)
    refine SY ?_ ?_
    ·intro b a w ha HM hb hon hoff K hK
     have e22 := PE ha 8 hon
     refine ST (eC (some 23) rfl #[.int .i64 a0_2] rfl Tryz.func18 (impl_NumText.calls k a0_2 t666 _ A15.out) ?_ (hargs := by (simp only [List.map_toArray, List.map_cons, List.map_nil, evc, eval_of e22]) <;> rfl))
     rintro e w24 ⟨rfl, hR⟩
     refine ⟨_, rfl, ?_⟩
     replace HM := HM.call hR
     clear hR
     exact hK.out _ _ ⟨PUT ha 9 hb, (HM).pick [0]⟩
    refine SY ?_ ?_
    ·intro b a w ha HM hb hon hoff K hK
     have e20 := PE ha 6 hon
     have e23 := PE ha 9 hon
     exact VL (.string ((((a0_0 ++ (⟨#[61]⟩ : ByteArray)) ++ a0_1) ++ (⟨#[42]⟩ : ByteArray)) ++ t666)) (hK.out _ _ ⟨PUT ha 10 hb, HM⟩)
    refine SY ?_ ?_
    ·intro b a w ha HM hb hon hoff K hK
     have e24 := PE ha 10 hon
     exact VL (.string ((((a0_0 ++ (⟨#[61]⟩ : ByteArray)) ++ a0_1) ++ (⟨#[42]⟩ : ByteArray)) ++ t666)) (hK.out _ _ ⟨PUT ha 11 hb, HM⟩)
    exact steps_nil
   rintro _ w25 ⟨rfl, HM⟩
   simp only [putSel, if_true, Act.put, List.setIfInBounds_toArray, List.set_cons_zero, List.set_cons_succ, gt_iff_lt, ge_iff_le]
   obtain rfl := Option.some.inj H
   go_wp2
   go_ret
   exact ⟨ER, (MD HM).pick []⟩
 ·subst c6
  obtain rfl := Option.some.inj H
  go_wp2_with (first | ((with_reducible refine gN 1 rfl ?_); refine pB 1 60 [.string a0_0, .string a0_1, .int .i64 a0_2] HM rfl ?_; clear HM; intro gb663 w2 HM; obtain ⟨_,_,_,_,_,_⟩ := bk3 (HM.bx 0 rfl)) | ((with_reducible refine gC 44 rfl ?_); refine pC (some 4) rfl #[.agg #[.string a0_0, .string a0_1, .int .i64 a0_2]] rfl Tryz.func44 (impl_ItemOk.calls k a0_0 a0_1 a0_2 false _ A4.out) ?_; rintro e w5 ⟨rfl, hR⟩; refine ⟨_, rfl, ?_⟩; replace HM := HM.call hR; clear hR))
  go_ret
  exact ⟨ER, (MD HM).pick []⟩
end Go.Proofs.YtnlnifpehndacaaGreat.G

namespace Go.Proofs.YtnlnifpehndacaaGreat.G
open Go.RowKit Go.Proofs.YtnlnifpehndacaaGreatW.PrintWords Go.Proofs.YtnlnifpehndacaaGreatW.PrintLast Go.Proofs.YtnlnifpehndacaaGreatW.PrintMore Go.Proofs.YtnlnifpehndacaaGreat.Sh
attribute [local go_sem] max2_int min2_int max_two min_two max_three min_three max_four min_four
set_option linter.unusedVariables false
set_option linter.unusedSimpArgs false
open Go.Proofs.YtnlnifpehndacaaGreat.Man
open Go.Proofs.YtnlnifpehndacaaGreat.CutL
def strings_Cut.f (a0 : ByteArray) (a1 : ByteArray) : Option (ByteArray × ByteArray × Bool) := if a0.size < 4294967281 then (if a1 = (⟨#[61]⟩ : ByteArray) then some (cutAt a0 61) else if a1 = (⟨#[42]⟩ : ByteArray) then some (cutAt a0 42) else none) else none
theorem strings_Cut.one (a0 : ByteArray) (c : UInt8) (w : World) (hs : a0.size < 4294967281) :
  Calls Tryz.prog 80 #[.string a0, .string ⟨#[c]⟩] w fun e w' => e = .returned (.tuple #[.string (cutAt a0 c).1, .string (cutAt a0 c).2.1, .bool (cutAt a0 c).2.2]) ∧ Below w.heap.size w w' := by
 have hc := cut_one a0 c w hs
 clear hs
 obtain ⟨⟨x, y, z⟩, hr⟩ : ∃ r, r = cutAt a0 c := ⟨_, rfl⟩
 rw [← hr] at hc ⊢
 clear hr
 go_enter Tryz.func80, Tryz.ntmps80
 go_wp2_with fail
 refine hc.mono ?_
 rintro e w' ⟨rfl, hb⟩
 have HB := Aside0.mk hb
 clear hb hc
 go_wp2
 go_ret3
 exact ⟨rfl, HB.out⟩
theorem strings_Cut.calls (a0 : ByteArray) (a1 : ByteArray) (r1 : ByteArray) (r2 : ByteArray) (r3 : Bool) (w : World) (h : strings_Cut.f a0 a1 = some (r1, r2, r3)) :
  Calls Tryz.prog 80 #[.string a0, .string a1] w fun e w' => e = .returned (.tuple #[.string r1, .string r2, .bool r3]) ∧ Below w.heap.size w w' := by
 unfold strings_Cut.f at h
 by_cases c : a0.size < 4294967281
 rotate_left
 ·rw [if_neg c] at h; cases h
 rw [if_pos c] at h
 by_cases c1 : a1 = (⟨#[61]⟩ : ByteArray)
 ·rw [if_pos c1] at h
  have h := Option.some.inj h
  subst c1
  have hh := strings_Cut.one a0 61 w c
  rw [h] at hh
  exact hh
 rw [if_neg c1] at h
 by_cases c2 : a1 = (⟨#[42]⟩ : ByteArray)
 ·rw [if_pos c2] at h
  have h := Option.some.inj h
  subst c2
  have hh := strings_Cut.one a0 42 w c
  rw [h] at hh
  exact hh
 rw [if_neg c2] at h; cases h
end Go.Proofs.YtnlnifpehndacaaGreat.G

namespace Go.Proofs.YtnlnifpehndacaaGreat.G
open Go.RowKit Go.Proofs.YtnlnifpehndacaaGreatW.PrintWords Go.Proofs.YtnlnifpehndacaaGreatW.PrintLast Go.Proofs.YtnlnifpehndacaaGreatW.PrintMore Go.Proofs.YtnlnifpehndacaaGreat.Sh
attribute [local go_sem] max2_int min2_int max_two min_two max_three min_three max_four min_four
set_option linter.unusedVariables false
set_option linter.unusedSimpArgs false
open Go.Proofs.YtnlnifpehndacaaGreat.Mm
def impl_TextItem.f (k : Nat) (a0 : ByteArray) : Option (ByteArray × ByteArray × Int × Bool) := (strings_Cut.f a0 (⟨#[61]⟩ : ByteArray)).bind fun bt672 => ((strings_Cut.f bt672.2.1 (⟨#[42]⟩ : ByteArray)).bind fun bt675 => ((impl_TextNum.f k bt675.2.1).bind fun bt678 => (if bt672.2.2 = true then (if bt675.2.2 = true then (if bt678.2 = true then ((impl_ItemText.f k bt672.1 bt675.1 bt678.1).bind fun t681 => (if t681.toList = a0.toList then (some (bt672.1, bt675.1, bt678.1, true)) else (some ((⟨#[]⟩ : ByteArray), (⟨#[]⟩ : ByteArray), 0, false)))) else (some ((⟨#[]⟩ : ByteArray), (⟨#[]⟩ : ByteArray), 0, false))) else (some ((⟨#[]⟩ : ByteArray), (⟨#[]⟩ : ByteArray), 0, false))) else (some ((⟨#[]⟩ : ByteArray), (⟨#[]⟩ : ByteArray), 0, false)))))
theorem impl_TextItem.calls (k : Nat) (a0 : ByteArray) (r1 : ByteArray) (r2 : ByteArray) (r3 : Int) (r4 : Bool) (w : World)  (h : impl_TextItem.f k a0 = some (r1, r2, r3, r4)) :
  Calls Tryz.prog 55 #[.string a0] w fun e w' => e = .returned (.tuple #[.agg #[.string r1, .string r2, .int .i64 r3], .bool r4]) ∧ Mem w [] w' [] := by
 have hu60 := Tryz.underlying60
 have HM := Mem.nil w
 have H := h
 clear h
 unfold impl_TextItem.f at H
 go_enter Tryz.func55, Tryz.ntmps55
 replace H := BN H; obtain ⟨⟨t672, t673, t674⟩, A3, H⟩ := H
 replace H := BN H; obtain ⟨⟨t675, t676, t677⟩, A5, H⟩ := H
 replace H := BN H; obtain ⟨⟨t678, t679⟩, A7, H⟩ := H
 replace H := IB H
 rcases H with ⟨c11, H⟩ | ⟨c11, H⟩
 ·subst c11
  replace H := IB H
  rcases H with ⟨c12, H⟩ | ⟨c12, H⟩
  ·subst c12
   replace H := IB H
   rcases H with ⟨c13, H⟩ | ⟨c13, H⟩
   ·subst c13
    replace H := BN H; obtain ⟨t681, A15, H⟩ := H
    go_upto_if 49 with (first | ((with_reducible refine gN 2 rfl ?_); refine pB 2 60 [.string (⟨#[]⟩ : ByteArray), .string (⟨#[]⟩ : ByteArray), .int .i64 0] HM rfl ?_; clear HM; intro gb671 w2 HM) | ((with_reducible refine gC 80 rfl ?_); refine pC (some 15) rfl #[.string a0, .string (⟨#[61]⟩ : ByteArray)] rfl Tryz.func80 (strings_Cut.calls a0 (⟨#[61]⟩ : ByteArray) t672 t673 true _ A3.out) ?_; rintro e w4 ⟨rfl, hb⟩; refine ⟨_, rfl, ?_⟩; replace HM := HM.below hb; clear hb) | ((with_reducible refine gC 80 rfl ?_); refine pC (some 21) rfl #[.string t673, .string (⟨#[42]⟩ : ByteArray)] rfl Tryz.func80 (strings_Cut.calls t673 (⟨#[42]⟩ : ByteArray) t675 t676 true _ A5.out) ?_; rintro e w6 ⟨rfl, hb⟩; refine ⟨_, rfl, ?_⟩; replace HM := HM.below hb; clear hb) | ((with_reducible refine gC 54 rfl ?_); refine pC (some 27) rfl #[.string t676] rfl Tryz.func54 (impl_TextNum.calls k t676 t678 true _ A7.out) ?_; rintro e w8 ⟨rfl, hR⟩; refine ⟨_, rfl, ?_⟩; replace HM := HM.call hR; clear hR) | ((with_reducible refine gN 12 rfl ?_); refine pB 12 60 [.string (⟨#[]⟩ : ByteArray), .string (⟨#[]⟩ : ByteArray), .int .i64 0] HM rfl ?_; clear HM; intro gb680 w9 HM) | ((with_reducible refine gS 12 rfl ?_); refine pS 1 12 0 [.string t672, .string t675, .int .i64 t678] HM rfl rfl ?_; clear HM; intro w10 HM; obtain ⟨_,_,_,_,_,_⟩ := bk3 (HM.bx 1 rfl)) | ((with_reducible refine gC 37 rfl ?_); refine pC (some 46) rfl #[.agg #[.string t672, .string t675, .int .i64 t678]] rfl Tryz.func37 (impl_ItemText.calls k t672 t675 t678 t681 _ A15.out) ?_; rintro e w16 ⟨rfl, hR⟩; refine ⟨_, rfl, ?_⟩; replace HM := HM.call hR; clear hR))
    replace HM := nzM HM
    replace H := IT H; rcases H with ⟨c17, H⟩ | ⟨c17, H⟩
    ·have c17b0 : (t681.toList == a0.toList) = true := beq_iff_eq.mpr c17
     have c17b1 : (t681.toList != a0.toList) = false := bne_eq_false_iff_eq.mpr c17
     clear c17
     first|rw [c17b0]|(simp only [i64_w, i32_w]; rw [c17b0])|skip
     simp only [Option.some.injEq, Prod.mk.injEq] at H
     obtain ⟨rfl, rfl, rfl, rfl⟩ := H
     obtain ⟨_,_,_,_,_,_⟩ := bk3 (HM.bx 1 rfl)
     go_wp2_with (first | ((with_reducible refine gS 2 rfl ?_); refine pS 0 2 0 [.string t672, .string t675, .int .i64 t678] HM rfl rfl ?_; clear HM; intro w19 HM))
     refine bodyPost_ret (results_ct rfl _ _ gb671 60 #[.string t672, .string t675, .int .i64 t678] (0, 0) _ rfl (HM.bx 0 rfl) Tryz.underlying60 rfl (by kernel_rfl)) rfl ?_
     exact ⟨ER, (MD HM).pick []⟩
    ·have c17b0 : (t681.toList == a0.toList) = false := beq_eq_false_iff_ne.mpr c17
     have c17b1 : (t681.toList != a0.toList) = true := bne_iff_ne.mpr c17
     first|rw [c17b0]|(simp only [i64_w, i32_w]; rw [c17b0])|skip
     simp only [Option.some.injEq, Prod.mk.injEq] at H
     obtain ⟨rfl, rfl, rfl, rfl⟩ := H
     go_wp2_with (first | ((with_reducible refine gS 2 rfl ?_); refine pS 0 2 0 [.string (⟨#[]⟩ : ByteArray), .string (⟨#[]⟩ : ByteArray), .int .i64 0] HM rfl rfl ?_; clear HM; intro w20 HM))
     refine bodyPost_ret (results_ct rfl _ _ gb671 60 #[.string (⟨#[]⟩ : ByteArray), .string (⟨#[]⟩ : ByteArray), .int .i64 0] (0, 0) _ rfl (HM.bx 0 rfl) Tryz.underlying60 rfl (by kernel_rfl)) rfl ?_
     exact ⟨ER, (MD HM).pick []⟩
   ·subst c13
    simp only [Option.some.injEq, Prod.mk.injEq] at H
    obtain ⟨rfl, rfl, rfl, rfl⟩ := H
    go_wp2_with (first | ((with_reducible refine gN 2 rfl ?_); refine pB 2 60 [.string (⟨#[]⟩ : ByteArray), .string (⟨#[]⟩ : ByteArray), .int .i64 0] HM rfl ?_; clear HM; intro gb671 w2 HM) | ((with_reducible refine gC 80 rfl ?_); refine pC (some 15) rfl #[.string a0, .string (⟨#[61]⟩ : ByteArray)] rfl Tryz.func80 (strings_Cut.calls a0 (⟨#[61]⟩ : ByteArray) t672 t673 true _ A3.out) ?_; rintro e w4 ⟨rfl, hb⟩; refine ⟨_, rfl, ?_⟩; replace HM := HM.below hb; clear hb) | ((with_reducible refine gC 80 rfl ?_); refine pC (some 21) rfl #[.string t673, .string (⟨#[42]⟩ : ByteArray)] rfl Tryz.func80 (strings_Cut.calls t673 (⟨#[42]⟩ : ByteArray) t675 t676 true _ A5.out) ?_; rintro e w6 ⟨rfl, hb⟩; refine ⟨_, rfl, ?_⟩; replace HM := HM.below hb; clear hb) | ((with_reducible refine gC 54 rfl ?_); refine pC (some 27) rfl #[.string t676] rfl Tryz.func54 (impl_TextNum.calls k t676 t678 false _ A7.out) ?_; rintro e w8 ⟨rfl, hR⟩; refine ⟨_, rfl, ?_⟩; replace HM := HM.call hR; clear hR) | ((with_reducible refine gN 12 rfl ?_); refine pB 12 60 [.string (⟨#[]⟩ : ByteArray), .string (⟨#[]⟩ : ByteArray), .int .i64 0] HM rfl ?_; clear HM; intro gb680 w9 HM) | ((with_reducible refine gS 12 rfl ?_); refine pS 1 12 0 [.string t672, .string t675, .int .i64 t678] HM rfl rfl ?_; clear HM; intro w10 HM) | ((with_reducible refine gS 2 rfl ?_); refine pS 0 2 0 [.string (⟨#[]⟩ : ByteArray), .string (⟨#[]⟩ : ByteArray), .int .i64 0] HM rfl rfl ?_; clear HM; intro w21 HM))
    refine bodyPost_ret (results_ct rfl _ _ gb671 60 #[.string (⟨#[]⟩ : ByteArray), .string (⟨#[]⟩ : ByteArray), .int .i64 0] (0, 0) _ rfl (HM.bx 0 rfl) Tryz.underlying60 rfl (by kernel_rfl)) rfl ?_
    exact ⟨ER, (MD HM).pick []⟩
  ·subst c12
   simp only [Option.some.injEq, Prod.mk.injEq] at H
   obtain ⟨rfl, rfl, rfl, rfl⟩ := H
   go_wp2_with (first | ((with_reducible refine gN 2 rfl ?_); refine pB 2 60 [.string (⟨#[]⟩ : ByteArray), .string (⟨#[]⟩ : ByteArray), .int .i64 0] HM rfl ?_; clear HM; intro gb671 w2 HM) | ((with_reducible refine gC 80 rfl ?_); refine pC (some 15) rfl #[.string a0, .string (⟨#[61]⟩ : ByteArray)] rfl Tryz.func80 (strings_Cut.calls a0 (⟨#[61]⟩ : ByteArray) t672 t673 true _ A3.out) ?_; rintro e w4 ⟨rfl, hb⟩; refine ⟨_, rfl, ?_⟩; replace HM := HM.below hb; clear hb) | ((with_reducible refine gC 80 rfl ?_); refine pC (some 21) rfl #[.string t673, .string (⟨#[42]⟩ : ByteArray)] rfl Tryz.func80 (strings_Cut.calls t673 (⟨#[42]⟩ : ByteArray) t675 t676 false _ A5.out) ?_; rintro e w6 ⟨rfl, hb⟩; refine ⟨_, rfl, ?_⟩; replace HM := HM.below hb; clear hb) | ((with_reducible refine gC 54 rfl ?_); refine pC (some 27) rfl #[.string t676] rfl Tryz.func54 (impl_TextNum.calls k t676 t678 t679 _ A7.out) ?_; rintro e w8 ⟨rfl, hR⟩; refine ⟨_, rfl, ?_⟩; replace HM := HM.call hR; clear hR) | ((with_reducible refine gN 12 rfl ?_); refine pB 12 60 [.string (⟨#[]⟩ : ByteArray), .string (⟨#[]⟩ : ByteArray), .int .i64 0] HM rfl ?_; clear HM; intro gb680 w9 HM) | ((with_reducible refine gS 12 rfl ?_); refine pS 1 12 0 [.string t672, .string t675, .int .i64 t678] HM rfl rfl ?_; clear HM; intro w10 HM) | ((with_reducible refine gS 2 rfl ?_); refine pS 0 2 0 [.string (⟨#[]⟩ : ByteArray), .string (⟨#[]⟩ : ByteArray), .int .i64 0] HM rfl rfl ?_; clear HM; intro w22 HM))
   refine bodyPost_ret (results_ct rfl _ _ gb671 60 #[.string (⟨#[]⟩ : ByteArray), .string (⟨#[]⟩ : ByteArray), .int .i64 0] (0, 0) _ rfl (HM.bx 0 rfl) Tryz.underlying60 rfl (by kernel_rfl)) rfl ?_
   exact ⟨ER, (MD HM).pick []⟩
 ·subst c11
  simp only [Option.some.injEq, Prod.mk.injEq] at H
  obtain ⟨rfl, rfl, rfl, rfl⟩ := H
  go_wp2_with (first | ((with_reducible refine gN 2 rfl ?_); refine pB 2 60 [.string (⟨#[]⟩ : ByteArray), .string (⟨#[]⟩ : ByteArray), .int .i64 0] HM rfl ?_; clear HM; intro gb671 w2 HM) | ((with_reducible refine gC 80 rfl ?_); refine pC (some 15) rfl #[.string a0, .string (⟨#[61]⟩ : ByteArray)] rfl Tryz.func80 (strings_Cut.calls a0 (⟨#[61]⟩ : ByteArray) t672 t673 false _ A3.out) ?_; rintro e w4 ⟨rfl, hb⟩; refine ⟨_, rfl, ?_⟩; replace HM := HM.below hb; clear hb) | ((with_reducible refine gC 80 rfl ?_); refine pC (some 21) rfl #[.string t673, .string (⟨#[42]⟩ : ByteArray)] rfl Tryz.func80 (strings_Cut.calls t673 (⟨#[42]⟩ : ByteArray) t675 t676 t677 _ A5.out) ?_; rintro e w6 ⟨rfl, hb⟩; refine ⟨_, rfl, ?_⟩; replace HM := HM.below hb; clear hb) | ((with_reducible refine gC 54 rfl ?_); refine pC (some 27) rfl #[.string t676] rfl Tryz.func54 (impl_TextNum.calls k t676 t678 t679 _ A7.out) ?_; rintro e w8 ⟨rfl, hR⟩; refine ⟨_, rfl, ?_⟩; replace HM := HM.call hR; clear hR) | ((with_reducible refine gN 12 rfl ?_); refine pB 12 60 [.string (⟨#[]⟩ : ByteArray), .string (⟨#[]⟩ : ByteArray), .int .i64 0] HM rfl ?_; clear HM; intro gb680 w9 HM) | ((with_reducible refine gS 12 rfl ?_); refine pS 1 12 0 [.string t672, .string t675, .int .i64 t678] HM rfl rfl ?_; clear HM; intro w10 HM) | ((with_reducible refine gS 2 rfl ?_); refine pS 0 2 0 [.string (⟨#[]⟩ : ByteArray), .string (⟨#[]⟩ : ByteArray), .int .i64 0] HM rfl rfl ?_; clear HM; intro w23 HM))
  refine bodyPost_ret (results_ct rfl _ _ gb671 60 #[.string (⟨#[]⟩ : ByteArray), .string (⟨#[]⟩ : ByteArray), .int .i64 0] (0, 0) _ rfl (HM.bx 0 rfl) Tryz.underlying60 rfl (by kernel_rfl)) rfl ?_
  exact ⟨ER, (MD HM).pick []⟩
def impl_items.l0 : Nat → ByteArray → List ByteArray → List (S60) → List ByteArray → Int → Int → Option ((List (S60)) × Bool)
 | 0, _, _, _, _, _, _ => none
 | k + 1, x1, x6, x7, x16, x17, x18 => if x18 < x17 then (if 0 ≤ x18 then (if x18 < (x16.length : Int) then ((impl_TextItem.f k (rdOf ByteArray.empty x16 x18)).bind fun bt693 => (if bt693.2.2.2 = true then (if x7.length < 3518437208883 then (impl_items.l0 k x1 x6 (x7 ++ [(⟨bt693.1, bt693.2.1, bt693.2.2.1⟩ : S60)]) x16 x17 (wrap64 (x18 + 1))) else (none)) else (some (([] : List (S60)), false)))) else (none)) else (none)) else (if 0 < (x6.length : Int) then (some (x7, ((rdOf ByteArray.empty x6 0).toList == x1.toList))) else (none))
def impl_items.f (k : Nat) (a0 : ByteArray) (a1 : ByteArray) : Option ((List (S60)) × Bool) := (impl_Cut.f k a0).bind fun t682 => (if 1 ≤ (t682.length : Int) then ((some (t682.tail : List ByteArray)).bind fun y688 => (impl_items.l0 k a1 t682 (([] : List (S60))) y688 (y688.length : Int) 0)) else (none))
theorem impl_items.calls (k : Nat) (a0 : ByteArray) (a1 : ByteArray) (r1 : List (S60)) (r2 : Bool) (w : World)  (h : impl_items.f k a0 a1 = some (r1, r2)) :
  Calls Tryz.prog 35 #[.string a0, .string a1] w fun e w' => ∃ v0_ : Value, e = .returned (.tuple #[v0_, .bool r2]) ∧ Mem w [] w' [rowR k60 60 v0_ r1] := by
 have hu60 := Tryz.underlying60
 have HM := Mem.nil w
 have H := h
 clear h
 unfold impl_items.f at H
 go_enter Tryz.func35, Tryz.ntmps35
 replace H := BN H; obtain ⟨t682, A3, H⟩ := H
 replace H := GD H; obtain ⟨c6, H⟩ := H
 have c6b0 := eq_true c6
 have c6b1 : decide (1 ≤ (t682.length : Int)) = true := decide_eq_true c6
 clear c6
 replace H := BLt H; obtain ⟨_, rfl, H⟩ := H
 have H' := Aside0.mk H
 clear H
 go_wp2_with (first | ((with_reducible refine gC 53 rfl ?_); refine pC (some 13) rfl #[.string a0] rfl Tryz.func53 (impl_Cut.calls k a0 t682 _ A3.out) ?_; rintro e w4 ⟨v683, rfl, hR⟩; refine ⟨_, rfl, ?_⟩; replace HM := HM.call hR; clear hR) | ((with_reducible refine gN 14 rfl ?_); refine pL 14 k60 60 ([] : List (S60)) [] (Reps.none _ _) HM rfl ?_; clear HM; intro v686 w5 HM; obtain ⟨Xo7, ko7, rfl⟩ := HM.rdR 0 rfl) | ((with_reducible refine gate_sl (t := 71) rfl ?_); refine pRdf 71 9 Kd.string _ _ 1 t682 Xo7 ko7 rfl Tryz.underlying71 info9 (HM.CR 0 rfl).2.1 (by omega) (of_decide_eq_true AS) ?_; intro Yx8 bx8 hYx8 hbx8; simp only [Int.reduceToNat, List.drop_one] at hYx8 hbx8; have HYx8 := Aside0.mk hYx8; have HBx8 := Aside0.mk hbx8; clear hYx8 hbx8))
 repeat (go_quiet (first | ((with_reducible refine gC 53 rfl ?_); refine pC (some 13) rfl #[.string a0] rfl Tryz.func53 (impl_Cut.calls k a0 t682 _ A3.out) ?_; rintro e w4 ⟨v683, rfl, hR⟩; refine ⟨_, rfl, ?_⟩; replace HM := HM.call hR; clear hR) | ((with_reducible refine gN 14 rfl ?_); refine pL 14 k60 60 ([] : List (S60)) [] (Reps.none _ _) HM rfl ?_; clear HM; intro v686 w5 HM; obtain ⟨Xo7, ko7, rfl⟩ := HM.rdR 0 rfl) | ((with_reducible refine gate_sl (t := 71) rfl ?_); refine pRdf 71 9 Kd.string _ _ 1 t682 Xo7 ko7 rfl Tryz.underlying71 info9 (HM.CR 0 rfl).2.1 (by omega) (of_decide_eq_true AS) ?_; intro Yx8 bx8 hYx8 hbx8; simp only [Int.reduceToNat, List.drop_one] at hYx8 hbx8; have HYx8 := Aside0.mk hYx8; have HBx8 := Aside0.mk hbx8; clear hYx8 hbx8)); try go_wp2_with (first | ((with_reducible refine gC 53 rfl ?_); refine pC (some 13) rfl #[.string a0] rfl Tryz.func53 (impl_Cut.calls k a0 t682 _ A3.out) ?_; rintro e w4 ⟨v683, rfl, hR⟩; refine ⟨_, rfl, ?_⟩; replace HM := HM.call hR; clear hR) | ((with_reducible refine gN 14 rfl ?_); refine pL 14 k60 60 ([] : List (S60)) [] (Reps.none _ _) HM rfl ?_; clear HM; intro v686 w5 HM; obtain ⟨Xo7, ko7, rfl⟩ := HM.rdR 0 rfl) | ((with_reducible refine gate_sl (t := 71) rfl ?_); refine pRdf 71 9 Kd.string _ _ 1 t682 Xo7 ko7 rfl Tryz.underlying71 info9 (HM.CR 0 rfl).2.1 (by omega) (of_decide_eq_true AS) ?_; intro Yx8 bx8 hYx8 hbx8; simp only [Int.reduceToNat, List.drop_one] at hYx8 hbx8; have HYx8 := Aside0.mk hYx8; have HBx8 := Aside0.mk hbx8; clear hYx8 hbx8)))
 go_loopg [7, 18] k (fun kq v7 v18 w' => ∃ (x7_1 : List (S60)) (x18_1 : Int), v18 = .int .i64 x18_1 ∧ Aside0 (impl_items.l0 kq a1 t682 x7_1 (t682.tail) ((t682.tail).length : Int) x18_1 = some (r1, r2)) ∧ Aside0 (kq ≤ k) ∧ Mem w [] w' [rowR Kd.string 9 (.slice Xo7 t682.length ko7) t682, rowR k60 60 v7 x7_1])
 case atStart => exact ⟨((([] : List (S60)))), (0), RS, H', ⟨Nat.le_refl _⟩, (MD HM).pick [0, 1]⟩
 case round =>
  clear H' HM
  obtain ⟨x7_1, x18_1, rfl, HA, HK1, HM⟩ := hrel
  cases gk with
  | zero => exact absurd HA.out (by simp [impl_items.l0])
  | succ k1 =>
   have H := HA.out
   clear HA
   simp only [impl_items.l0] at H
   go_upto_if 19 with (fail)
   repeat (go_quiet (fail); go_upto_if 19 with (fail))
   replace H := IT H; rcases H with ⟨c9, H⟩ | ⟨c9, H⟩
   ·have c9b0 := decide_eq_true c9
    have c9b5 := c9b0
    simp only [List.length_tail] at c9b5
    clear c9
    first|rw [c9b0]|rw [c9b5]|(simp only [i64_w, i32_w]; rw [c9b0])|skip
    replace H := GD H; obtain ⟨c10, H⟩ := H
    have c10b0 := decide_eq_true c10
    clear c10
    replace H := GD H; obtain ⟨c11, H⟩ := H
    have c11b0 := decide_eq_true c11
    have c11b5 := c11b0
    simp only [List.length_tail] at c11b5
    clear c11
    replace H := BN H; obtain ⟨⟨t693, t694, t695, t696⟩, A12, H⟩ := H
    have p692 : 0 ≤ (x18_1 : Int) := of_decide_eq_true AS
    have q692 : (x18_1 : Int) < ((t682.tail).length : Int) := of_decide_eq_true AS
    obtain ⟨ad692, e692, hx692_0⟩ := Kd.at_string (HYx8.out _ (HM.CR 0 rfl).2.2) x18_1 p692 q692
    cases e692
    replace p692 := eq_true p692
    replace q692 := eq_true q692
    have qt692 := q692
    simp only [List.length_tail] at qt692
    go_upto_if 28 with (first | ((with_reducible refine gC 55 rfl ?_); refine pC (some 24) rfl #[.string (rdOf ByteArray.empty (t682.tail) x18_1)] rfl Tryz.func55 (impl_TextItem.calls k1 (rdOf ByteArray.empty (t682.tail) x18_1) t693 t694 t695 t696 _ A12.out) ?_; rintro e w13 ⟨rfl, hR⟩; refine ⟨_, rfl, ?_⟩; replace HM := HM.call hR; clear hR) | ((with_reducible refine gN 10 rfl ?_); refine pB 10 60 [.string (⟨#[]⟩ : ByteArray), .string (⟨#[]⟩ : ByteArray), .int .i64 0] HM rfl ?_; clear HM; intro gb697 w14 HM) | ((with_reducible refine gS 10 rfl ?_); refine pS 2 10 0 [.string t693, .string t694, .int .i64 t695] HM rfl rfl ?_; clear HM; intro w15 HM))
    repeat (go_quiet (first | ((with_reducible refine gC 55 rfl ?_); refine pC (some 24) rfl #[.string (rdOf ByteArray.empty (t682.tail) x18_1)] rfl Tryz.func55 (impl_TextItem.calls k1 (rdOf ByteArray.empty (t682.tail) x18_1) t693 t694 t695 t696 _ A12.out) ?_; rintro e w13 ⟨rfl, hR⟩; refine ⟨_, rfl, ?_⟩; replace HM := HM.call hR; clear hR) | ((with_reducible refine gN 10 rfl ?_); refine pB 10 60 [.string (⟨#[]⟩ : ByteArray), .string (⟨#[]⟩ : ByteArray), .int .i64 0] HM rfl ?_; clear HM; intro gb697 w14 HM) | ((with_reducible refine gS 10 rfl ?_); refine pS 2 10 0 [.string t693, .string t694, .int .i64 t695] HM rfl rfl ?_; clear HM; intro w15 HM)); go_upto_if 28 with (first | ((with_reducible refine gC 55 rfl ?_); refine pC (some 24) rfl #[.string (rdOf ByteArray.empty (t682.tail) x18_1)] rfl Tryz.func55 (impl_TextItem.calls k1 (rdOf ByteArray.empty (t682.tail) x18_1) t693 t694 t695 t696 _ A12.out) ?_; rintro e w13 ⟨rfl, hR⟩; refine ⟨_, rfl, ?_⟩; replace HM := HM.call hR; clear hR) | ((with_reducible refine gN 10 rfl ?_); refine pB 10 60 [.string (⟨#[]⟩ : ByteArray), .string (⟨#[]⟩ : ByteArray), .int .i64 0] HM rfl ?_; clear HM; intro gb697 w14 HM) | ((with_reducible refine gS 10 rfl ?_); refine pS 2 10 0 [.string t693, .string t694, .int .i64 t695] HM rfl rfl ?_; clear HM; intro w15 HM)))
    replace HM := nzM HM
    replace H := IB H
    rcases H with ⟨c16, H⟩ | ⟨c16, H⟩
    ·subst c16
     replace H := GD H; obtain ⟨c18, H⟩ := H
     have LMc18 := Aside0.mk c18
     clear c18
     have H' := Aside0.mk H
     clear H
     obtain ⟨_,_,_,_,_,_⟩ := bk3 (HM.bx 2 rfl)
     go_wp2_with (first | ((with_reducible refine gN 31 rfl ?_); refine pL 31 k60 60 [(⟨t693, t694, t695⟩ : S60)] [.string t693, .string t694, .int .i64 t695] (Reps.c3 (show Kd.M k60 _ _ _ (⟨t693, t694, t695⟩ : S60) [.string t693, .string t694, .int .i64 t695] from (k60_mkM _ _ _ (⟨t693, t694, t695⟩ : S60))) (Reps.none _ _)) HM rfl ?_; clear HM; intro v20 w19 HM; obtain ⟨Xv20, kv20, rfl⟩ := HM.rdR 3 rfl) | ((with_reducible refine gate_builtin (b := .append) (xs := #[.tmp 29, .tmp 31]) rfl ?_); refine pA 1 (.tmp 29) (.tmp 31) 23 60 k60 u7 x7_1 [(⟨t693, t694, t695⟩ : S60)] Xv20 ([(⟨t693, t694, t695⟩ : S60)].length) kv20 HM rfl Tryz.underlying23 info60 rfl (HM.CR 3 rfl).2.2 (by have h_ := LMc18.out; simp only [List.length_singleton]; omega) ?_; clear HM; intro v699 w21 HM))
     repeat (go_quiet (first | ((with_reducible refine gN 31 rfl ?_); refine pL 31 k60 60 [(⟨t693, t694, t695⟩ : S60)] [.string t693, .string t694, .int .i64 t695] (Reps.c3 (show Kd.M k60 _ _ _ (⟨t693, t694, t695⟩ : S60) [.string t693, .string t694, .int .i64 t695] from (k60_mkM _ _ _ (⟨t693, t694, t695⟩ : S60))) (Reps.none _ _)) HM rfl ?_; clear HM; intro v20 w19 HM; obtain ⟨Xv20, kv20, rfl⟩ := HM.rdR 3 rfl) | ((with_reducible refine gate_builtin (b := .append) (xs := #[.tmp 29, .tmp 31]) rfl ?_); refine pA 1 (.tmp 29) (.tmp 31) 23 60 k60 u7 x7_1 [(⟨t693, t694, t695⟩ : S60)] Xv20 ([(⟨t693, t694, t695⟩ : S60)].length) kv20 HM rfl Tryz.underlying23 info60 rfl (HM.CR 3 rfl).2.2 (by have h_ := LMc18.out; simp only [List.length_singleton]; omega) ?_; clear HM; intro v699 w21 HM)); try go_wp2_with (first | ((with_reducible refine gN 31 rfl ?_); refine pL 31 k60 60 [(⟨t693, t694, t695⟩ : S60)] [.string t693, .string t694, .int .i64 t695] (Reps.c3 (show Kd.M k60 _ _ _ (⟨t693, t694, t695⟩ : S60) [.string t693, .string t694, .int .i64 t695] from (k60_mkM _ _ _ (⟨t693, t694, t695⟩ : S60))) (Reps.none _ _)) HM rfl ?_; clear HM; intro v20 w19 HM; obtain ⟨Xv20, kv20, rfl⟩ := HM.rdR 3 rfl) | ((with_reducible refine gate_builtin (b := .append) (xs := #[.tmp 29, .tmp 31]) rfl ?_); refine pA 1 (.tmp 29) (.tmp 31) 23 60 k60 u7 x7_1 [(⟨t693, t694, t695⟩ : S60)] Xv20 ([(⟨t693, t694, t695⟩ : S60)].length) kv20 HM rfl Tryz.underlying23 info60 rfl (HM.CR 3 rfl).2.2 (by have h_ := LMc18.out; simp only [List.length_singleton]; omega) ?_; clear HM; intro v699 w21 HM)))
     go_roundg k1
     case measure => have := HK1.out; omega
     case rel => exact ⟨((x7_1 ++ [(⟨t693, t694, t695⟩ : S60)])), (wrap64 (x18_1 + 1)), RS, H', ⟨by have := HK1.out; omega⟩, (MD HM).pick [0, 1]⟩
    ·subst c16
     simp only [Option.some.injEq, Prod.mk.injEq] at H
     obtain ⟨rfl, rfl⟩ := H
     replace HM := HM.nl k60 60
     go_wp2
     repeat (go_quiet (fail); try go_wp2_with (fail))
     go_ret2
     exact ⟨_, ER, (MD HM).pick [3]⟩
   ·have c9b0 : decide (x18_1 < ((t682.tail).length : Int)) = false := decide_eq_false c9
    have c9b5 := c9b0
    simp only [List.length_tail] at c9b5
    clear c9
    first|rw [c9b0]|rw [c9b5]|(simp only [i64_w, i32_w]; rw [c9b0])|skip
    replace H := GD H; obtain ⟨c22, H⟩ := H
    replace c22 : 0 < (t682.length : Int) := c22
    have c22b0 : decide (0 < (t682.length : Int)) = true := decide_eq_true c22
    have c22b1 : decide (0 < t682.length) = true := decide_eq_true (by omega)
    have c22b9 : decide (0 < t682.length) = true := decide_eq_true (by omega)
    clear c22
    simp only [Option.some.injEq, Prod.mk.injEq] at H
    obtain ⟨rfl, rfl⟩ := H
    have p701 : 0 ≤ (0 : Int) := (by omega)
    have q701 : (0 : Int) < (t682.length : Int) := of_decide_eq_true AS
    obtain ⟨ad701, e701, hx701_0⟩ := Kd.at_string (HM.CR 0 rfl).2.2 0 p701 q701
    cases e701
    have qi701 : (0 < t682.length) = True := eq_true (by omega)
    (try rw [show ((0 : Int)).toNat = 0 from rfl] at hx701_0)
    (try rw [Addr.add_zero'] at hx701_0)
    replace p701 := eq_true p701
    replace q701 := eq_true q701
    go_wp2
    repeat (go_quiet (fail); try go_wp2_with (fail))
    go_ret2
    exact ⟨_, ER, (MD HM).pick [1]⟩
mutual
def impl_TextThree.j0 : Nat → List ByteArray → Bool → Option (Int × Int × (List (S60)) × (List (S60)) × List Int × Int)
 | 0, _, _ => none
 | k + 1, x4, x28 => if x28 = true then (some (0, 0, ([] : List (S60)), ([] : List (S60)), ([] : List Int), 2)) else (if 0 < (x4.length : Int) then ((impl_numbers.f k (rdOf ByteArray.empty x4 0) (⟨#[116, 104, 114, 101, 101]⟩ : ByteArray)).bind fun bt709 => (if 1 < (x4.length : Int) then ((impl_items.f k (rdOf ByteArray.empty x4 1) (⟨#[115, 109, 97, 108, 108]⟩ : ByteArray)).bind fun bt714 => (if 2 < (x4.length : Int) then ((impl_items.f k (rdOf ByteArray.empty x4 2) (⟨#[109, 97, 105, 110]⟩ : ByteArray)).bind fun bt719 => (if 3 < (x4.length : Int) then ((impl_numbers.f k (rdOf ByteArray.empty x4 3) (⟨#[103, 104, 111, 115, 116]⟩ : ByteArray)).bind fun bt724 => (if bt709.2 = true then (if bt714.2 = true then (if bt719.2 = true then (if bt724.2 = true then (impl_TextThree.j1 k bt709.1 bt714.1 bt719.1 bt724.1 ((bt709.1.length : Int) != 2)) else (impl_TextThree.j1 k bt709.1 bt714.1 bt719.1 bt724.1 true)) else (impl_TextThree.j1 k bt709.1 bt714.1 bt719.1 bt724.1 true)) else (impl_TextThree.j1 k bt709.1 bt714.1 bt719.1 bt724.1 true)) else (impl_TextThree.j1 k bt709.1 bt714.1 bt719.1 bt724.1 true))) else (none))) else (none))) else (none))) else (none))
def impl_TextThree.j1 : Nat → List Int → List (S60) → List (S60) → List Int → Bool → Option (Int × Int × (List (S60)) × (List (S60)) × List Int × Int)
 | 0, _, _, _, _, _ => none
 | k + 1, x5, x7, x9, x11, x76 => if x76 = true then (some (0, 0, ([] : List (S60)), ([] : List (S60)), ([] : List Int), 2)) else (if 0 < (x5.length : Int) then (if 1 < (x5.length : Int) then ((impl_ThreeOk.f k (rd x5 0) (rd x5 1) x7 x9 x11).bind fun t731 => (if t731 = true then (some (rd x5 0, rd x5 1, x7, x9, x11, 0)) else (some (0, 0, ([] : List (S60)), ([] : List (S60)), ([] : List Int), 3)))) else (none)) else (none))
end
def impl_TextThree.f (k : Nat) (a0 : ByteArray) : Option (Int × Int × (List (S60)) × (List (S60)) × List Int × Int) := if (a0.size : Int) > 8000 then (some (0, 0, ([] : List (S60)), ([] : List (S60)), ([] : List Int), 1)) else ((impl_split.f k a0 10).bind fun t704 => (if (t704.length : Int) = 5 then (if 4 < (t704.length : Int) then (impl_TextThree.j0 k t704 ((rdOf ByteArray.empty t704 4).toList != ([] : List UInt8))) else (none)) else (impl_TextThree.j0 k t704 true)))
def impl_TextThree.T12 : Bool × List (List Nat × List Nat) := (true, [([], []), ([0], [0]), ([1], [1]), ([], []), ([3], [3]), ([4], [4]), ([], []), ([], []), ([], []), ([2, 5, 6, 7, 8], [2, 5, 6, 7, 8]), ([], []), ([10, 9, 0, 1, 2, 3, 4, 5, 6, 7, 8, 9, 10], [9, 10])])
def impl_TextThree.B12 : List Nat := [0, 1, 3, 0, 8, 24, 0, 0, 0, 511, 0, 2047]
theorem impl_TextThree.tab12 : rtab .any (opsOf Tryz.f14 12) = impl_TextThree.T12 := by kernel_rfl
theorem impl_TextThree.bits12 : waitsOk impl_TextThree.T12.2 impl_TextThree.B12 = true := by kernel_rfl
theorem impl_TextThree.z0 {P : Prop} (h : P := by have := HJ6.out; first | omega | exact Nat.le_refl _) : P := h
theorem impl_TextThree.calls (k : Nat) (a0 : ByteArray) (r1 : Int) (r2 : Int) (r3 : List (S60)) (r4 : List (S60)) (r5 : List Int) (r6 : Int) (w : World)  (h : impl_TextThree.f k a0 = some (r1, r2, r3, r4, r5, r6)) :
  Calls Tryz.prog 14 #[.string a0] w fun e w' => ∃ v2_ v3_ v4_ : Value, e = .returned (.tuple #[.agg #[.int .i64 r1, .int .i64 r2, v2_, v3_, v4_], .int .i64 r6]) ∧ Mem w [] w' [rowR k60 60 v2_ r3, rowR k60 60 v3_ r4, rowR (Kd.int .i64) 3 v4_ r5] := by
 have hu26 := Tryz.underlying26
 have HM := Mem.nil w
 have H := h
 clear h
 unfold impl_TextThree.f at H
 go_enter Tryz.func14, Tryz.ntmps14
 go_upto_if 16 with (first | ((with_reducible refine gN 2 rfl ?_); refine pB 2 26 [.int .i64 0, .int .i64 0, .slice none 0 0, .slice none 0 0, .slice none 0 0] HM rfl ?_; clear HM; intro gb703 w2 HM))
 replace H := IT H; rcases H with ⟨c3, H⟩ | ⟨c3, H⟩
 ·replace c3 : (a0.size : Int) > 8000 := c3
  have c3b0 : decide (8000 < (a0.size : Int)) = true := decide_eq_true c3
  have c3b1 : decide (8000 < a0.size) = true := decide_eq_true (by omega)
  clear c3
  first|rw [c3b0]|(simp only [i64_w, i32_w]; rw [c3b0])|skip
  simp only [Option.some.injEq, Prod.mk.injEq] at H
  obtain ⟨rfl, rfl, rfl, rfl, rfl, rfl⟩ := H
  go_wp2_with (first | ((with_reducible refine gS 2 rfl ?_); refine pS 0 2 0 [.int .i64 0, .int .i64 0, .slice none 0 0, .slice none 0 0, .slice none 0 0] HM rfl rfl ?_; clear HM; intro w4 HM; replace HM := HM.nl k60 60; replace HM := HM.nl k60 60; replace HM := HM.nl (Kd.int .i64) 3))
  refine bodyPost_ret (results_ct rfl _ _ gb703 26 #[.int .i64 0, .int .i64 0, .slice none 0 0, .slice none 0 0, .slice none 0 0] (0, 0) _ rfl (HM.bx 0 rfl) Tryz.underlying26 rfl (by kernel_rfl)) rfl ?_
  exact ⟨_, _, _, ER, (MD HM).pick [1, 2, 3]⟩
 ·replace c3 : ¬ ((a0.size : Int) > 8000) := c3
  have c3b0 : decide (8000 < (a0.size : Int)) = false := decide_eq_false c3
  have c3b1 : decide (8000 < a0.size) = false := decide_eq_false (by omega)
  clear c3
  first|rw [c3b0]|(simp only [i64_w, i32_w]; rw [c3b0])|skip
  replace H := BN H; obtain ⟨t704, A5, H⟩ := H
  have HC7 := Aside0.mk H
  clear H
  go_upto_region 4 with (first | ((with_reducible refine gC 33 rfl ?_); refine pC (some 19) rfl #[.string a0, .int .u8 10] rfl Tryz.func33 (impl_split.calls k a0 10 t704 _ A5.out) ?_; rintro e w6 ⟨v705, rfl, hR⟩; refine ⟨_, rfl, ?_⟩; replace HM := HM.call hR; clear hR))
  go_cut [28] (fun v28 wc => ∃ (kq : Nat) (x28_6 : Bool), v28 = .bool x28_6 ∧ Aside0 (impl_TextThree.j0 kq t704 x28_6 = some (r1, r2, r3, r4, r5, r6)) ∧ Aside0 (kq ≤ k) ∧ Mem w [] wc [rowR Kd.string 9 v705 t704, box 26 gb703 [.int .i64 0, .int .i64 0, .slice none 0 0, .slice none 0 0, .slice none 0 0]])
  case first =>
   have H := HC7.out
   clear HC7
   replace H := IT H; rcases H with ⟨c9, H⟩ | ⟨c9, H⟩
   ·obtain ⟨c9b0, c9b1⟩ := BE c9
    clear c9
    replace H := GD H; obtain ⟨c10, H⟩ := H
    replace c10 : 4 < (t704.length : Int) := c10
    have c10b0 := decide_eq_true c10
    have c10b1 : decide (4 < t704.length) = true := decide_eq_true (by omega)
    have c10b9 : decide (4 < t704.length) = true := decide_eq_true (by omega)
    clear c10
    have H' := Aside0.mk H
    clear H
    obtain ⟨Xo8, ko8, rfl⟩ := HM.rdR 1 rfl
    have p707 : 0 ≤ (4 : Int) := (by omega)
    have q707 : (4 : Int) < (t704.length : Int) := of_decide_eq_true AS
    obtain ⟨ad707, e707, hx707_0⟩ := Kd.at_string (HM.CR 1 rfl).2.2 4 p707 q707
    cases e707
    have qi707 : (4 < t704.length) = True := eq_true (by omega)
    (try rw [show ((4 : Int)).toNat = 4 from rfl] at hx707_0)
    (try simp only [Nat.reduceMul, Nat.reduceEqDiff, Go.Addr.add, ↓reduceIte] at hx707_0)
    replace p707 := eq_true p707
    replace q707 := eq_true q707
    go_wp2
    go_meet
    case rel => exact ⟨_, (((rdOf ByteArray.empty t704 4).toList != ([] : List UInt8))), (by first | rfl | (generalize (rdOf ByteArray.empty t704 4) = y_; cases y_ with | mk d_ => cases d_ with | mk l_ => cases l_ <;> rfl) | (simp; done) | (generalize (rdOf ByteArray.empty t704 4).toList = y_; cases y_ <;> simp)), H', ⟨by first | omega | exact Nat.le_refl _⟩, (MD HM).pick [1, 0]⟩
   ·obtain ⟨c9b0, c9b1⟩ := BF c9
    have H' := Aside0.mk H
    clear H
    obtain ⟨Xo8, ko8, rfl⟩ := HM.rdR 1 rfl
    go_wp2
    go_meet
    case rel => exact ⟨_, (true), RS, H', ⟨by first | omega | exact Nat.le_refl _⟩, (MD HM).pick [1, 0]⟩
  case rest =>
   clear HC7 HM
   obtain ⟨kq, x28_6, rfl, HA, HJ6, HM⟩ := hcut
   cases kq with
   | zero => exact absurd HA.out (by simp [impl_TextThree.j0])
   | succ kj6 =>
    have H := HA.out
    clear HA
    simp only [impl_TextThree.j0] at H
    go_upto_if 28 with (fail)
    replace H := IB H
    rcases H with ⟨c11, H⟩ | ⟨c11, H⟩
    ·subst c11
     simp only [Option.some.injEq, Prod.mk.injEq] at H
     obtain ⟨rfl, rfl, rfl, rfl, rfl, rfl⟩ := H
     go_wp2_with (first | ((with_reducible refine gS 2 rfl ?_); refine pS 1 2 0 [.int .i64 0, .int .i64 0, .slice none 0 0, .slice none 0 0, .slice none 0 0] HM rfl rfl ?_; clear HM; intro w12 HM; replace HM := HM.nl k60 60; replace HM := HM.nl k60 60; replace HM := HM.nl (Kd.int .i64) 3))
     refine bodyPost_ret (results_ct rfl _ _ gb703 26 #[.int .i64 0, .int .i64 0, .slice none 0 0, .slice none 0 0, .slice none 0 0] (0, 0) _ rfl (HM.bx 1 rfl) Tryz.underlying26 rfl (by kernel_rfl)) rfl ?_
     exact ⟨_, _, _, ER, (MD HM).pick [2, 3, 4]⟩
    ·subst c11
     replace H := GD H; obtain ⟨c13, H⟩ := H
     replace c13 : 0 < (t704.length : Int) := c13
     have c13b0 := decide_eq_true c13
     have c13b1 : decide (0 < t704.length) = true := decide_eq_true (by omega)
     have c13b9 : decide (0 < t704.length) = true := decide_eq_true (by omega)
     clear c13
     replace H := BN H; obtain ⟨⟨t709, t710⟩, A15, H⟩ := H
     replace H := GD H; obtain ⟨c17, H⟩ := H
     replace c17 : 1 < (t704.length : Int) := c17
     have c17b0 : decide (1 < (t704.length : Int)) = true := decide_eq_true c17
     have c17b1 : decide (1 < t704.length) = true := decide_eq_true (by omega)
     have c17b9 : decide (1 < t704.length) = true := decide_eq_true (by omega)
     clear c17
     replace H := BN H; obtain ⟨⟨t714, t715⟩, A18, H⟩ := H
     replace H := GD H; obtain ⟨c20, H⟩ := H
     replace c20 : 2 < (t704.length : Int) := c20
     have c20b0 : decide (2 < (t704.length : Int)) = true := decide_eq_true c20
     have c20b1 : decide (2 < t704.length) = true := decide_eq_true (by omega)
     have c20b9 : decide (2 < t704.length) = true := decide_eq_true (by omega)
     clear c20
     replace H := BN H; obtain ⟨⟨t719, t720⟩, A21, H⟩ := H
     replace H := GD H; obtain ⟨c23, H⟩ := H
     replace c23 : 3 < (t704.length : Int) := c23
     have c23b0 : decide (3 < (t704.length : Int)) = true := decide_eq_true c23
     have c23b1 : decide (3 < t704.length) = true := decide_eq_true (by omega)
     have c23b9 : decide (3 < t704.length) = true := decide_eq_true (by omega)
     clear c23
     replace H := BN H; obtain ⟨⟨t724, t725⟩, A24, H⟩ := H
     have HC26 := Aside0.mk H
     clear H
     obtain ⟨Xo14, ko14, rfl⟩ := HM.rdR 0 rfl
     have p708 : 0 ≤ (0 : Int) := (by omega)
     have q708 : (0 : Int) < (t704.length : Int) := of_decide_eq_true AS
     obtain ⟨ad708, e708, hx708_0⟩ := Kd.at_string (HM.CR 0 rfl).2.2 0 p708 q708
     cases e708
     have qi708 : (0 < t704.length) = True := eq_true (by omega)
     (try rw [show ((0 : Int)).toNat = 0 from rfl] at hx708_0)
     (try rw [Addr.add_zero'] at hx708_0)
     replace p708 := eq_true p708
     replace q708 := eq_true q708
     go_upto_region 10 with (first | ((with_reducible refine gC 34 rfl ?_); refine pC (some 34) rfl #[.string (rdOf ByteArray.empty t704 0), .string (⟨#[116, 104, 114, 101, 101]⟩ : ByteArray)] rfl Tryz.func34 (impl_numbers.calls kj6 (rdOf ByteArray.empty t704 0) (⟨#[116, 104, 114, 101, 101]⟩ : ByteArray) t709 t710 _ A15.out) ?_; rintro e w16 ⟨v711, rfl, hR⟩; refine ⟨_, rfl, ?_⟩; replace HM := HM.call hR; clear hR; have p713 : 0 ≤ (1 : Int) := (by omega); have q713 : (1 : Int) < (t704.length : Int) := of_decide_eq_true AS; obtain ⟨ad713, e713, hx713_0⟩ := Kd.at_string (HM.CR 0 rfl).2.2 1 p713 q713; obtain rfl := Option.some.inj e713; have qi713 : (1 < t704.length) = True := eq_true (by omega); (try rw [show ((1 : Int)).toNat = 1 from rfl] at hx713_0); (try simp only [Nat.reduceMul, Nat.reduceEqDiff, Go.Addr.add, ↓reduceIte] at hx713_0); replace p713 := eq_true p713; replace q713 := eq_true q713) | ((with_reducible refine gC 35 rfl ?_); refine pC (some 41) rfl #[.string (rdOf ByteArray.empty t704 1), .string (⟨#[115, 109, 97, 108, 108]⟩ : ByteArray)] rfl Tryz.func35 (impl_items.calls kj6 (rdOf ByteArray.empty t704 1) (⟨#[115, 109, 97, 108, 108]⟩ : ByteArray) t714 t715 _ A18.out) ?_; rintro e w19 ⟨v716, rfl, hR⟩; refine ⟨_, rfl, ?_⟩; replace HM := HM.call hR; clear hR; have p718 : 0 ≤ (2 : Int) := (by omega); have q718 : (2 : Int) < (t704.length : Int) := of_decide_eq_true AS; obtain ⟨ad718, e718, hx718_0⟩ := Kd.at_string (HM.CR 0 rfl).2.2 2 p718 q718; obtain rfl := Option.some.inj e718; have qi718 : (2 < t704.length) = True := eq_true (by omega); (try rw [show ((2 : Int)).toNat = 2 from rfl] at hx718_0); (try simp only [Nat.reduceMul, Nat.reduceEqDiff, Go.Addr.add, ↓reduceIte] at hx718_0); replace p718 := eq_true p718; replace q718 := eq_true q718) | ((with_reducible refine gC 35 rfl ?_); refine pC (some 48) rfl #[.string (rdOf ByteArray.empty t704 2), .string (⟨#[109, 97, 105, 110]⟩ : ByteArray)] rfl Tryz.func35 (impl_items.calls kj6 (rdOf ByteArray.empty t704 2) (⟨#[109, 97, 105, 110]⟩ : ByteArray) t719 t720 _ A21.out) ?_; rintro e w22 ⟨v721, rfl, hR⟩; refine ⟨_, rfl, ?_⟩; replace HM := HM.call hR; clear hR; have p723 : 0 ≤ (3 : Int) := (by omega); have q723 : (3 : Int) < (t704.length : Int) := of_decide_eq_true AS; obtain ⟨ad723, e723, hx723_0⟩ := Kd.at_string (HM.CR 0 rfl).2.2 3 p723 q723; obtain rfl := Option.some.inj e723; have qi723 : (3 < t704.length) = True := eq_true (by omega); (try rw [show ((3 : Int)).toNat = 3 from rfl] at hx723_0); (try simp only [Nat.reduceMul, Nat.reduceEqDiff, Go.Addr.add, ↓reduceIte] at hx723_0); replace p723 := eq_true p723; replace q723 := eq_true q723) | ((with_reducible refine gC 34 rfl ?_); refine pC (some 55) rfl #[.string (rdOf ByteArray.empty t704 3), .string (⟨#[103, 104, 111, 115, 116]⟩ : ByteArray)] rfl Tryz.func34 (impl_numbers.calls kj6 (rdOf ByteArray.empty t704 3) (⟨#[103, 104, 111, 115, 116]⟩ : ByteArray) t724 t725 _ A24.out) ?_; rintro e w25 ⟨v726, rfl, hR⟩; refine ⟨_, rfl, ?_⟩; replace HM := HM.call hR; clear hR))
     replace HM := nzM HM
     go_cut [76] (fun v76 wc => ∃ (kq : Nat) (x76_25 : Bool), v76 = .bool x76_25 ∧ Aside0 (impl_TextThree.j1 kq t709 t714 t719 t724 x76_25 = some (r1, r2, r3, r4, r5, r6)) ∧ Aside0 (kq ≤ kj6) ∧ Mem w [] wc [rowR (Kd.int .i64) 3 v711 t709, rowR k60 60 v716 t714, rowR k60 60 v721 t719, rowR (Kd.int .i64) 3 v726 t724, box 26 gb703 [.int .i64 0, .int .i64 0, .slice none 0 0, .slice none 0 0, .slice none 0 0]])
     case first =>
      have H := HC26.out
      clear HC26
      replace H := IB H
      rcases H with ⟨c27, H⟩ | ⟨c27, H⟩
      ·subst c27
       replace H := IB H
       rcases H with ⟨c28, H⟩ | ⟨c28, H⟩
       ·subst c28
        replace H := IB H
        rcases H with ⟨c29, H⟩ | ⟨c29, H⟩
        ·subst c29
         replace H := IB H
         rcases H with ⟨c30, H⟩ | ⟨c30, H⟩
         ·subst c30
          have H' := Aside0.mk H
          clear H
          obtain ⟨Xo31, ko31, rfl⟩ := HM.rdR 2 rfl
          go_wp2
          go_meet
          case rel => exact ⟨_, (((t709.length : Int) != 2)), RS, H', ⟨impl_TextThree.z0⟩, (MD HM).pick [2, 3, 4, 5, 1]⟩
         ·subst c30
          have H' := Aside0.mk H
          clear H
          go_wp2
          go_meet
          case rel => exact ⟨_, (true), RS, H', ⟨impl_TextThree.z0⟩, (MD HM).pick [2, 3, 4, 5, 1]⟩
        ·subst c29
         have H' := Aside0.mk H
         clear H
         go_wp2
         go_meet
         case rel => exact ⟨_, (true), RS, H', ⟨impl_TextThree.z0⟩, (MD HM).pick [2, 3, 4, 5, 1]⟩
       ·subst c28
        have H' := Aside0.mk H
        clear H
        go_wp2
        go_meet
        case rel => exact ⟨_, (true), RS, H', ⟨impl_TextThree.z0⟩, (MD HM).pick [2, 3, 4, 5, 1]⟩
      ·subst c27
       have H' := Aside0.mk H
       clear H
       go_wp2
       go_meet
       case rel => exact ⟨_, (true), RS, H', ⟨impl_TextThree.z0⟩, (MD HM).pick [2, 3, 4, 5, 1]⟩
     case rest =>
      clear HC26 HM
      obtain ⟨kq, x76_25, rfl, HA, HJ25, HM⟩ := hcut
      cases kq with
      | zero => exact absurd HA.out (by simp [impl_TextThree.j1])
      | succ kj25 =>
       have H := HA.out
       clear HA
       simp only [impl_TextThree.j1] at H
       go_upto_if 76 with (fail)
       replace H := IB H
       rcases H with ⟨c32, H⟩ | ⟨c32, H⟩
       ·subst c32
        simp only [Option.some.injEq, Prod.mk.injEq] at H
        obtain ⟨rfl, rfl, rfl, rfl, rfl, rfl⟩ := H
        go_wp2_with (first | ((with_reducible refine gS 2 rfl ?_); refine pS 4 2 0 [.int .i64 0, .int .i64 0, .slice none 0 0, .slice none 0 0, .slice none 0 0] HM rfl rfl ?_; clear HM; intro w33 HM; replace HM := HM.nl k60 60; replace HM := HM.nl k60 60; replace HM := HM.nl (Kd.int .i64) 3))
        refine bodyPost_ret (results_ct rfl _ _ gb703 26 #[.int .i64 0, .int .i64 0, .slice none 0 0, .slice none 0 0, .slice none 0 0] (0, 0) _ rfl (HM.bx 4 rfl) Tryz.underlying26 rfl (by kernel_rfl)) rfl ?_
        exact ⟨_, _, _, ER, (MD HM).pick [5, 6, 7]⟩
       ·subst c32
        try go_wp2
        replace H := GD H; obtain ⟨c34, H⟩ := H
        replace c34 : 0 < (t709.length : Int) := c34
        have c34b0 : decide (0 < (t709.length : Int)) = true := decide_eq_true c34
        have c34b1 : decide (0 < t709.length) = true := decide_eq_true (by omega)
        have c34b9 : decide (0 < t709.length) = true := decide_eq_true (by omega)
        clear c34
        replace H := GD H; obtain ⟨c35, H⟩ := H
        replace c35 : 1 < (t709.length : Int) := c35
        have c35b0 : decide (1 < (t709.length : Int)) = true := decide_eq_true c35
        have c35b1 : decide (1 < t709.length) = true := decide_eq_true (by omega)
        have c35b9 : decide (1 < t709.length) = true := decide_eq_true (by omega)
        clear c35
        obtain ⟨Xo48, ko48, rfl⟩ := HM.rdR 0 rfl
        have p728 : 0 ≤ (0 : Int) := (by omega)
        have q728 : (0 : Int) < (t709.length : Int) := of_decide_eq_true AS
        obtain ⟨ad728, e728, hx728_0⟩ := Kd.at_int (HM.CR 0 rfl).2.2 0 p728 q728
        cases e728
        have qi728 : (0 < t709.length) = True := eq_true (by omega)
        (try rw [show ((0 : Int)).toNat = 0 from rfl] at hx728_0)
        (try rw [Addr.add_zero'] at hx728_0)
        replace p728 := eq_true p728
        replace q728 := eq_true q728
        have p729 : 0 ≤ (1 : Int) := (by omega)
        have q729 : (1 : Int) < (t709.length : Int) := of_decide_eq_true AS
        obtain ⟨ad729, e729, hx729_0⟩ := Kd.at_int (HM.CR 0 rfl).2.2 1 p729 q729
        obtain rfl := Option.some.inj e729
        have qi729 : (1 < t709.length) = True := eq_true (by omega)
        (try rw [show ((1 : Int)).toNat = 1 from rfl] at hx729_0)
        (try simp only [Nat.reduceMul, Nat.reduceEqDiff, Go.Addr.add, ↓reduceIte] at hx729_0)
        replace p729 := eq_true p729
        replace q729 := eq_true q729
        obtain ⟨Xo49, ko49, rfl⟩ := HM.rdR 1 rfl
        obtain ⟨Xo50, ko50, rfl⟩ := HM.rdR 2 rfl
        obtain ⟨Xo51, ko51, rfl⟩ := HM.rdR 3 rfl
        refine RGN 12 [0, 1, 2, 3, 4, 5, 6, 7, 8, 9, 10, 11] (fun a0 b a w' => ∃ (gb730 : Nat), a = putSel a0 b [(0, 78, .slice (some ad728) t709.length ko48), (1, 79, .pointer (some ad728)), (2, 80, .int .i64 (rd t709 0)), (3, 81, .slice (some ad728) t709.length ko48), (4, 82, .pointer (some (ad728.add 1))), (5, 83, .int .i64 (rd t709 1)), (6, 84, .slice Xo49 t714.length ko49), (7, 85, .slice Xo50 t719.length ko50), (8, 86, .slice Xo51 t724.length ko51), (9, 87, .agg #[.int .i64 (rd t709 0), .int .i64 (rd t709 1), .slice Xo49 t714.length ko49, .slice Xo50 t719.length ko50, .slice Xo51 t724.length ko51]), (10, 13, .pointer (some ⟨gb730, 0, none⟩))] ∧ Mem w [] w' [rowR (Kd.int .i64) 3 (.slice (some ad728) t709.length ko48) t709, rowR k60 60 (.slice Xo49 t714.length ko49) t714, rowR k60 60 (.slice Xo50 t719.length ko50) t719, rowR (Kd.int .i64) 3 (.slice Xo51 t724.length ko51) t724, box 26 gb703 [.int .i64 0, .int .i64 0, .slice none 0 0, .slice none 0 0, .slice none 0 0], sel (b 11) (box 26 gb730 [.int .i64 (rd t709 0), .int .i64 (rd t709 1), .slice Xo49 t714.length ko49, .slice Xo50 t719.length ko50, .slice Xo51 t724.length ko51]) (sel (b 10) (box 26 gb730 [.int .i64 0, .int .i64 0, .slice none 0 0, .slice none 0 0, .slice none 0 0]) (emp))]) impl_TextThree.tab12 impl_TextThree.bits12 ?_ ?_ ?_
        ·exact ⟨0, PS0' rfl _, (HM.drew.ems 1).pick [0, 1, 2, 3, 4, 5]⟩
        ·clear HM
         refine SZ ?_ ?_
         ·rintro b a w ⟨gb730, ha, HM⟩ hb hon hoff K hK
          replace ha := Aside0.mk ha
          have e5 := PG ha 5
          exact VL (.slice (some ad728) t709.length ko48) (hK.out _ _ ⟨gb730, PUT ha 0 hb, HM⟩)
         refine SZ ?_ ?_
         ·rintro b a w ⟨gb730, ha, HM⟩ hb hon hoff K hK
          replace ha := Aside0.mk ha
          have p728 : 0 ≤ (0 : Int) := (by omega)
          have q728 : (0 : Int) < (t709.length : Int) := of_decide_eq_true AS
          obtain ⟨ad728, e728, hx728_0⟩ := Kd.at_int (HM.CR 0 rfl).2.2 0 p728 q728
          obtain rfl := Option.some.inj e728
          have qi728 : (0 < t709.length) = True := eq_true (by omega)
          (try rw [show ((0 : Int)).toNat = 0 from rfl] at hx728_0)
          (try rw [Addr.add_zero'] at hx728_0)
          replace p728 := eq_true p728
          replace q728 := eq_true q728
          have e78 := PE ha 0 hon
          exact VL (.pointer (some ad728)) (hK.out _ _ ⟨gb730, PUT ha 1 hb, HM⟩)
         refine SZ ?_ ?_
         ·rintro b a w ⟨gb730, ha, HM⟩ hb hon hoff K hK
          replace ha := Aside0.mk ha
          have p728 : 0 ≤ (0 : Int) := (by omega)
          have q728 : (0 : Int) < (t709.length : Int) := of_decide_eq_true AS
          obtain ⟨ad728, e728, hx728_0⟩ := Kd.at_int (HM.CR 0 rfl).2.2 0 p728 q728
          obtain rfl := Option.some.inj e728
          have qi728 : (0 < t709.length) = True := eq_true (by omega)
          (try rw [show ((0 : Int)).toNat = 0 from rfl] at hx728_0)
          (try rw [Addr.add_zero'] at hx728_0)
          replace p728 := eq_true p728
          replace q728 := eq_true q728
          have e79 := PE ha 1 hon
          exact VL (.int .i64 (rd t709 0)) (hK.out _ _ ⟨gb730, PUT ha 2 hb, HM⟩)
         refine SZ ?_ ?_
         ·rintro b a w ⟨gb730, ha, HM⟩ hb hon hoff K hK
          replace ha := Aside0.mk ha
          have e5 := PG ha 5
          exact VL (.slice (some ad728) t709.length ko48) (hK.out _ _ ⟨gb730, PUT ha 3 hb, HM⟩)
         refine SZ ?_ ?_
         ·rintro b a w ⟨gb730, ha, HM⟩ hb hon hoff K hK
          replace ha := Aside0.mk ha
          have p729 : 0 ≤ (1 : Int) := (by omega)
          have q729 : (1 : Int) < (t709.length : Int) := of_decide_eq_true AS
          obtain ⟨ad729, e729, hx729_0⟩ := Kd.at_int (HM.CR 0 rfl).2.2 1 p729 q729
          obtain rfl := Option.some.inj e729
          have qi729 : (1 < t709.length) = True := eq_true (by omega)
          (try rw [show ((1 : Int)).toNat = 1 from rfl] at hx729_0)
          (try simp only [Nat.reduceMul, Nat.reduceEqDiff, Go.Addr.add, ↓reduceIte] at hx729_0)
          replace p729 := eq_true p729
          replace q729 := eq_true q729
          have e81 := PE ha 3 hon
          exact VL (.pointer (some (ad728.add 1))) (hK.out _ _ ⟨gb730, PUT ha 4 hb, HM⟩)
         refine SZ ?_ ?_
         ·rintro b a w ⟨gb730, ha, HM⟩ hb hon hoff K hK
          replace ha := Aside0.mk ha
          have p729 : 0 ≤ (1 : Int) := (by omega)
          have q729 : (1 : Int) < (t709.length : Int) := of_decide_eq_true AS
          obtain ⟨ad729, e729, hx729_0⟩ := Kd.at_int (HM.CR 0 rfl).2.2 1 p729 q729
          obtain rfl := Option.some.inj e729
          have qi729 : (1 < t709.length) = True := eq_true (by omega)
          (try rw [show ((1 : Int)).toNat = 1 from rfl] at hx729_0)
          (try simp only [Nat.reduceMul, Nat.reduceEqDiff, Go.Addr.add, ↓reduceIte] at hx729_0)
          replace p729 := eq_true p729
          replace q729 := eq_true q729
          have e82 := PE ha 4 hon
          exact VL (.int .i64 (rd t709 1)) (hK.out _ _ ⟨gb730, PUT ha 5 hb, HM⟩)
         refine SZ ?_ ?_
         ·rintro b a w ⟨gb730, ha, HM⟩ hb hon hoff K hK
          replace ha := Aside0.mk ha
          have e7 := PG ha 7
          exact VL (.slice Xo49 t714.length ko49) (hK.out _ _ ⟨gb730, PUT ha 6 hb, HM⟩)
         refine SZ ?_ ?_
         ·rintro b a w ⟨gb730, ha, HM⟩ hb hon hoff K hK
          replace ha := Aside0.mk ha
          have e9 := PG ha 9
          exact VL (.slice Xo50 t719.length ko50) (hK.out _ _ ⟨gb730, PUT ha 7 hb, HM⟩)
         refine SZ ?_ ?_
         ·rintro b a w ⟨gb730, ha, HM⟩ hb hon hoff K hK
          replace ha := Aside0.mk ha
          have e11 := PG ha 11
          exact VL (.slice Xo51 t724.length ko51) (hK.out _ _ ⟨gb730, PUT ha 8 hb, HM⟩)
         refine SZ ?_ ?_
         ·rintro b a w ⟨gb730, ha, HM⟩ hb hon hoff K hK
          replace ha := Aside0.mk ha
          have e80 := PE ha 2 hon
          have e83 := PE ha 5 hon
          have e84 := PE ha 6 hon
          have e85 := PE ha 7 hon
          have e86 := PE ha 8 hon
          exact VL (.agg #[.int .i64 (rd t709 0), .int .i64 (rd t709 1), .slice Xo49 t714.length ko49, .slice Xo50 t719.length ko50, .slice Xo51 t724.length ko51]) (hK.out _ _ ⟨gb730, PUT ha 9 hb, HM⟩)
         refine SZ ?_ ?_
         ·rintro b a w ⟨gb730, ha, HM⟩ hb hon hoff K hK
          replace ha := Aside0.mk ha
          refine ST (eB 13 26 [.int .i64 0, .int .i64 0, .slice none 0 0, .slice none 0 0, .slice none 0 0] HM rfl ?_)
          clear HM
          intro gb730 w52 HM
          exact hK.out _ _ ⟨gb730, PUT ha 10 hb, (HM.iF 6 rfl (hoff 11 rfl)).pick [0, 1, 2, 3, 4, 6]⟩
         refine SZ ?_ ?_
         ·rintro b a w ⟨gb730, ha, HM⟩ hb hon hoff K hK
          replace ha := Aside0.mk ha
          replace HM := (HM.sF 5 rfl hb).sT 5 rfl (hon 10 rfl)
          have e13 := PE ha 10 hon
          have e87 := PE ha 9 hon
          refine ST (eS 5 13 0 [.int .i64 (rd t709 0), .int .i64 (rd t709 1), .slice Xo49 t714.length ko49, .slice Xo50 t719.length ko50, .slice Xo51 t724.length ko51] HM rfl rfl ?_ (hp := (eval_of e13)) (hx := (by rw [eval_of e87]; rfl)))
          clear HM
          intro w53 HM
          exact hK.out _ _ ⟨gb730, PUS ha, (HM).pick [0, 1, 2, 3, 4, 5]⟩
         exact steps_nil
        rintro _ w54 ⟨gb730, rfl, HM⟩
        replace HM := HM.sT 5 rfl rfl
        simp only [putSel, if_true, Act.put, List.setIfInBounds_toArray, List.set_cons_zero, List.set_cons_succ, gt_iff_lt, ge_iff_le]
        replace H := BN H; obtain ⟨t731, A56, H⟩ := H
        obtain ⟨_,_,_,_,_,_,_,_,_,_⟩ := bk5 (HM.bx 5 rfl)
        go_upto_if 90 with (first | ((with_reducible refine gC 11 rfl ?_); refine pC (some 89) rfl #[.agg #[.int .i64 (rd t709 0), .int .i64 (rd t709 1), .slice Xo49 t714.length ko49, .slice Xo50 t719.length ko50, .slice Xo51 t724.length ko51]] rfl Tryz.func11 (impl_ThreeOk.calls kj25 (rd t709 0) (rd t709 1) _ _ t714 _ _ t719 _ _ t724 t731 _ (HM.CR 1 rfl).2.2 (HM.CR 1 rfl).2.1 (HM.CR 2 rfl).2.2 (HM.CR 2 rfl).2.1 (HM.CR 3 rfl).2.2 (HM.CR 3 rfl).2.1 A56.out) ?_; rintro e w57 ⟨rfl, hR⟩; refine ⟨_, rfl, ?_⟩; replace HM := HM.call hR; clear hR))
        replace H := IB H
        rcases H with ⟨c58, H⟩ | ⟨c58, H⟩
        ·subst c58
         simp only [Option.some.injEq, Prod.mk.injEq] at H
         obtain ⟨rfl, rfl, rfl, rfl, rfl, rfl⟩ := H
         obtain ⟨_,_,_,_,_,_,_,_,_,_⟩ := bk5 (HM.bx 5 rfl)
         go_wp2_with (first | ((with_reducible refine gS 2 rfl ?_); refine pS 4 2 0 [.int .i64 (rd t709 0), .int .i64 (rd t709 1), .slice Xo49 t714.length ko49, .slice Xo50 t719.length ko50, .slice Xo51 t724.length ko51] HM rfl rfl ?_; clear HM; intro w60 HM))
         refine bodyPost_ret (results_ct rfl _ _ gb703 26 #[.int .i64 (rd t709 0), .int .i64 (rd t709 1), .slice Xo49 t714.length ko49, .slice Xo50 t719.length ko50, .slice Xo51 t724.length ko51] (0, 0) _ rfl (HM.bx 4 rfl) Tryz.underlying26 rfl (by kernel_rfl)) rfl ?_
         exact ⟨_, _, _, ER, (MD HM).pick [1, 2, 3]⟩
        ·subst c58
         simp only [Option.some.injEq, Prod.mk.injEq] at H
         obtain ⟨rfl, rfl, rfl, rfl, rfl, rfl⟩ := H
         go_wp2_with (first | ((with_reducible refine gS 2 rfl ?_); refine pS 4 2 0 [.int .i64 0, .int .i64 0, .slice none 0 0, .slice none 0 0, .slice none 0 0] HM rfl rfl ?_; clear HM; intro w61 HM; replace HM := HM.nl k60 60; replace HM := HM.nl k60 60; replace HM := HM.nl (Kd.int .i64) 3))
         refine bodyPost_ret (results_ct rfl _ _ gb703 26 #[.int .i64 0, .int .i64 0, .slice none 0 0, .slice none 0 0, .slice none 0 0] (0, 0) _ rfl (HM.bx 4 rfl) Tryz.underlying26 rfl (by kernel_rfl)) rfl ?_
         exact ⟨_, _, _, ER, (MD HM).pick [6, 7, 8]⟩
def impl_copyInts.f (l0 : List Int) : Option (List Int) := if ([] : List Int).length + l0.length < 17592186044416 then (some (([] : List Int) ++ l0)) else (none)
theorem impl_copyInts.calls (A0 : Option Addr) (c0 : Nat) (l0 : List Int) (r : List Int) (w : World) (hr0 : Kd.C (Kd.int .i64) w A0 l0.length l0) (hc0 : l0.length ≤ c0) (h : impl_copyInts.f l0 = some r) :
  Calls Tryz.prog 36 #[.slice A0 l0.length c0] w fun e w' => ∃ v0_ : Value, e = .returned (v0_) ∧ Mem w [] w' [rowR (Kd.int .i64) 3 v0_ r] := by
 have HR0 := Aside0.mk hr0
 have HC0 := Aside0.mk hc0
 clear hr0 hc0
 have HM := Mem.nil w
 have H := h
 clear h
 unfold impl_copyInts.f at H
 go_enter Tryz.func36, Tryz.ntmps36
 replace H := GD H; obtain ⟨c2, H⟩ := H
 have LMc2 := Aside0.mk c2
 clear c2
 obtain rfl := Option.some.inj H
 go_wp2_with (first | ((with_reducible refine gate_builtin (b := .append) (xs := #[.const (.slice none 0 0), .tmp 3]) rfl ?_); refine pAn (.const (.slice none 0 0)) (.tmp 3) 24 3 (Kd.int .i64) l0 A0 l0.length c0 HM rfl Tryz.underlying24 info3 (HM.came HR0.out) (by have h_ := LMc2.out; omega) ?_; clear HM; intro v745 w3 HM))
 go_ret
 exact ⟨_, ER, (MD HM).pick [0]⟩
def impl_copyThree.f (a0_0 : Int) (a0_1 : Int) (l0_2 : List (S60)) (l0_3 : List (S60)) (l0_4 : List Int) : Option (Int × Int × (List (S60)) × (List (S60)) × List Int) := (impl_copyItems.f l0_2).bind fun t749 => ((impl_copyItems.f l0_3).bind fun t752 => ((impl_copyInts.f l0_4).bind fun t755 => (some (a0_0, a0_1, t749, t752, t755))))
def impl_copyThree.T1 : Bool × List (List Nat × List Nat) := (true, [([], []), ([0], [0]), ([], []), ([2], [2]), ([], []), ([4], [4]), ([5], [5]), ([], []), ([7], [7]), ([8, 6], [8]), ([], []), ([10], [10]), ([11, 9], [11]), ([1, 3, 6, 9, 12], [1, 3, 6, 9, 12]), ([13, 12, 0, 1, 2, 3, 4, 5, 6, 7, 8, 9, 10, 11, 12, 13], [13])])
def impl_copyThree.B1 : List Nat := [0, 1, 0, 4, 0, 16, 48, 0, 128, 496, 0, 1024, 4080, 8191, 16383]
theorem impl_copyThree.tab1 : rtab .any (opsOf Tryz.f15 1) = impl_copyThree.T1 := by kernel_rfl
theorem impl_copyThree.bits1 : waitsOk impl_copyThree.T1.2 impl_copyThree.B1 = true := by kernel_rfl
theorem impl_copyThree.calls (a0_0 : Int) (a0_1 : Int) (A0_2 : Option Addr) (c0_2 : Nat) (l0_2 : List (S60)) (A0_3 : Option Addr) (c0_3 : Nat) (l0_3 : List (S60)) (A0_4 : Option Addr) (c0_4 : Nat) (l0_4 : List Int) (r1 : Int) (r2 : Int) (r3 : List (S60)) (r4 : List (S60)) (r5 : List Int) (w : World) (hr0_2 : Kd.C k60 w A0_2 l0_2.length l0_2) (hc0_2 : l0_2.length ≤ c0_2) (hr0_3 : Kd.C k60 w A0_3 l0_3.length l0_3) (hc0_3 : l0_3.length ≤ c0_3) (hr0_4 : Kd.C (Kd.int .i64) w A0_4 l0_4.length l0_4) (hc0_4 : l0_4.length ≤ c0_4) (h : impl_copyThree.f a0_0 a0_1 l0_2 l0_3 l0_4 = some (r1, r2, r3, r4, r5)) :
  Calls Tryz.prog 15 #[.agg #[.int .i64 a0_0, .int .i64 a0_1, .slice A0_2 l0_2.length c0_2, .slice A0_3 l0_3.length c0_3, .slice A0_4 l0_4.length c0_4]] w fun e w' => ∃ v2_ v3_ v4_ : Value, e = .returned (.agg #[.int .i64 r1, .int .i64 r2, v2_, v3_, v4_]) ∧ Mem w [] w' [rowR k60 60 v2_ r3, rowR k60 60 v3_ r4, rowR (Kd.int .i64) 3 v4_ r5] := by
 have hu26 := Tryz.underlying26
 have HR0_2 := Aside0.mk hr0_2
 have HC0_2 := Aside0.mk hc0_2
 clear hr0_2 hc0_2
 have HR0_3 := Aside0.mk hr0_3
 have HC0_3 := Aside0.mk hc0_3
 clear hr0_3 hc0_3
 have HR0_4 := Aside0.mk hr0_4
 have HC0_4 := Aside0.mk hc0_4
 clear hr0_4 hc0_4
 have HM := Mem.nil w
 have H := h
 clear h
 unfold impl_copyThree.f at H
 go_enter Tryz.func15, Tryz.ntmps15
 try go_wp2_with (first | ((with_reducible refine gN 1 rfl ?_); refine pB 1 26 [.int .i64 a0_0, .int .i64 a0_1, .slice A0_2 l0_2.length c0_2, .slice A0_3 l0_3.length c0_3, .slice A0_4 l0_4.length c0_4] HM rfl ?_; clear HM; intro gb747 w2 HM) | ((with_reducible refine gN 2 rfl ?_); refine pB 2 26 [.int .i64 0, .int .i64 0, .slice none 0 0, .slice none 0 0, .slice none 0 0] HM rfl ?_; clear HM; intro gb748 w3 HM))
 replace H := BN H; obtain ⟨t749, A4, H⟩ := H
 replace H := BN H; obtain ⟨t752, A5, H⟩ := H
 replace H := BN H; obtain ⟨t755, A6, H⟩ := H
 refine RGN 15 [0, 1, 2, 3, 4, 5, 6, 7, 8, 9, 10, 11, 12, 13, 14] (fun a0 b a w' => ∃ (v750 : Value) (v753 : Value) (v756 : Value), a = putSel a0 b [(0, 3, .pointer (some ⟨gb747, 0, none⟩)), (1, 4, .int .i64 a0_0), (2, 5, .pointer (some ⟨gb747, 1, none⟩)), (3, 6, .int .i64 a0_1), (4, 7, .pointer (some ⟨gb747, 2, none⟩)), (5, 8, .slice A0_2 l0_2.length c0_2), (6, 9, v750), (7, 10, .pointer (some ⟨gb747, 3, none⟩)), (8, 11, .slice A0_3 l0_3.length c0_3), (9, 12, v753), (10, 13, .pointer (some ⟨gb747, 4, none⟩)), (11, 14, .slice A0_4 l0_4.length c0_4), (12, 15, v756), (13, 16, .agg #[.int .i64 a0_0, .int .i64 a0_1, v750, v753, v756])] ∧ Mem w [] w' [box 26 gb747 [.int .i64 a0_0, .int .i64 a0_1, .slice A0_2 l0_2.length c0_2, .slice A0_3 l0_3.length c0_3, .slice A0_4 l0_4.length c0_4], sel (b 14) (box 26 gb748 [.int .i64 a0_0, .int .i64 a0_1, v750, v753, v756]) (box 26 gb748 [.int .i64 0, .int .i64 0, .slice none 0 0, .slice none 0 0, .slice none 0 0]), sel (b 6) (rowR k60 60 v750 t749) (emp), sel (b 9) (rowR k60 60 v753 t752) (emp), sel (b 12) (rowR (Kd.int .i64) 3 v756 t755) (emp)]) impl_copyThree.tab1 impl_copyThree.bits1 ?_ ?_ ?_
 ·exact ⟨.bool false, .bool false, .bool false, PS0' rfl _, (HM.drew.ems 3).pick [0, 1, 2, 3, 4]⟩
 ·clear HM
  refine SZ ?_ ?_
  ·rintro b a w ⟨v750, v753, v756, ha, HM⟩ hb hon hoff K hK
   replace ha := Aside0.mk ha
   have e1 := PG ha 1
   exact VL (.pointer (some ⟨gb747, 0, none⟩)) (hK.out _ _ ⟨v750, v753, v756, PUT ha 0 hb, HM⟩)
  refine SZ ?_ ?_
  ·rintro b a w ⟨v750, v753, v756, ha, HM⟩ hb hon hoff K hK
   replace ha := Aside0.mk ha
   obtain ⟨_,_,_,_,_,_,_,_,_,_⟩ := bk5 (HM.bx 0 rfl)
   have e3 := PE ha 0 hon
   exact VL (.int .i64 a0_0) (hK.out _ _ ⟨v750, v753, v756, PUT ha 1 hb, HM⟩)
  refine SZ ?_ ?_
  ·rintro b a w ⟨v750, v753, v756, ha, HM⟩ hb hon hoff K hK
   replace ha := Aside0.mk ha
   have e1 := PG ha 1
   exact VL (.pointer (some ⟨gb747, 1, none⟩)) (hK.out _ _ ⟨v750, v753, v756, PUT ha 2 hb, HM⟩)
  refine SZ ?_ ?_
  ·rintro b a w ⟨v750, v753, v756, ha, HM⟩ hb hon hoff K hK
   replace ha := Aside0.mk ha
   obtain ⟨_,_,_,_,_,_,_,_,_,_⟩ := bk5 (HM.bx 0 rfl)
   have e5 := PE ha 2 hon
   exact VL (.int .i64 a0_1) (hK.out _ _ ⟨v750, v753, v756, PUT ha 3 hb, HM⟩)
  refine SZ ?_ ?_
  ·rintro b a w ⟨v750, v753, v756, ha, HM⟩ hb hon hoff K hK
   replace ha := Aside0.mk ha
   have e1 := PG ha 1
   exact VL (.pointer (some ⟨gb747, 2, none⟩)) (hK.out _ _ ⟨v750, v753, v756, PUT ha 4 hb, HM⟩)
  refine SZ ?_ ?_
  ·rintro b a w ⟨v750, v753, v756, ha, HM⟩ hb hon hoff K hK
   replace ha := Aside0.mk ha
   obtain ⟨_,_,_,_,_,_,_,_,_,_⟩ := bk5 (HM.bx 0 rfl)
   have e7 := PE ha 4 hon
   exact VL (.slice A0_2 l0_2.length c0_2) (hK.out _ _ ⟨v750, v753, v756, PUT ha 5 hb, HM⟩)
  refine SZ ?_ ?_
  ·rintro b a w ⟨v750, v753, v756, ha, HM⟩ hb hon hoff K hK
   replace ha := Aside0.mk ha
   have e8 := PE ha 5 hon
   refine ST (eC (some 9) rfl #[.slice A0_2 l0_2.length c0_2] rfl Tryz.func28 (impl_copyItems.calls _ _ l0_2 t749 _ (HM.came HR0_2.out) HC0_2.out A4.out) ?_ (hargs := by (simp only [List.map_toArray, List.map_cons, List.map_nil, evc, eval_of e8]) <;> rfl))
   rintro e w25 ⟨v750, rfl, hR⟩
   refine ⟨_, rfl, ?_⟩
   replace HM := HM.call hR
   clear hR
   exact hK.out _ _ ⟨v750, v753, v756, PUT (PCH ha 13 (hoff 13 rfl)) 6 hb, ((HM.sF 1 rfl (hoff 14 rfl)).iF 1 rfl (hoff 14 rfl)).pick [0, 1, 5, 3, 4]⟩
  refine SZ ?_ ?_
  ·rintro b a w ⟨v750, v753, v756, ha, HM⟩ hb hon hoff K hK
   replace ha := Aside0.mk ha
   have e1 := PG ha 1
   exact VL (.pointer (some ⟨gb747, 3, none⟩)) (hK.out _ _ ⟨v750, v753, v756, PUT ha 7 hb, HM⟩)
  refine SZ ?_ ?_
  ·rintro b a w ⟨v750, v753, v756, ha, HM⟩ hb hon hoff K hK
   replace ha := Aside0.mk ha
   obtain ⟨_,_,_,_,_,_,_,_,_,_⟩ := bk5 (HM.bx 0 rfl)
   have e10 := PE ha 7 hon
   exact VL (.slice A0_3 l0_3.length c0_3) (hK.out _ _ ⟨v750, v753, v756, PUT ha 8 hb, HM⟩)
  refine SZ ?_ ?_
  ·rintro b a w ⟨v750, v753, v756, ha, HM⟩ hb hon hoff K hK
   replace ha := Aside0.mk ha
   have e11 := PE ha 8 hon
   refine ST (eC (some 12) rfl #[.slice A0_3 l0_3.length c0_3] rfl Tryz.func28 (impl_copyItems.calls _ _ l0_3 t752 _ (HM.came HR0_3.out) HC0_3.out A5.out) ?_ (hargs := by (simp only [List.map_toArray, List.map_cons, List.map_nil, evc, eval_of e11]) <;> rfl))
   rintro e w27 ⟨v753, rfl, hR⟩
   refine ⟨_, rfl, ?_⟩
   replace HM := HM.call hR
   clear hR
   exact hK.out _ _ ⟨v750, v753, v756, PUT (PCH ha 13 (hoff 13 rfl)) 9 hb, ((HM.sF 1 rfl (hoff 14 rfl)).iF 1 rfl (hoff 14 rfl)).pick [0, 1, 2, 5, 4]⟩
  refine SZ ?_ ?_
  ·rintro b a w ⟨v750, v753, v756, ha, HM⟩ hb hon hoff K hK
   replace ha := Aside0.mk ha
   have e1 := PG ha 1
   exact VL (.pointer (some ⟨gb747, 4, none⟩)) (hK.out _ _ ⟨v750, v753, v756, PUT ha 10 hb, HM⟩)
  refine SZ ?_ ?_
  ·rintro b a w ⟨v750, v753, v756, ha, HM⟩ hb hon hoff K hK
   replace ha := Aside0.mk ha
   obtain ⟨_,_,_,_,_,_,_,_,_,_⟩ := bk5 (HM.bx 0 rfl)
   have e13 := PE ha 10 hon
   exact VL (.slice A0_4 l0_4.length c0_4) (hK.out _ _ ⟨v750, v753, v756, PUT ha 11 hb, HM⟩)
  refine SZ ?_ ?_
  ·rintro b a w ⟨v750, v753, v756, ha, HM⟩ hb hon hoff K hK
   replace ha := Aside0.mk ha
   have e14 := PE ha 11 hon
   refine ST (eC (some 15) rfl #[.slice A0_4 l0_4.length c0_4] rfl Tryz.func36 (impl_copyInts.calls _ _ l0_4 t755 _ (HM.came HR0_4.out) HC0_4.out A6.out) ?_ (hargs := by (simp only [List.map_toArray, List.map_cons, List.map_nil, evc, eval_of e14]) <;> rfl))
   rintro e w29 ⟨v756, rfl, hR⟩
   refine ⟨_, rfl, ?_⟩
   replace HM := HM.call hR
   clear hR
   exact hK.out _ _ ⟨v750, v753, v756, PUT (PCH ha 13 (hoff 13 rfl)) 12 hb, ((HM.sF 1 rfl (hoff 14 rfl)).iF 1 rfl (hoff 14 rfl)).pick [0, 1, 2, 3, 5]⟩
  refine SZ ?_ ?_
  ·rintro b a w ⟨v750, v753, v756, ha, HM⟩ hb hon hoff K hK
   replace ha := Aside0.mk ha
   have HZ := HM
   replace HM := HM.sT 2 rfl (hon 6 rfl)
   replace HM := HM.sT 3 rfl (hon 9 rfl)
   replace HM := HM.sT 4 rfl (hon 12 rfl)
   obtain ⟨Xo30, ko30, rfl⟩ := HM.rdR 4 rfl
   obtain ⟨Xo31, ko31, rfl⟩ := HM.rdR 3 rfl
   obtain ⟨Xo32, ko32, rfl⟩ := HM.rdR 2 rfl
   have e4 := PE ha 1 hon
   have e6 := PE ha 3 hon
   have e9 := PE ha 6 hon
   have e12 := PE ha 9 hon
   have e15 := PE ha 12 hon
   exact VL (.agg #[.int .i64 a0_0, .int .i64 a0_1, .slice Xo32 t749.length ko32, .slice Xo31 t752.length ko31, .slice Xo30 t755.length ko30]) (hK.out _ _ ⟨.slice Xo32 t749.length ko32, .slice Xo31 t752.length ko31, .slice Xo30 t755.length ko30, PUT ha 13 hb, HZ⟩)
  refine SZ ?_ ?_
  ·rintro b a w ⟨v750, v753, v756, ha, HM⟩ hb hon hoff K hK
   replace ha := Aside0.mk ha
   replace HM := HM.sF 1 rfl hb
   replace HM := HM.sT 2 rfl (hon 6 rfl)
   replace HM := HM.sT 3 rfl (hon 9 rfl)
   replace HM := HM.sT 4 rfl (hon 12 rfl)
   obtain ⟨Xo33, ko33, rfl⟩ := HM.rdR 2 rfl
   obtain ⟨Xo34, ko34, rfl⟩ := HM.rdR 3 rfl
   obtain ⟨Xo35, ko35, rfl⟩ := HM.rdR 4 rfl
   have e2 := PG ha 2
   have e16 := PE ha 13 hon
   refine ST (eS 1 2 0 [.int .i64 a0_0, .int .i64 a0_1, .slice Xo33 t749.length ko33, .slice Xo34 t752.length ko34, .slice Xo35 t755.length ko35] HM rfl rfl ?_ (hp := (eval_of e2)) (hx := (by rw [eval_of e16]; rfl)))
   clear HM
   intro w36 HM
   exact hK.out _ _ ⟨.slice Xo33 t749.length ko33, .slice Xo34 t752.length ko34, .slice Xo35 t755.length ko35, PUS ha, (((HM.iT 2 rfl (hon 6 rfl)).iT 3 rfl (hon 9 rfl)).iT 4 rfl (hon 12 rfl)).pick [0, 1, 2, 3, 4]⟩
  exact steps_nil
 rintro _ w37 ⟨v750, v753, v756, rfl, HM⟩
 replace HM := HM.sT 1 rfl rfl
 replace HM := HM.sT 2 rfl rfl
 replace HM := HM.sT 3 rfl rfl
 replace HM := HM.sT 4 rfl rfl
 simp only [putSel, if_true, Act.put, List.setIfInBounds_toArray, List.set_cons_zero, List.set_cons_succ, gt_iff_lt, ge_iff_le]
 simp only [Option.some.injEq, Prod.mk.injEq] at H
 obtain ⟨rfl, rfl, rfl, rfl, rfl⟩ := H
 go_wp2
 refine bodyPost_ret (results_cell_row rfl _ _ gb748 26 #[.int .i64 a0_0, .int .i64 a0_1, v750, v753, v756] (0, 0) _ rfl (HM.bx 1 rfl) Tryz.underlying26 rfl (by kernel_rfl)) rfl ?_
 exact ⟨_, _, _, ER, (MD HM).pick [2, 3, 4]⟩
def impl_Mend.f (k : Nat) (a0 : ByteArray) (a1_0 : Int) (a1_1 : Int) (l1_2 : List (S60)) (l1_3 : List (S60)) (l1_4 : List Int) : Option (Int × Int × (List (S60)) × (List (S60)) × List Int × Bool) := (impl_TextThree.f k a0).bind fun bt760 => (if bt760.2.2.2.2.2 = 0 then (some (bt760.1, bt760.2.1, bt760.2.2.1, bt760.2.2.2.1, bt760.2.2.2.2.1, true)) else ((impl_ThreeOk.f k a1_0 a1_1 l1_2 l1_3 l1_4).bind fun t773 => (if t773 = true then ((impl_copyThree.f a1_0 a1_1 l1_2 l1_3 l1_4).bind fun bt774 => (some (bt774.1, bt774.2.1, bt774.2.2.1, bt774.2.2.2.1, bt774.2.2.2.2, false))) else (some (0, 0, ([] : List (S60)), ([] : List (S60)), ([] : List Int), false)))))
theorem impl_Mend.calls (k : Nat) (a0 : ByteArray) (a1_0 : Int) (a1_1 : Int) (A1_2 : Option Addr) (c1_2 : Nat) (l1_2 : List (S60)) (A1_3 : Option Addr) (c1_3 : Nat) (l1_3 : List (S60)) (A1_4 : Option Addr) (c1_4 : Nat) (l1_4 : List Int) (r1 : Int) (r2 : Int) (r3 : List (S60)) (r4 : List (S60)) (r5 : List Int) (r6 : Bool) (w : World) (hr1_2 : Kd.C k60 w A1_2 l1_2.length l1_2) (hc1_2 : l1_2.length ≤ c1_2) (hr1_3 : Kd.C k60 w A1_3 l1_3.length l1_3) (hc1_3 : l1_3.length ≤ c1_3) (hr1_4 : Kd.C (Kd.int .i64) w A1_4 l1_4.length l1_4) (hc1_4 : l1_4.length ≤ c1_4) (h : impl_Mend.f k a0 a1_0 a1_1 l1_2 l1_3 l1_4 = some (r1, r2, r3, r4, r5, r6)) :
  Calls Tryz.prog 5 #[.string a0, .agg #[.int .i64 a1_0, .int .i64 a1_1, .slice A1_2 l1_2.length c1_2, .slice A1_3 l1_3.length c1_3, .slice A1_4 l1_4.length c1_4]] w fun e w' => ∃ v2_ v3_ v4_ : Value, e = .returned (.tuple #[.agg #[.int .i64 r1, .int .i64 r2, v2_, v3_, v4_], .bool r6]) ∧ Mem w [] w' [rowR k60 60 v2_ r3, rowR k60 60 v3_ r4, rowR (Kd.int .i64) 3 v4_ r5] := by
 have hu26 := Tryz.underlying26
 have HR1_2 := Aside0.mk hr1_2
 have HC1_2 := Aside0.mk hc1_2
 clear hr1_2 hc1_2
 have HR1_3 := Aside0.mk hr1_3
 have HC1_3 := Aside0.mk hc1_3
 clear hr1_3 hc1_3
 have HR1_4 := Aside0.mk hr1_4
 have HC1_4 := Aside0.mk hc1_4
 clear hr1_4 hc1_4
 have HM := Mem.nil w
 have H := h
 clear h
 unfold impl_Mend.f at H
 go_enter Tryz.func5, Tryz.ntmps5
 replace H := BN H; obtain ⟨⟨t760, t761, t762, t765, t768, t771⟩, A5, H⟩ := H
 go_upto_if 13 with (first | ((with_reducible refine gN 3 rfl ?_); refine pB 3 26 [.int .i64 a1_0, .int .i64 a1_1, .slice A1_2 l1_2.length c1_2, .slice A1_3 l1_3.length c1_3, .slice A1_4 l1_4.length c1_4] HM rfl ?_; clear HM; intro gb758 w3 HM) | ((with_reducible refine gN 4 rfl ?_); refine pB 4 26 [.int .i64 0, .int .i64 0, .slice none 0 0, .slice none 0 0, .slice none 0 0] HM rfl ?_; clear HM; intro gb759 w4 HM) | ((with_reducible refine gC 14 rfl ?_); refine pC (some 10) rfl #[.string a0] rfl Tryz.func14 (impl_TextThree.calls k a0 t760 t761 t762 t765 t768 t771 _ A5.out) ?_; rintro e w6 ⟨v763, v766, v769, rfl, hR⟩; refine ⟨_, rfl, ?_⟩; replace HM := HM.call hR; clear hR) | ((with_reducible refine gN 6 rfl ?_); refine pB 6 26 [.int .i64 0, .int .i64 0, .slice none 0 0, .slice none 0 0, .slice none 0 0] HM rfl ?_; clear HM; intro gb772 w7 HM; obtain ⟨Xo8, ko8, rfl⟩ := HM.rdR 2 rfl; obtain ⟨Xo9, ko9, rfl⟩ := HM.rdR 3 rfl; obtain ⟨Xo10, ko10, rfl⟩ := HM.rdR 4 rfl) | ((with_reducible refine gS 6 rfl ?_); refine pS 5 6 0 [.int .i64 t760, .int .i64 t761, .slice Xo8 t762.length ko8, .slice Xo9 t765.length ko9, .slice Xo10 t768.length ko10] HM rfl rfl ?_; clear HM; intro w11 HM))
 replace HM := nzM HM
 replace H := IT H; rcases H with ⟨c12, H⟩ | ⟨c12, H⟩
 ·have c12b0 : (t771 == 0) = true := beq_iff_eq.mpr c12
  have c12b1 : (t771 != 0) = false := bne_eq_false_iff_eq.mpr c12
  clear c12
  first|rw [c12b0]|(simp only [i64_w, i32_w]; rw [c12b0])|skip
  simp only [Option.some.injEq, Prod.mk.injEq] at H
  obtain ⟨rfl, rfl, rfl, rfl, rfl, rfl⟩ := H
  obtain ⟨_,_,_,_,_,_,_,_,_,_⟩ := bk5 (HM.bx 5 rfl)
  go_wp2_with (first | ((with_reducible refine gS 4 rfl ?_); refine pS 1 4 0 [.int .i64 t760, .int .i64 t761, .slice Xo8 t762.length ko8, .slice Xo9 t765.length ko9, .slice Xo10 t768.length ko10] HM rfl rfl ?_; clear HM; intro w14 HM))
  refine bodyPost_ret (results_ct rfl _ _ gb759 26 #[.int .i64 t760, .int .i64 t761, .slice Xo8 t762.length ko8, .slice Xo9 t765.length ko9, .slice Xo10 t768.length ko10] (0, 0) _ rfl (HM.bx 1 rfl) Tryz.underlying26 rfl (by kernel_rfl)) rfl ?_
  exact ⟨_, _, _, ER, (MD HM).pick [2, 3, 4]⟩
 ·have c12b0 : (t771 == 0) = false := beq_eq_false_iff_ne.mpr c12
  have c12b1 : (t771 != 0) = true := bne_iff_ne.mpr c12
  first|rw [c12b0]|(simp only [i64_w, i32_w]; rw [c12b0])|skip
  replace H := BN H; obtain ⟨t773, A16, H⟩ := H
  obtain ⟨_,_,_,_,_,_,_,_,_,_⟩ := bk5 (HM.bx 0 rfl)
  go_upto_if 17 with (first | ((with_reducible refine gC 11 rfl ?_); refine pC (some 19) rfl #[.agg #[.int .i64 a1_0, .int .i64 a1_1, .slice A1_2 l1_2.length c1_2, .slice A1_3 l1_3.length c1_3, .slice A1_4 l1_4.length c1_4]] rfl Tryz.func11 (impl_ThreeOk.calls k a1_0 a1_1 _ _ l1_2 _ _ l1_3 _ _ l1_4 t773 _ (HM.came HR1_2.out) HC1_2.out (HM.came HR1_3.out) HC1_3.out (HM.came HR1_4.out) HC1_4.out A16.out) ?_; rintro e w17 ⟨rfl, hR⟩; refine ⟨_, rfl, ?_⟩; replace HM := HM.call hR; clear hR))
  replace H := IB H
  rcases H with ⟨c18, H⟩ | ⟨c18, H⟩
  ·subst c18
   replace H := BN H; obtain ⟨⟨t774, t775, t776, t779, t782⟩, A20, H⟩ := H
   simp only [Option.some.injEq, Prod.mk.injEq] at H
   obtain ⟨rfl, rfl, rfl, rfl, rfl, rfl⟩ := H
   obtain ⟨_,_,_,_,_,_,_,_,_,_⟩ := bk5 (HM.bx 0 rfl)
   go_wp2_with (first | ((with_reducible refine gC 15 rfl ?_); refine pC (some 21) rfl #[.agg #[.int .i64 a1_0, .int .i64 a1_1, .slice A1_2 l1_2.length c1_2, .slice A1_3 l1_3.length c1_3, .slice A1_4 l1_4.length c1_4]] rfl Tryz.func15 (impl_copyThree.calls a1_0 a1_1 _ _ l1_2 _ _ l1_3 _ _ l1_4 t774 t775 t776 t779 t782 _ (HM.came HR1_2.out) HC1_2.out (HM.came HR1_3.out) HC1_3.out (HM.came HR1_4.out) HC1_4.out A20.out) ?_; rintro e w21 ⟨v777, v780, v783, rfl, hR⟩; refine ⟨_, rfl, ?_⟩; replace HM := HM.call hR; clear hR; obtain ⟨Xo22, ko22, rfl⟩ := HM.rdR 6 rfl; obtain ⟨Xo23, ko23, rfl⟩ := HM.rdR 7 rfl; obtain ⟨Xo24, ko24, rfl⟩ := HM.rdR 8 rfl) | ((with_reducible refine gS 4 rfl ?_); refine pS 1 4 0 [.int .i64 t774, .int .i64 t775, .slice Xo22 t776.length ko22, .slice Xo23 t779.length ko23, .slice Xo24 t782.length ko24] HM rfl rfl ?_; clear HM; intro w25 HM))
   refine bodyPost_ret (results_ct rfl _ _ gb759 26 #[.int .i64 t774, .int .i64 t775, .slice Xo22 t776.length ko22, .slice Xo23 t779.length ko23, .slice Xo24 t782.length ko24] (0, 0) _ rfl (HM.bx 1 rfl) Tryz.underlying26 rfl (by kernel_rfl)) rfl ?_
   exact ⟨_, _, _, ER, (MD HM).pick [6, 7, 8]⟩
  ·subst c18
   simp only [Option.some.injEq, Prod.mk.injEq] at H
   obtain ⟨rfl, rfl, rfl, rfl, rfl, rfl⟩ := H
   go_wp2_with (first | ((with_reducible refine gS 4 rfl ?_); refine pS 1 4 0 [.int .i64 0, .int .i64 0, .slice none 0 0, .slice none 0 0, .slice none 0 0] HM rfl rfl ?_; clear HM; intro w26 HM; replace HM := HM.nl k60 60; replace HM := HM.nl k60 60; replace HM := HM.nl (Kd.int .i64) 3))
   refine bodyPost_ret (results_ct rfl _ _ gb759 26 #[.int .i64 0, .int .i64 0, .slice none 0 0, .slice none 0 0, .slice none 0 0] (0, 0) _ rfl (HM.bx 1 rfl) Tryz.underlying26 rfl (by kernel_rfl)) rfl ?_
   exact ⟨_, _, _, ER, (MD HM).pick [6, 7, 8]⟩
def impl_itemsText.l0 : Nat → ByteArray → List (S60) → Int → Int → Option (ByteArray)
 | 0, _, _, _, _ => none
 | k + 1, x0, x8, x9, x10 => if x10 < x9 then (if 0 ≤ x10 then (if x10 < (x8.length : Int) then ((impl_ItemText.f k ((rd_T60 x8 x10).f0) ((rd_T60 x8 x10).f1) ((rd_T60 x8 x10).f2)).bind fun t790 => (if t790.toList = ([] : List UInt8) then (some (⟨#[]⟩ : ByteArray)) else (if x0.size + 1 ≤ 9223372036854775807 then (if x0.size + 1 + t790.size ≤ 9223372036854775807 then (impl_itemsText.l0 k ((x0 ++ (⟨#[32]⟩ : ByteArray)) ++ t790) x8 x9 (wrap64 (x10 + 1))) else (none)) else (none)))) else (none)) else (none)) else (if x0.size + 1 ≤ 9223372036854775807 then (some (x0 ++ (⟨#[10]⟩ : ByteArray))) else (none))
def impl_itemsText.f (k : Nat) (a0 : ByteArray) (l1 : List (S60)) : Option (ByteArray) := impl_itemsText.l0 k a0 l1 (l1.length : Int) 0
theorem impl_itemsText.calls (k : Nat) (a0 : ByteArray) (A1 : Option Addr) (c1 : Nat) (l1 : List (S60)) (r : ByteArray) (w : World) (hr1 : Kd.C k60 w A1 l1.length l1) (hc1 : l1.length ≤ c1) (h : impl_itemsText.f k a0 l1 = some r) :
  Calls Tryz.prog 16 #[.string a0, .slice A1 l1.length c1] w fun e w' => e = .returned (.string r) ∧ Mem w [] w' [] := by
 have hu60 := Tryz.underlying60
 have HR1 := Aside0.mk hr1
 have HC1 := Aside0.mk hc1
 clear hr1 hc1
 have HM := Mem.nil w
 have H := h
 clear h
 unfold impl_itemsText.f at H
 go_enter Tryz.func16, Tryz.ntmps16
 have H' := Aside0.mk H
 clear H
 go_wp2
 go_loopg [0, 10] k (fun kq v0 v10 w' => ∃ (x0_1 : ByteArray) (x10_1 : Int), v0 = .string x0_1 ∧ v10 = .int .i64 x10_1 ∧ Aside0 (impl_itemsText.l0 kq x0_1 l1 (l1.length : Int) x10_1 = some r) ∧ Aside0 (kq ≤ k) ∧ Mem w [] w' [])
 case atStart => exact ⟨(a0), (0), RS, RS, H', ⟨Nat.le_refl _⟩, (MD HM).pick []⟩
 case round =>
  clear H' HM
  obtain ⟨x0_1, x10_1, rfl, rfl, HA, HK1, HM⟩ := hrel
  cases gk with
  | zero => exact absurd HA.out (by simp [impl_itemsText.l0])
  | succ k1 =>
   have H := HA.out
   clear HA
   simp only [impl_itemsText.l0] at H
   go_upto_if 11 with (fail)
   replace H := IT H; rcases H with ⟨c3, H⟩ | ⟨c3, H⟩
   ·have c3b0 := decide_eq_true c3
    clear c3
    first|rw [c3b0]|(simp only [i64_w, i32_w]; rw [c3b0])|skip
    replace H := GD H; obtain ⟨c4, H⟩ := H
    have c4b0 := decide_eq_true c4
    clear c4
    replace H := GD H; obtain ⟨c5, H⟩ := H
    have c5b0 := decide_eq_true c5
    clear c5
    replace H := BN H; obtain ⟨t790, A9, H⟩ := H
    have p788 : 0 ≤ (x10_1 : Int) := of_decide_eq_true AS
    have q788 : (x10_1 : Int) < (l1.length : Int) := of_decide_eq_true AS
    obtain ⟨ad788, e788, hx788_0, hx788_1, hx788_2⟩ := at_T60 (HM.came HR1.out) x10_1 p788 q788
    cases e788
    replace p788 := eq_true p788
    replace q788 := eq_true q788
    go_upto_if 17 with (first | ((with_reducible refine gN 6 rfl ?_); refine pB 6 60 [.string (⟨#[]⟩ : ByteArray), .string (⟨#[]⟩ : ByteArray), .int .i64 0] HM rfl ?_; clear HM; intro gb789 w6 HM) | ((with_reducible refine gS 6 rfl ?_); refine pS 0 6 0 [.string ((rd_T60 l1 x10_1).f0), .string ((rd_T60 l1 x10_1).f1), .int .i64 ((rd_T60 l1 x10_1).f2)] HM rfl rfl ?_; clear HM; intro w7 HM; obtain ⟨_,_,_,_,_,_⟩ := bk3 (HM.bx 0 rfl)) | ((with_reducible refine gC 37 rfl ?_); refine pC (some 15) rfl #[.agg #[.string ((rd_T60 l1 x10_1).f0), .string ((rd_T60 l1 x10_1).f1), .int .i64 ((rd_T60 l1 x10_1).f2)]] rfl Tryz.func37 (impl_ItemText.calls k1 ((rd_T60 l1 x10_1).f0) ((rd_T60 l1 x10_1).f1) ((rd_T60 l1 x10_1).f2) t790 _ A9.out) ?_; rintro e w10 ⟨rfl, hR⟩; refine ⟨_, rfl, ?_⟩; replace HM := HM.call hR; clear hR))
    replace HM := nzM HM
    replace H := IT H; rcases H with ⟨c11, H⟩ | ⟨c11, H⟩
    ·obtain ⟨c11b0, c11b1⟩ := BE c11
     have c11b6 : (t790.toList).isEmpty = true := by first | (rw [c11]; rfl) | (cases h_ : t790.toList with | nil => exact absurd h_ c11 | cons _ _ => rfl)
     clear c11
     first|rw [c11b0]|rw [c11b1]|rw [c11b6]|(simp only [bne, c11b6, Bool.not_true, Bool.not_false])|(simp only [i64_w, i32_w]; rw [c11b0])|skip
     obtain rfl := Option.some.inj H
     go_wp2
     go_ret
     exact ⟨ER, (MD HM).pick []⟩
    ·obtain ⟨c11b0, c11b1⟩ := BF c11
     have c11b6 : (t790.toList).isEmpty = false := by first | (rw [c11]; rfl) | (cases h_ : t790.toList with | nil => exact absurd h_ c11 | cons _ _ => rfl)
     first|rw [c11b0]|rw [c11b1]|rw [c11b6]|(simp only [bne, c11b6, Bool.not_true, Bool.not_false])|(simp only [i64_w, i32_w]; rw [c11b0])|skip
     replace H := GD H; obtain ⟨c12, H⟩ := H
     have c12b0 := eq_true c12
     have c12b1 : decide (x0_1.size + 1 ≤ 9223372036854775807) = true := decide_eq_true c12
     try have c12b2 : (9223372036854775807 < x0_1.size + 1) = False := eq_false (Nat.not_lt.2 c12)
     replace H := GD H; obtain ⟨c13, H⟩ := H
     have c13b0 := eq_true c13
     have c13b1 : decide (x0_1.size + 1 + t790.size ≤ 9223372036854775807) = true := decide_eq_true c13
     try have c13b2 : (9223372036854775807 < x0_1.size + 1 + t790.size) = False := eq_false (Nat.not_lt.2 c13)
     have H' := Aside0.mk H
     clear H
     go_wp2
     go_roundg k1
     case measure => have := HK1.out; omega
     case rel => exact ⟨((x0_1 ++ (⟨#[32]⟩ : ByteArray)) ++ t790), (wrap64 (x10_1 + 1)), RS, RS, H', ⟨by have := HK1.out; omega⟩, (MD HM).pick []⟩
   ·have c3b0 := decide_eq_false c3
    clear c3
    first|rw [c3b0]|(simp only [i64_w, i32_w]; rw [c3b0])|skip
    replace H := GD H; obtain ⟨c14, H⟩ := H
    have c14b0 := eq_true c14
    have c14b1 : decide (x0_1.size + 1 ≤ 9223372036854775807) = true := decide_eq_true c14
    try have c14b2 : (9223372036854775807 < x0_1.size + 1) = False := eq_false (Nat.not_lt.2 c14)
    obtain rfl := Option.some.inj H
    go_wp2
    go_ret
    exact ⟨ER, (MD HM).pick []⟩
end Go.Proofs.YtnlnifpehndacaaGreat.G

namespace Go.Proofs.YtnlnifpehndacaaGreat.G
open Go.RowKit Go.Proofs.YtnlnifpehndacaaGreatW.PrintWords Go.Proofs.YtnlnifpehndacaaGreatW.PrintLast Go.Proofs.YtnlnifpehndacaaGreatW.PrintMore Go.Proofs.YtnlnifpehndacaaGreat.Sh
attribute [local go_sem] max2_int min2_int max_two min_two max_three min_three max_four min_four
set_option linter.unusedVariables false
set_option linter.unusedSimpArgs false
def impl_glued.l0 : Nat → ByteArray → List ByteArray → Int → Int → Option (ByteArray)
 | 0, _, _, _, _ => none
 | k + 1, x3, x6, x7, x8 => if x8 < x7 then (if 0 ≤ x8 then (if x8 < (x6.length : Int) then (if x8 > 0 then (if x3.size + 1 ≤ 9223372036854775807 then (if x3.size + 1 + (rdOf ByteArray.empty x6 x8).size ≤ 9223372036854775807 then (impl_glued.l0 k ((x3 ++ (⟨#[32]⟩ : ByteArray)) ++ (rdOf ByteArray.empty x6 x8)) x6 x7 (wrap64 (x8 + 1))) else (none)) else (none)) else (if x3.size + (rdOf ByteArray.empty x6 x8).size ≤ 9223372036854775807 then (impl_glued.l0 k (x3 ++ (rdOf ByteArray.empty x6 x8)) x6 x7 (wrap64 (x8 + 1))) else (none))) else (none)) else (none)) else (some x3)
def impl_glued.f (k : Nat) (l0 : List ByteArray) : Option (ByteArray) := impl_glued.l0 k (⟨#[]⟩ : ByteArray) l0 (l0.length : Int) 0
theorem impl_glued.calls (k : Nat) (A0 : Option Addr) (c0 : Nat) (l0 : List ByteArray) (r : ByteArray) (w : World) (hr0 : Kd.C Kd.string w A0 l0.length l0) (hc0 : l0.length ≤ c0) (h : impl_glued.f k l0 = some r) :
  Calls Tryz.prog 17 #[.slice A0 l0.length c0] w fun e w' => e = .returned (.string r) ∧ Drawn0 w w' := by
 have HR0 := Aside0.mk hr0
 have HC0 := Aside0.mk hc0
 clear hr0 hc0
 have H : (impl_glued.l0 k (⟨#[]⟩ : ByteArray) l0 (l0.length : Int) 0) = some r := h
 clear h
 have H' := Aside0.mk H
 clear H
 go_enter Tryz.func17, Tryz.ntmps17
 go_wp2
 go_loopg [3, 8] k (fun kq v3 v8 w' => ∃ (x3_1 : ByteArray) (x8_1 : Int), v3 = .string x3_1 ∧ v8 = .int .i64 x8_1 ∧ Aside0 (impl_glued.l0 kq x3_1 l0 (l0.length : Int) x8_1 = some r) ∧ Aside0 (kq ≤ k) ∧ Drawn0 w w')
 case atStart => exact ⟨((⟨#[]⟩ : ByteArray)), (0), RS, RS, H', ⟨Nat.le_refl _⟩, DR⟩
 case round =>
  clear H'
  try clear c1
  obtain ⟨x3_1, x8_1, rfl, rfl, HA, HK1, ⟨m1, rfl⟩⟩ := hrel
  cases gk with
  | zero => exact absurd HA.out (by simp [impl_glued.l0])
  | succ k1 =>
   have H := HA.out
   clear HA
   simp only [impl_glued.l0] at H
   by_cases c2 : x8_1 < (l0.length : Int)
   ·rw [if_pos c2] at H
    have c2b0 : decide (x8_1 < (l0.length : Int)) = true := decide_eq_true c2
    clear c2
    by_cases c3 : 0 ≤ x8_1
    ·rw [if_pos c3] at H
     have c3b0 : decide (0 ≤ x8_1) = true := decide_eq_true c3
     clear c3
     by_cases c4 : x8_1 < (l0.length : Int)
     ·rw [if_pos c4] at H
      have c4b0 : decide (x8_1 < (l0.length : Int)) = true := decide_eq_true c4
      clear c4
      by_cases c5 : x8_1 > 0
      ·rw [if_pos c5] at H
       have c5b0 : decide (0 < x8_1) = true := decide_eq_true c5
       clear c5
       by_cases c6 : x3_1.size + 1 ≤ 9223372036854775807
       ·rw [if_pos c6] at H
        have c6b0 := eq_true c6
        have c6b1 : decide (x3_1.size + 1 ≤ 9223372036854775807) = true := decide_eq_true c6
        try have c6b2 : (9223372036854775807 < x3_1.size + 1) = False := eq_false (Nat.not_lt.2 c6)
        by_cases c7 : x3_1.size + 1 + (rdOf ByteArray.empty l0 x8_1).size ≤ 9223372036854775807
        ·rw [if_pos c7] at H
         have c7b0 := eq_true c7
         have c7b1 : decide (x3_1.size + 1 + (rdOf ByteArray.empty l0 x8_1).size ≤ 9223372036854775807) = true := decide_eq_true c7
         try have c7b2 : (9223372036854775807 < x3_1.size + 1 + (rdOf ByteArray.empty l0 x8_1).size) = False := eq_false (Nat.not_lt.2 c7)
         have H' := Aside0.mk H
         clear H
         have p792 : 0 ≤ (x8_1 : Int) := of_decide_eq_true AS
         have q792 : x8_1 < (l0.length : Int) := of_decide_eq_true AS
         obtain ⟨ad792, e792, hx792_0⟩ := Kd.at_string HR0.out x8_1 p792 q792
         cases e792
         replace p792 := eq_true p792
         replace q792 := eq_true q792
         go_wp2
         go_roundg k1
         case measure => have := HK1.out; omega
         case rel => exact ⟨((x3_1 ++ (⟨#[32]⟩ : ByteArray)) ++ (rdOf ByteArray.empty l0 x8_1)), (wrap64 (x8_1 + 1)), RS, RS, H', ⟨by have := HK1.out; omega⟩, DR⟩
        ·rw [if_neg c7] at H
         exact absurd H (by simp)
       ·rw [if_neg c6] at H
        exact absurd H (by simp)
      ·rw [if_neg c5] at H
       have c5b0 : decide (0 < x8_1) = false := decide_eq_false c5
       clear c5
       by_cases c8 : x3_1.size + (rdOf ByteArray.empty l0 x8_1).size ≤ 9223372036854775807
       ·rw [if_pos c8] at H
        have c8b0 := eq_true c8
        have c8b1 : decide (x3_1.size + (rdOf ByteArray.empty l0 x8_1).size ≤ 9223372036854775807) = true := decide_eq_true c8
        try have c8b2 : (9223372036854775807 < x3_1.size + (rdOf ByteArray.empty l0 x8_1).size) = False := eq_false (Nat.not_lt.2 c8)
        have H' := Aside0.mk H
        clear H
        have p792 : 0 ≤ (x8_1 : Int) := of_decide_eq_true AS
        have q792 : x8_1 < (l0.length : Int) := of_decide_eq_true AS
        obtain ⟨ad792, e792, hx792_0⟩ := Kd.at_string HR0.out x8_1 p792 q792
        cases e792
        replace p792 := eq_true p792
        replace q792 := eq_true q792
        go_wp2
        go_roundg k1
        case measure => have := HK1.out; omega
        case rel => exact ⟨(x3_1 ++ (rdOf ByteArray.empty l0 x8_1)), (wrap64 (x8_1 + 1)), RS, RS, H', ⟨by have := HK1.out; omega⟩, DR⟩
       ·rw [if_neg c8] at H
        exact absurd H (by simp)
     ·rw [if_neg c4] at H
      exact absurd H (by simp)
    ·rw [if_neg c3] at H
     exact absurd H (by simp)
   ·rw [if_neg c2] at H
    have c2b0 : decide (x8_1 < (l0.length : Int)) = false := decide_eq_false c2
    clear c2
    obtain rfl := Option.some.inj H
    go_wp2
    go_ret
    exact ⟨by first | rfl | (simp; done) | (simp [*]; done), DR⟩
end Go.Proofs.YtnlnifpehndacaaGreat.G

namespace Go.Proofs.YtnlnifpehndacaaGreat.G
open Go.RowKit Go.Proofs.YtnlnifpehndacaaGreatW.PrintWords Go.Proofs.YtnlnifpehndacaaGreatW.PrintLast Go.Proofs.YtnlnifpehndacaaGreatW.PrintMore Go.Proofs.YtnlnifpehndacaaGreat.Sh
attribute [local go_sem] max2_int min2_int max_two min_two max_three min_three max_four min_four
set_option linter.unusedVariables false
set_option linter.unusedSimpArgs false
open Go.Proofs.YtnlnifpehndacaaGreat.Mm
mutual
def impl_ThreeText.j0 : Nat → ByteArray → ByteArray → Bool → Int → Int → List (S60) → List (S60) → List Int → Option (ByteArray)
 | 0, _, _, _, _, _, _, _, _ => none
 | k + 1, x3, x4, x24, x794000, x794001, x794002, x794003, x794004 => if x24 = true then (some (⟨#[]⟩ : ByteArray)) else ((impl_NumText.f k x794000).bind fun t797 => ((impl_NumText.f k x794001).bind fun t798 => ((impl_glued.f k (([(⟨#[116, 104, 114, 101, 101]⟩ : ByteArray), t797, t798] : List ByteArray))).bind fun t802 => (if t802.size + 1 ≤ 9223372036854775807 then (if t802.size + 1 + x3.size ≤ 9223372036854775807 then (if t802.size + 1 + x3.size + x4.size ≤ 9223372036854775807 then (if t802.size + 1 + x3.size + x4.size + 5 ≤ 9223372036854775807 then (impl_ThreeText.l0 k ((((t802 ++ (⟨#[10]⟩ : ByteArray)) ++ x3) ++ x4) ++ (⟨#[103, 104, 111, 115, 116]⟩ : ByteArray)) x794004 (x794004.length : Int) 0) else (none)) else (none)) else (none)) else (none)))))
def impl_ThreeText.l0 : Nat → ByteArray → List Int → Int → Int → Option (ByteArray)
 | 0, _, _, _, _ => none
 | k + 1, x5, x40, x41, x42 => if x42 < x41 then (if 0 ≤ x42 then (if x42 < (x40.length : Int) then (if x5.size + 1 ≤ 9223372036854775807 then ((impl_NumText.f k (rd x40 x42)).bind fun t804 => (if x5.size + 1 + t804.size ≤ 9223372036854775807 then (impl_ThreeText.l0 k ((x5 ++ (⟨#[32]⟩ : ByteArray)) ++ t804) x40 x41 (wrap64 (x42 + 1))) else (none))) else (none)) else (none)) else (none)) else (if x5.size + 1 ≤ 9223372036854775807 then (some (x5 ++ (⟨#[10]⟩ : ByteArray))) else (none))
end
def impl_ThreeText.f (k : Nat) (a0_0 : Int) (a0_1 : Int) (l0_2 : List (S60)) (l0_3 : List (S60)) (l0_4 : List Int) : Option (ByteArray) := (impl_itemsText.f k (⟨#[115, 109, 97, 108, 108]⟩ : ByteArray) l0_2).bind fun t794 => ((impl_itemsText.f k (⟨#[109, 97, 105, 110]⟩ : ByteArray) l0_3).bind fun t795 => ((impl_ThreeOk.f k a0_0 a0_1 l0_2 l0_3 l0_4).bind fun t796 => (if t796 = true then (if t794.toList = ([] : List UInt8) then (impl_ThreeText.j0 k t794 t795 true a0_0 a0_1 l0_2 l0_3 l0_4) else (impl_ThreeText.j0 k t794 t795 (t795.toList == ([] : List UInt8)) a0_0 a0_1 l0_2 l0_3 l0_4)) else (impl_ThreeText.j0 k t794 t795 true a0_0 a0_1 l0_2 l0_3 l0_4))))
def impl_ThreeText.T1 : Bool × List (List Nat × List Nat) := (true, [([], []), ([0], [0]), ([1], [1]), ([], []), ([3], [3]), ([4, 2], [4]), ([2, 5, 0, 1, 2], [2]), ([5, 6, 0, 1, 2, 3, 4, 5, 6], [5])])
def impl_ThreeText.B1 : List Nat := [0, 1, 3, 0, 8, 31, 63, 127]
theorem impl_ThreeText.tab1 : rtab .any (opsOf Tryz.f6 1) = impl_ThreeText.T1 := by kernel_rfl
theorem impl_ThreeText.bits1 : waitsOk impl_ThreeText.T1.2 impl_ThreeText.B1 = true := by kernel_rfl
def impl_ThreeText.T4 : Bool × List (List Nat × List Nat) := (true, [([], []), ([0], [0]), ([1], [1]), ([], []), ([3], [3]), ([4, 2], [4]), ([2, 5], [2, 5]), ([6, 5], [6]), ([7], [7]), ([], []), ([8, 9], [8, 9]), ([], []), ([10, 11], [10, 11]), ([12], [12]), ([13, 7, 0, 1, 2, 3, 4, 5, 6, 7, 8, 9, 10, 11, 12, 13], [13])])
def impl_ThreeText.B4 : List Nat := [0, 1, 3, 0, 8, 31, 63, 127, 255, 0, 1023, 0, 4095, 8191, 16383]
theorem impl_ThreeText.tab4 : rtab .any (opsOf Tryz.f6 4) = impl_ThreeText.T4 := by kernel_rfl
theorem impl_ThreeText.bits4 : waitsOk impl_ThreeText.T4.2 impl_ThreeText.B4 = true := by kernel_rfl
theorem impl_ThreeText.calls (k : Nat) (a0_0 : Int) (a0_1 : Int) (A0_2 : Option Addr) (c0_2 : Nat) (l0_2 : List (S60)) (A0_3 : Option Addr) (c0_3 : Nat) (l0_3 : List (S60)) (A0_4 : Option Addr) (c0_4 : Nat) (l0_4 : List Int) (r : ByteArray) (w : World) (hr0_2 : Kd.C k60 w A0_2 l0_2.length l0_2) (hc0_2 : l0_2.length ≤ c0_2) (hr0_3 : Kd.C k60 w A0_3 l0_3.length l0_3) (hc0_3 : l0_3.length ≤ c0_3) (hr0_4 : Kd.C (Kd.int .i64) w A0_4 l0_4.length l0_4) (hc0_4 : l0_4.length ≤ c0_4) (h : impl_ThreeText.f k a0_0 a0_1 l0_2 l0_3 l0_4 = some r) :
  Calls Tryz.prog 6 #[.agg #[.int .i64 a0_0, .int .i64 a0_1, .slice A0_2 l0_2.length c0_2, .slice A0_3 l0_3.length c0_3, .slice A0_4 l0_4.length c0_4]] w fun e w' => e = .returned (.string r) ∧ Mem w [] w' [] := by
 have hu26 := Tryz.underlying26
 have HR0_2 := Aside0.mk hr0_2
 have HC0_2 := Aside0.mk hc0_2
 clear hr0_2 hc0_2
 have HR0_3 := Aside0.mk hr0_3
 have HC0_3 := Aside0.mk hc0_3
 clear hr0_3 hc0_3
 have HR0_4 := Aside0.mk hr0_4
 have HC0_4 := Aside0.mk hc0_4
 clear hr0_4 hc0_4
 have HM := Mem.nil w
 have H := h
 clear h
 unfold impl_ThreeText.f at H
 go_enter Tryz.func6, Tryz.ntmps6
 try go_wp2_with (first | ((with_reducible refine gN 1 rfl ?_); refine pB 1 26 [.int .i64 a0_0, .int .i64 a0_1, .slice A0_2 l0_2.length c0_2, .slice A0_3 l0_3.length c0_3, .slice A0_4 l0_4.length c0_4] HM rfl ?_; clear HM; intro gb793 w2 HM))
 replace H := BN H; obtain ⟨t794, A3, H⟩ := H
 replace H := BN H; obtain ⟨t795, A4, H⟩ := H
 refine RGN 8 [0, 1, 2, 3, 4, 5, 6, 7] (fun a0 b a w' => a = putSel a0 b [(0, 8, .pointer (some ⟨gb793, 2, none⟩)), (1, 9, .slice A0_2 l0_2.length c0_2), (2, 10, .string t794), (3, 11, .pointer (some ⟨gb793, 3, none⟩)), (4, 12, .slice A0_3 l0_3.length c0_3), (5, 13, .string t795), (6, 3, .string t794), (7, 4, .string t795)] ∧ Mem w [] w' [box 26 gb793 [.int .i64 a0_0, .int .i64 a0_1, .slice A0_2 l0_2.length c0_2, .slice A0_3 l0_3.length c0_3, .slice A0_4 l0_4.length c0_4]]) impl_ThreeText.tab1 impl_ThreeText.bits1 ?_ ?_ ?_
 ·exact ⟨PS0' rfl _, (HM.drew).pick [0]⟩
 ·clear HM
  refine SY ?_ ?_
  ·intro b a w ha HM hb hon hoff K hK
   have e1 := PG ha 1
   exact VL (.pointer (some ⟨gb793, 2, none⟩)) (hK.out _ _ ⟨PUT ha 0 hb, HM⟩)
  refine SY ?_ ?_
  ·intro b a w ha HM hb hon hoff K hK
   obtain ⟨_,_,_,_,_,_,_,_,_,_⟩ := bk5 (HM.bx 0 rfl)
   have e8 := PE ha 0 hon
   exact VL (.slice A0_2 l0_2.length c0_2) (hK.out _ _ ⟨PUT ha 1 hb, HM⟩)
  refine SY ?_ ?_
  ·intro b a w ha HM hb hon hoff K hK
   have e9 := PE ha 1 hon
   refine ST (eC (some 10) rfl #[.string (⟨#[115, 109, 97, 108, 108]⟩ : ByteArray), .slice A0_2 l0_2.length c0_2] rfl Tryz.func16 (impl_itemsText.calls k (⟨#[115, 109, 97, 108, 108]⟩ : ByteArray) _ _ l0_2 t794 _ (HM.came HR0_2.out) HC0_2.out A3.out) ?_ (hargs := by (simp only [List.map_toArray, List.map_cons, List.map_nil, evc, eval_of e9]) <;> rfl))
   rintro e w10 ⟨rfl, hR⟩
   refine ⟨_, rfl, ?_⟩
   replace HM := HM.call hR
   clear hR
   exact hK.out _ _ ⟨PUT ha 2 hb, (HM).pick [0]⟩
  refine SY ?_ ?_
  ·intro b a w ha HM hb hon hoff K hK
   have e1 := PG ha 1
   exact VL (.pointer (some ⟨gb793, 3, none⟩)) (hK.out _ _ ⟨PUT ha 3 hb, HM⟩)
  refine SY ?_ ?_
  ·intro b a w ha HM hb hon hoff K hK
   obtain ⟨_,_,_,_,_,_,_,_,_,_⟩ := bk5 (HM.bx 0 rfl)
   have e11 := PE ha 3 hon
   exact VL (.slice A0_3 l0_3.length c0_3) (hK.out _ _ ⟨PUT ha 4 hb, HM⟩)
  refine SY ?_ ?_
  ·intro b a w ha HM hb hon hoff K hK
   have e12 := PE ha 4 hon
   refine ST (eC (some 13) rfl #[.string (⟨#[109, 97, 105, 110]⟩ : ByteArray), .slice A0_3 l0_3.length c0_3] rfl Tryz.func16 (impl_itemsText.calls k (⟨#[109, 97, 105, 110]⟩ : ByteArray) _ _ l0_3 t795 _ (HM.came HR0_3.out) HC0_3.out A4.out) ?_ (hargs := by (simp only [List.map_toArray, List.map_cons, List.map_nil, evc, eval_of e12]) <;> rfl))
   rintro e w12 ⟨rfl, hR⟩
   refine ⟨_, rfl, ?_⟩
   replace HM := HM.call hR
   clear hR
   exact hK.out _ _ ⟨PUT ha 5 hb, (HM).pick [0]⟩
  refine SY ?_ ?_
  ·intro b a w ha HM hb hon hoff K hK
   have e10 := PE ha 2 hon
   exact VL (.string t794) (hK.out _ _ ⟨PUT ha 6 hb, HM⟩)
  refine SY ?_ ?_
  ·intro b a w ha HM hb hon hoff K hK
   have e13 := PE ha 5 hon
   exact VL (.string t795) (hK.out _ _ ⟨PUT ha 7 hb, HM⟩)
  exact steps_nil
 rintro _ w13 ⟨rfl, HM⟩
 simp only [putSel, if_true, Act.put, List.setIfInBounds_toArray, List.set_cons_zero, List.set_cons_succ, gt_iff_lt, ge_iff_le]
 have HC14 := Aside0.mk H
 clear H
 go_upto_region 2 with (fail)
 go_cut [24] (fun v24 wc => ∃ (kq : Nat) (x24_13 : Bool), v24 = .bool x24_13 ∧ Aside0 (impl_ThreeText.j0 kq t794 t795 x24_13 a0_0 a0_1 l0_2 l0_3 l0_4 = some r) ∧ Aside0 (kq ≤ k) ∧ Mem w [] wc [box 26 gb793 [.int .i64 a0_0, .int .i64 a0_1, .slice A0_2 l0_2.length c0_2, .slice A0_3 l0_3.length c0_3, .slice A0_4 l0_4.length c0_4]])
 case first =>
  have H := HC14.out
  clear HC14
  replace H := BN H; obtain ⟨t796, A16, H⟩ := H
  replace H := IB H
  rcases H with ⟨c18, H⟩ | ⟨c18, H⟩
  ·subst c18
   replace H := IT H; rcases H with ⟨c19, H⟩ | ⟨c19, H⟩
   ·obtain ⟨c19b0, c19b1⟩ := BE c19
    have c19b6 : (t794.toList).isEmpty = true := by first | (rw [c19]; rfl) | (cases h_ : t794.toList with | nil => exact absurd h_ c19 | cons _ _ => rfl)
    clear c19
    have H' := Aside0.mk H
    clear H
    obtain ⟨_,_,_,_,_,_,_,_,_,_⟩ := bk5 (HM.bx 0 rfl)
    go_wp2_with (first | ((with_reducible refine gC 11 rfl ?_); refine pC (some 15) rfl #[.agg #[.int .i64 a0_0, .int .i64 a0_1, .slice A0_2 l0_2.length c0_2, .slice A0_3 l0_3.length c0_3, .slice A0_4 l0_4.length c0_4]] rfl Tryz.func11 (impl_ThreeOk.calls k a0_0 a0_1 _ _ l0_2 _ _ l0_3 _ _ l0_4 true _ (HM.came HR0_2.out) HC0_2.out (HM.came HR0_3.out) HC0_3.out (HM.came HR0_4.out) HC0_4.out A16.out) ?_; rintro e w17 ⟨rfl, hR⟩; refine ⟨_, rfl, ?_⟩; replace HM := HM.call hR; clear hR))
    go_meet
    case rel => exact ⟨_, (true), RS, H', ⟨by first | omega | exact Nat.le_refl _⟩, (MD HM).pick [0]⟩
   ·obtain ⟨c19b0, c19b1⟩ := BF c19
    have c19b6 : (t794.toList).isEmpty = false := by first | (rw [c19]; rfl) | (cases h_ : t794.toList with | nil => exact absurd h_ c19 | cons _ _ => rfl)
    have H' := Aside0.mk H
    clear H
    obtain ⟨_,_,_,_,_,_,_,_,_,_⟩ := bk5 (HM.bx 0 rfl)
    go_wp2_with (first | ((with_reducible refine gC 11 rfl ?_); refine pC (some 15) rfl #[.agg #[.int .i64 a0_0, .int .i64 a0_1, .slice A0_2 l0_2.length c0_2, .slice A0_3 l0_3.length c0_3, .slice A0_4 l0_4.length c0_4]] rfl Tryz.func11 (impl_ThreeOk.calls k a0_0 a0_1 _ _ l0_2 _ _ l0_3 _ _ l0_4 true _ (HM.came HR0_2.out) HC0_2.out (HM.came HR0_3.out) HC0_3.out (HM.came HR0_4.out) HC0_4.out A16.out) ?_; rintro e w17 ⟨rfl, hR⟩; refine ⟨_, rfl, ?_⟩; replace HM := HM.call hR; clear hR))
    go_meet
    case rel => exact ⟨_, ((t795.toList == ([] : List UInt8))), (by first | rfl | (generalize t795 = y_; cases y_ with | mk d_ => cases d_ with | mk l_ => cases l_ <;> rfl) | (simp; done) | (generalize t795.toList = y_; cases y_ <;> simp)), H', ⟨by first | omega | exact Nat.le_refl _⟩, (MD HM).pick [0]⟩
  ·subst c18
   have H' := Aside0.mk H
   clear H
   obtain ⟨_,_,_,_,_,_,_,_,_,_⟩ := bk5 (HM.bx 0 rfl)
   go_wp2_with (first | ((with_reducible refine gC 11 rfl ?_); refine pC (some 15) rfl #[.agg #[.int .i64 a0_0, .int .i64 a0_1, .slice A0_2 l0_2.length c0_2, .slice A0_3 l0_3.length c0_3, .slice A0_4 l0_4.length c0_4]] rfl Tryz.func11 (impl_ThreeOk.calls k a0_0 a0_1 _ _ l0_2 _ _ l0_3 _ _ l0_4 false _ (HM.came HR0_2.out) HC0_2.out (HM.came HR0_3.out) HC0_3.out (HM.came HR0_4.out) HC0_4.out A16.out) ?_; rintro e w17 ⟨rfl, hR⟩; refine ⟨_, rfl, ?_⟩; replace HM := HM.call hR; clear hR))
   go_meet
   case rel => exact ⟨_, (true), RS, H', ⟨by first | omega | exact Nat.le_refl _⟩, (MD HM).pick [0]⟩
 case rest =>
  clear HC14 HM
  obtain ⟨kq, x24_13, rfl, HA, HJ13, HM⟩ := hcut
  cases kq with
  | zero => exact absurd HA.out (by simp [impl_ThreeText.j0])
  | succ kj13 =>
   have H := HA.out
   clear HA
   simp only [impl_ThreeText.j0] at H
   go_upto_if 24 with (fail)
   replace H := IB H
   rcases H with ⟨c20, H⟩ | ⟨c20, H⟩
   ·subst c20
    obtain rfl := Option.some.inj H
    go_wp2
    go_ret
    exact ⟨ER, (MD HM).pick []⟩
   ·subst c20
    try go_wp2
    replace H := BN H; obtain ⟨t797, A21, H⟩ := H
    replace H := BN H; obtain ⟨t798, A22, H⟩ := H
    replace H := BN H; obtain ⟨t802, A23, H⟩ := H
    replace H := GD H; obtain ⟨c24, H⟩ := H
    have c24b0 := eq_true c24
    have c24b1 : decide (t802.size + 1 ≤ 9223372036854775807) = true := decide_eq_true c24
    try have c24b2 : (9223372036854775807 < t802.size + 1) = False := eq_false (Nat.not_lt.2 c24)
    replace H := GD H; obtain ⟨c25, H⟩ := H
    have c25b0 := eq_true c25
    have c25b1 : decide (t802.size + 1 + t794.size ≤ 9223372036854775807) = true := decide_eq_true c25
    try have c25b2 : (9223372036854775807 < t802.size + 1 + t794.size) = False := eq_false (Nat.not_lt.2 c25)
    replace H := GD H; obtain ⟨c26, H⟩ := H
    have c26b0 := eq_true c26
    have c26b1 : decide (t802.size + 1 + t794.size + t795.size ≤ 9223372036854775807) = true := decide_eq_true c26
    try have c26b2 : (9223372036854775807 < t802.size + 1 + t794.size + t795.size) = False := eq_false (Nat.not_lt.2 c26)
    replace H := GD H; obtain ⟨c27, H⟩ := H
    have c27b0 := eq_true c27
    have c27b1 : decide (t802.size + 1 + t794.size + t795.size + 5 ≤ 9223372036854775807) = true := decide_eq_true c27
    try have c27b2 : (9223372036854775807 < t802.size + 1 + t794.size + t795.size + 5) = False := eq_false (Nat.not_lt.2 c27)
    refine RGN 15 [0, 1, 2, 3, 4, 5, 6, 7, 8, 9, 10, 11, 12, 13, 14] (fun a0 b a w' => ∃ (v800 : Value), a = putSel a0 b [(0, 25, .pointer (some ⟨gb793, 0, none⟩)), (1, 26, .int .i64 a0_0), (2, 27, .string t797), (3, 28, .pointer (some ⟨gb793, 1, none⟩)), (4, 29, .int .i64 a0_1), (5, 30, .string t798), (6, 31, v800), (7, 32, .string t802), (8, 33, .string (t802 ++ (⟨#[10]⟩ : ByteArray))), (9, 34, .string t794), (10, 35, .string ((t802 ++ (⟨#[10]⟩ : ByteArray)) ++ t794)), (11, 36, .string t795), (12, 37, .string (((t802 ++ (⟨#[10]⟩ : ByteArray)) ++ t794) ++ t795)), (13, 38, .string ((((t802 ++ (⟨#[10]⟩ : ByteArray)) ++ t794) ++ t795) ++ (⟨#[103, 104, 111, 115, 116]⟩ : ByteArray))), (14, 5, .string ((((t802 ++ (⟨#[10]⟩ : ByteArray)) ++ t794) ++ t795) ++ (⟨#[103, 104, 111, 115, 116]⟩ : ByteArray)))] ∧ Mem w [] w' [box 26 gb793 [.int .i64 a0_0, .int .i64 a0_1, .slice A0_2 l0_2.length c0_2, .slice A0_3 l0_3.length c0_3, .slice A0_4 l0_4.length c0_4], sel (b 6) (rowR Kd.string 9 v800 (([(⟨#[116, 104, 114, 101, 101]⟩ : ByteArray), t797, t798] : List ByteArray))) (emp)]) impl_ThreeText.tab4 impl_ThreeText.bits4 ?_ ?_ ?_
    ·exact ⟨.bool false, PS0' rfl _, (HM.drew.ems 1).pick [0, 1]⟩
    ·clear HM
     refine SZ ?_ ?_
     ·rintro b a w ⟨v800, ha, HM⟩ hb hon hoff K hK
      replace ha := Aside0.mk ha
      have e1 := PG ha 1
      exact VL (.pointer (some ⟨gb793, 0, none⟩)) (hK.out _ _ ⟨v800, PUT ha 0 hb, HM⟩)
     refine SZ ?_ ?_
     ·rintro b a w ⟨v800, ha, HM⟩ hb hon hoff K hK
      replace ha := Aside0.mk ha
      obtain ⟨_,_,_,_,_,_,_,_,_,_⟩ := bk5 (HM.bx 0 rfl)
      have e25 := PE ha 0 hon
      exact VL (.int .i64 a0_0) (hK.out _ _ ⟨v800, PUT ha 1 hb, HM⟩)
     refine SZ ?_ ?_
     ·rintro b a w ⟨v800, ha, HM⟩ hb hon hoff K hK
      replace ha := Aside0.mk ha
      have e26 := PE ha 1 hon
      refine ST (eC (some 27) rfl #[.int .i64 a0_0] rfl Tryz.func18 (impl_NumText.calls kj13 a0_0 t797 _ A21.out) ?_ (hargs := by (simp only [List.map_toArray, List.map_cons, List.map_nil, evc, eval_of e26]) <;> rfl))
      rintro e w36 ⟨rfl, hR⟩
      refine ⟨_, rfl, ?_⟩
      replace HM := HM.call hR
      clear hR
      exact hK.out _ _ ⟨v800, PUT ha 2 hb, (HM).pick [0, 1]⟩
     refine SZ ?_ ?_
     ·rintro b a w ⟨v800, ha, HM⟩ hb hon hoff K hK
      replace ha := Aside0.mk ha
      have e1 := PG ha 1
      exact VL (.pointer (some ⟨gb793, 1, none⟩)) (hK.out _ _ ⟨v800, PUT ha 3 hb, HM⟩)
     refine SZ ?_ ?_
     ·rintro b a w ⟨v800, ha, HM⟩ hb hon hoff K hK
      replace ha := Aside0.mk ha
      obtain ⟨_,_,_,_,_,_,_,_,_,_⟩ := bk5 (HM.bx 0 rfl)
      have e28 := PE ha 3 hon
      exact VL (.int .i64 a0_1) (hK.out _ _ ⟨v800, PUT ha 4 hb, HM⟩)
     refine SZ ?_ ?_
     ·rintro b a w ⟨v800, ha, HM⟩ hb hon hoff K hK
      replace ha := Aside0.mk ha
      have e29 := PE ha 4 hon
      refine ST (eC (some 30) rfl #[.int .i64 a0_1] rfl Tryz.func18 (impl_NumText.calls kj13 a0_1 t798 _ A22.out) ?_ (hargs := by (simp only [List.map_toArray, List.map_cons, List.map_nil, evc, eval_of e29]) <;> rfl))
      rintro e w38 ⟨rfl, hR⟩
      refine ⟨_, rfl, ?_⟩
      replace HM := HM.call hR
      clear hR
      exact hK.out _ _ ⟨v800, PUT ha 5 hb, (HM).pick [0, 1]⟩
     refine SZ ?_ ?_
     ·rintro b a w ⟨v800, ha, HM⟩ hb hon hoff K hK
      replace ha := Aside0.mk ha
      have e27 := PE ha 2 hon
      have e30 := PE ha 5 hon
      refine ST (eL 31 Kd.string 9 ([(⟨#[116, 104, 114, 101, 101]⟩ : ByteArray), t797, t798] : List ByteArray) [.string (⟨#[116, 104, 114, 101, 101]⟩ : ByteArray), .string t797, .string t798] (Reps.one (show Kd.M Kd.string _ _ _ (⟨#[116, 104, 114, 101, 101]⟩ : ByteArray) [.string (⟨#[116, 104, 114, 101, 101]⟩ : ByteArray)] from rfl) (Reps.one (show Kd.M Kd.string _ _ _ t797 [.string t797] from rfl) (Reps.one (show Kd.M Kd.string _ _ _ t798 [.string t798] from rfl) (Reps.none _ _)))) HM rfl ?_)
      clear HM
      intro v800 w39 HM
      exact hK.out _ _ ⟨v800, PUT ha 6 hb, (HM).pick [0, 2]⟩
     refine SZ ?_ ?_
     ·rintro b a w ⟨v800, ha, HM⟩ hb hon hoff K hK
      replace ha := Aside0.mk ha
      replace HM := HM.sT 1 rfl (hon 6 rfl)
      obtain ⟨Xo41, ko41, rfl⟩ := HM.rdR 1 rfl
      have e31 := PE ha 6 hon
      refine ST (eC (some 32) rfl #[.slice Xo41 (([(⟨#[116, 104, 114, 101, 101]⟩ : ByteArray), t797, t798] : List ByteArray)).length ko41] rfl Tryz.func17 (impl_glued.calls kj13 _ _ (([(⟨#[116, 104, 114, 101, 101]⟩ : ByteArray), t797, t798] : List ByteArray)) t802 _ (HM.CR 1 rfl).2.2 (HM.CR 1 rfl).2.1 A23.out) ?_ (hargs := by (simp only [List.map_toArray, List.map_cons, List.map_nil, evc, eval_of e31]) <;> rfl))
      rintro e w40 ⟨rfl, hd⟩
      refine ⟨_, rfl, ?_⟩
      replace HM := HM.drawn hd
      clear hd
      exact hK.out _ _ ⟨.slice Xo41 (([(⟨#[116, 104, 114, 101, 101]⟩ : ByteArray), t797, t798] : List ByteArray)).length ko41, PUT ha 7 hb, (HM.iT 1 rfl (hon 6 rfl)).pick [0, 1]⟩
     refine SZ ?_ ?_
     ·rintro b a w ⟨v800, ha, HM⟩ hb hon hoff K hK
      replace ha := Aside0.mk ha
      have e32 := PE ha 7 hon
      exact VL (.string (t802 ++ (⟨#[10]⟩ : ByteArray))) (hK.out _ _ ⟨v800, PUT ha 8 hb, HM⟩)
     refine SZ ?_ ?_
     ·rintro b a w ⟨v800, ha, HM⟩ hb hon hoff K hK
      replace ha := Aside0.mk ha
      have e3 := PG ha 3
      exact VL (.string t794) (hK.out _ _ ⟨v800, PUT ha 9 hb, HM⟩)
     refine SZ ?_ ?_
     ·rintro b a w ⟨v800, ha, HM⟩ hb hon hoff K hK
      replace ha := Aside0.mk ha
      have e33 := PE ha 8 hon
      have e34 := PE ha 9 hon
      exact VL (.string ((t802 ++ (⟨#[10]⟩ : ByteArray)) ++ t794)) (hK.out _ _ ⟨v800, PUT ha 10 hb, HM⟩)
     refine SZ ?_ ?_
     ·rintro b a w ⟨v800, ha, HM⟩ hb hon hoff K hK
      replace ha := Aside0.mk ha
      have e4 := PG ha 4
      exact VL (.string t795) (hK.out _ _ ⟨v800, PUT ha 11 hb, HM⟩)
     refine SZ ?_ ?_
     ·rintro b a w ⟨v800, ha, HM⟩ hb hon hoff K hK
      replace ha := Aside0.mk ha
      have e35 := PE ha 10 hon
      have e36 := PE ha 11 hon
      exact VL (.string (((t802 ++ (⟨#[10]⟩ : ByteArray)) ++ t794) ++ t795)) (hK.out _ _ ⟨v800, PUT ha 12 hb, HM⟩)
     refine SZ ?_ ?_
     ·rintro b a w ⟨v800, ha, HM⟩ hb hon hoff K hK
      replace ha := Aside0.mk ha
      have e37 := PE ha 12 hon
      exact VL (.string ((((t802 ++ (⟨#[10]⟩ : ByteArray)) ++ t794) ++ t795) ++ (⟨#[103, 104, 111, 115, 116]⟩ : ByteArray))) (hK.out _ _ ⟨v800, PUT ha 13 hb, HM⟩)
     refine SZ ?_ ?_
     ·rintro b a w ⟨v800, ha, HM⟩ hb hon hoff K hK
      replace ha := Aside0.mk ha
      have e38 := PE ha 13 hon
      exact VL (.string ((((t802 ++ (⟨#[10]⟩ : ByteArray)) ++ t794) ++ t795) ++ (⟨#[103, 104, 111, 115, 116]⟩ : ByteArray))) (hK.out _ _ ⟨v800, PUT ha 14 hb, HM⟩)
     exact steps_nil
    rintro _ w42 ⟨v800, rfl, HM⟩
    replace HM := HM.sT 1 rfl rfl
    simp only [putSel, if_true, Act.put, List.setIfInBounds_toArray, List.set_cons_zero, List.set_cons_succ, gt_iff_lt, ge_iff_le]
    have H' := Aside0.mk H
    clear H
    obtain ⟨_,_,_,_,_,_,_,_,_,_⟩ := bk5 (HM.bx 0 rfl)
    go_wp2
    go_loopg [5, 42] kj13 (fun kq v5 v42 w' => ∃ (x5_2 : ByteArray) (x42_2 : Int), v5 = .string x5_2 ∧ v42 = .int .i64 x42_2 ∧ Aside0 (impl_ThreeText.l0 kq x5_2 l0_4 (l0_4.length : Int) x42_2 = some r) ∧ Aside0 (kq ≤ kj13) ∧ Mem w [] w' [box 26 gb793 [.int .i64 a0_0, .int .i64 a0_1, .slice A0_2 l0_2.length c0_2, .slice A0_3 l0_3.length c0_3, .slice A0_4 l0_4.length c0_4]])
    case atStart => exact ⟨((((t802 ++ (⟨#[10]⟩ : ByteArray)) ++ t794) ++ t795) ++ (⟨#[103, 104, 111, 115, 116]⟩ : ByteArray)), (0), RS, RS, H', ⟨Nat.le_refl _⟩, (MD HM).pick [0]⟩
    case round =>
     clear H' HM
     obtain ⟨x5_2, x42_2, rfl, rfl, HA, HK2, HM⟩ := hrel
     cases gk with
     | zero => exact absurd HA.out (by simp [impl_ThreeText.l0])
     | succ k2 =>
      have H := HA.out
      clear HA
      simp only [impl_ThreeText.l0] at H
      go_upto_if 43 with (fail)
      replace H := IT H; rcases H with ⟨c44, H⟩ | ⟨c44, H⟩
      ·have c44b0 := decide_eq_true c44
       clear c44
       first|rw [c44b0]|(simp only [i64_w, i32_w]; rw [c44b0])|skip
       replace H := GD H; obtain ⟨c45, H⟩ := H
       have c45b0 := decide_eq_true c45
       clear c45
       replace H := GD H; obtain ⟨c46, H⟩ := H
       have c46b0 := decide_eq_true c46
       clear c46
       replace H := GD H; obtain ⟨c47, H⟩ := H
       have c47b0 := eq_true c47
       have c47b1 : decide (x5_2.size + 1 ≤ 9223372036854775807) = true := decide_eq_true c47
       try have c47b2 : (9223372036854775807 < x5_2.size + 1) = False := eq_false (Nat.not_lt.2 c47)
       replace H := BN H; obtain ⟨t804, A48, H⟩ := H
       replace H := GD H; obtain ⟨c50, H⟩ := H
       have c50b0 := eq_true c50
       have c50b1 : decide (x5_2.size + 1 + t804.size ≤ 9223372036854775807) = true := decide_eq_true c50
       try have c50b2 : (9223372036854775807 < x5_2.size + 1 + t804.size) = False := eq_false (Nat.not_lt.2 c50)
       have H' := Aside0.mk H
       clear H
       have p803 : 0 ≤ (x42_2 : Int) := of_decide_eq_true AS
       have q803 : (x42_2 : Int) < (l0_4.length : Int) := of_decide_eq_true AS
       obtain ⟨ad803, e803, hx803_0⟩ := Kd.at_int (HM.came HR0_4.out) x42_2 p803 q803
       cases e803
       replace p803 := eq_true p803
       replace q803 := eq_true q803
       go_wp2_with (first | ((with_reducible refine gC 18 rfl ?_); refine pC (some 49) rfl #[.int .i64 (rd l0_4 x42_2)] rfl Tryz.func18 (impl_NumText.calls k2 (rd l0_4 x42_2) t804 _ A48.out) ?_; rintro e w49 ⟨rfl, hR⟩; refine ⟨_, rfl, ?_⟩; replace HM := HM.call hR; clear hR))
       go_roundg k2
       case measure => have := HJ13.out; have := HK2.out; omega
       case rel => exact ⟨((x5_2 ++ (⟨#[32]⟩ : ByteArray)) ++ t804), (wrap64 (x42_2 + 1)), RS, RS, H', ⟨by have := HJ13.out; have := HK2.out; omega⟩, (MD HM).pick [0]⟩
      ·have c44b0 := decide_eq_false c44
       clear c44
       first|rw [c44b0]|(simp only [i64_w, i32_w]; rw [c44b0])|skip
       replace H := GD H; obtain ⟨c51, H⟩ := H
       have c51b0 := eq_true c51
       have c51b1 : decide (x5_2.size + 1 ≤ 9223372036854775807) = true := decide_eq_true c51
       try have c51b2 : (9223372036854775807 < x5_2.size + 1) = False := eq_false (Nat.not_lt.2 c51)
       obtain rfl := Option.some.inj H
       go_wp2
       go_ret
       exact ⟨ER, (MD HM).pick []⟩
def impl_OpOk.f (k : Nat) (a0_0 : Int) (a0_1 : ByteArray) (a0_2 : ByteArray) : Option (Bool) := (impl_within.f a0_0 1 3).bind fun t806 => (if t806 = true then ((impl_ItemOk.f k a0_1 a0_2 0).bind fun t807 => (if t807 = true then (if a0_0 = 2 then (some true) else (some (a0_2.toList == ([] : List UInt8)))) else (some false))) else (some false))
theorem impl_OpOk.calls (k : Nat) (a0_0 : Int) (a0_1 : ByteArray) (a0_2 : ByteArray) (r : Bool) (w : World)  (h : impl_OpOk.f k a0_0 a0_1 a0_2 = some r) :
  Calls Tryz.prog 38 #[.agg #[.int .i64 a0_0, .string a0_1, .string a0_2]] w fun e w' => e = .returned (.bool r) ∧ Mem w [] w' [] := by
 have hu52 := Tryz.underlying52
 have hu60 := Tryz.underlying60
 have HM := Mem.nil w
 have H := h
 clear h
 unfold impl_OpOk.f at H
 go_enter Tryz.func38, Tryz.ntmps38
 replace H := BN H; obtain ⟨t806, A4, H⟩ := H
 replace H := IB H
 rcases H with ⟨c6, H⟩ | ⟨c6, H⟩
 ·subst c6
  replace H := BN H; obtain ⟨t807, A8, H⟩ := H
  replace H := IB H
  rcases H with ⟨c10, H⟩ | ⟨c10, H⟩
  ·subst c10
   replace H := IT H; rcases H with ⟨c12, H⟩ | ⟨c12, H⟩
   ·obtain ⟨c12b0, c12b1⟩ := BE c12
    clear c12
    obtain rfl := Option.some.inj H
    go_wp2_with (first | ((with_reducible refine gN 1 rfl ?_); refine pB 1 52 [.int .i64 a0_0, .string a0_1, .string a0_2] HM rfl ?_; clear HM; intro gb805 w2 HM; obtain ⟨_,_,_,_,_,_⟩ := bk3 (HM.bx 0 rfl)) | ((with_reducible refine gC 24 rfl ?_); refine pC (some 5) rfl #[.int .i64 a0_0, .int .i64 1, .int .i64 3] rfl Tryz.func24 (impl_within.calls a0_0 1 3 true _ A4.out) ?_; rintro e w5 ⟨rfl, hd⟩; refine ⟨_, rfl, ?_⟩; replace HM := HM.drawn hd; clear hd; obtain ⟨_,_,_,_,_,_⟩ := bk3 (HM.bx 0 rfl)) | ((with_reducible refine gC 44 rfl ?_); refine pC (some 12) rfl #[.agg #[.string a0_1, .string a0_2, .int .i64 0]] rfl Tryz.func44 (impl_ItemOk.calls k a0_1 a0_2 0 true _ A8.out) ?_; rintro e w9 ⟨rfl, hR⟩; refine ⟨_, rfl, ?_⟩; replace HM := HM.call hR; clear hR; obtain ⟨_,_,_,_,_,_⟩ := bk3 (HM.bx 0 rfl)))
    go_ret
    exact ⟨ER, (MD HM).pick []⟩
   ·obtain ⟨c12b0, c12b1⟩ := BF c12
    obtain rfl := Option.some.inj H
    go_wp2_with (first | ((with_reducible refine gN 1 rfl ?_); refine pB 1 52 [.int .i64 a0_0, .string a0_1, .string a0_2] HM rfl ?_; clear HM; intro gb805 w2 HM; obtain ⟨_,_,_,_,_,_⟩ := bk3 (HM.bx 0 rfl)) | ((with_reducible refine gC 24 rfl ?_); refine pC (some 5) rfl #[.int .i64 a0_0, .int .i64 1, .int .i64 3] rfl Tryz.func24 (impl_within.calls a0_0 1 3 true _ A4.out) ?_; rintro e w5 ⟨rfl, hd⟩; refine ⟨_, rfl, ?_⟩; replace HM := HM.drawn hd; clear hd; obtain ⟨_,_,_,_,_,_⟩ := bk3 (HM.bx 0 rfl)) | ((with_reducible refine gC 44 rfl ?_); refine pC (some 12) rfl #[.agg #[.string a0_1, .string a0_2, .int .i64 0]] rfl Tryz.func44 (impl_ItemOk.calls k a0_1 a0_2 0 true _ A8.out) ?_; rintro e w9 ⟨rfl, hR⟩; refine ⟨_, rfl, ?_⟩; replace HM := HM.call hR; clear hR; obtain ⟨_,_,_,_,_,_⟩ := bk3 (HM.bx 0 rfl)))
    go_ret
    exact ⟨ER, (MD HM).pick []⟩
  ·subst c10
   obtain rfl := Option.some.inj H
   go_wp2_with (first | ((with_reducible refine gN 1 rfl ?_); refine pB 1 52 [.int .i64 a0_0, .string a0_1, .string a0_2] HM rfl ?_; clear HM; intro gb805 w2 HM; obtain ⟨_,_,_,_,_,_⟩ := bk3 (HM.bx 0 rfl)) | ((with_reducible refine gC 24 rfl ?_); refine pC (some 5) rfl #[.int .i64 a0_0, .int .i64 1, .int .i64 3] rfl Tryz.func24 (impl_within.calls a0_0 1 3 true _ A4.out) ?_; rintro e w5 ⟨rfl, hd⟩; refine ⟨_, rfl, ?_⟩; replace HM := HM.drawn hd; clear hd; obtain ⟨_,_,_,_,_,_⟩ := bk3 (HM.bx 0 rfl)) | ((with_reducible refine gC 44 rfl ?_); refine pC (some 12) rfl #[.agg #[.string a0_1, .string a0_2, .int .i64 0]] rfl Tryz.func44 (impl_ItemOk.calls k a0_1 a0_2 0 false _ A8.out) ?_; rintro e w9 ⟨rfl, hR⟩; refine ⟨_, rfl, ?_⟩; replace HM := HM.call hR; clear hR))
   go_ret
   exact ⟨ER, (MD HM).pick []⟩
 ·subst c6
  obtain rfl := Option.some.inj H
  go_wp2_with (first | ((with_reducible refine gN 1 rfl ?_); refine pB 1 52 [.int .i64 a0_0, .string a0_1, .string a0_2] HM rfl ?_; clear HM; intro gb805 w2 HM; obtain ⟨_,_,_,_,_,_⟩ := bk3 (HM.bx 0 rfl)) | ((with_reducible refine gC 24 rfl ?_); refine pC (some 5) rfl #[.int .i64 a0_0, .int .i64 1, .int .i64 3] rfl Tryz.func24 (impl_within.calls a0_0 1 3 false _ A4.out) ?_; rintro e w5 ⟨rfl, hd⟩; refine ⟨_, rfl, ?_⟩; replace HM := HM.drawn hd; clear hd))
  go_ret
  exact ⟨ER, (MD HM).pick []⟩
end Go.Proofs.YtnlnifpehndacaaGreat.G

namespace Go.Proofs.YtnlnifpehndacaaGreat.G
open Go.RowKit Go.Proofs.YtnlnifpehndacaaGreatW.PrintWords Go.Proofs.YtnlnifpehndacaaGreatW.PrintLast Go.Proofs.YtnlnifpehndacaaGreatW.PrintMore Go.Proofs.YtnlnifpehndacaaGreat.Sh
attribute [local go_sem] max2_int min2_int max_two min_two max_three min_three max_four min_four
set_option linter.unusedVariables false
set_option linter.unusedSimpArgs false
open Go.Proofs.YtnlnifpehndacaaGreat.Man
def impl_Three_item.f (l2 l3 : List S60) (a1 : ByteArray) : Option Int := (impl_itemAt.f l2 a1).bind fun a => if 0 ≤ a then some a else (impl_itemAt.f l3 a1).bind fun b => if 0 ≤ b then some ((l2.length : Int) + b) else some (-1)
def impl_Three_item.ptr (A2 A3 : Option Addr) (n : Nat) (r : Int) : Option Addr := if r < 0 then none else if r < (n : Int) then A2.map (·.add (r.toNat * 3)) else A3.map (·.add ((wrap64 (r - (n : Int))).toNat * 3))
theorem impl_Three_item.ptr_nil {A2 A3 : Option Addr} {n : Nat} {r : Int} (h : decide (r < 0) = true) : impl_Three_item.ptr A2 A3 n r = none := if_pos (of_decide_eq_true h)
theorem impl_Three_item.ptr_small {g : Nat} {A3 : Option Addr} {n : Nat} {r : Int} (h : decide (r < 0) = false) (h1 : decide (r < (n : Int)) = true) : impl_Three_item.ptr (some ⟨g, 0, none⟩) A3 n r = some ⟨g, r.toNat * 3, none⟩ := by
 refine (if_neg (of_decide_eq_false h)).trans ((if_pos (of_decide_eq_true h1)).trans ?_)
 rw [Option.map_some, add_plain]
theorem impl_Three_item.ptr_main {A2 : Option Addr} {g : Nat} {n : Nat} {r : Int} (h : decide (r < 0) = false) (h1 : decide (r < (n : Int)) = false) : impl_Three_item.ptr A2 (some ⟨g, 0, none⟩) n r = some ⟨g, (wrap64 (r - (n : Int))).toNat * 3, none⟩ := by
 refine (if_neg (of_decide_eq_false h)).trans ((if_neg (of_decide_eq_false h1)).trans ?_)
 rw [Option.map_some, add_plain]
theorem impl_Three_item.ptr_nil' {A2 A3 : Option Addr} {n : Nat} {r : Int} (h : decide (0 ≤ r) = false) : impl_Three_item.ptr A2 A3 n r = none := impl_Three_item.ptr_nil (decide_eq_true (by have := of_decide_eq_false h; omega))
theorem impl_Three_item.ptr_small' {g : Nat} {A3 : Option Addr} {n : Nat} {r : Int} (h : decide (0 ≤ r) = true) (h1 : decide (r < (n : Int)) = true) : impl_Three_item.ptr (some ⟨g, 0, none⟩) A3 n r = some ⟨g, r.toNat * 3, none⟩ := impl_Three_item.ptr_small (decide_eq_false (by have := of_decide_eq_true h; omega)) h1
theorem impl_Three_item.ptr_main' {A2 : Option Addr} {g : Nat} {n : Nat} {r : Int} (h : decide (0 ≤ r) = true) (h1 : decide (r < (n : Int)) = false) : impl_Three_item.ptr A2 (some ⟨g, 0, none⟩) n r = some ⟨g, (wrap64 (r - (n : Int))).toNat * 3, none⟩ := impl_Three_item.ptr_main (decide_eq_false (by have := of_decide_eq_true h; omega)) h1
theorem impl_itemAt.idx_lt (key : ByteArray) : ∀ (l : List S60) (i : Nat), impl_itemAt.idx key l i < ((i + l.length : Nat) : Int) ∧ (impl_itemAt.idx key l i = -1 ∨ 0 ≤ impl_itemAt.idx key l i)
 | [], i => ⟨by simp [impl_itemAt.idx]; omega, .inl rfl⟩
 | x :: r, i => by
  rw [impl_itemAt.idx]
  by_cases c : x.f0.toList = key.toList
  ·rw [if_pos c]; simp only [List.length_cons]; omega
  ·rw [if_neg c]
   have := impl_itemAt.idx_lt key r (i + 1)
   simp only [List.length_cons]
   omega
set_option maxHeartbeats 4000000 in
set_option maxRecDepth 100000 in
theorem impl_Three_item.calls (g : Nat) (a0 b0 : Int) (x4 : Value) (A2 : Option Addr) (c2 : Nat) (l2 : List S60) (A3 : Option Addr) (c3 : Nat) (l3 : List S60) (a1 : ByteArray) (r : Int) (w : World) (hr2 : Kd.C k60 w A2 l2.length l2) (hc2 : l2.length ≤ c2) (hr3 : Kd.C k60 w A3 l3.length l3) (hc3 : l3.length ≤ c3) (hb : w.heap[g]? = some (.cells #[.int .i64 a0, .int .i64 b0, .slice A2 l2.length c2, .slice A3 l3.length c3, x4] 26 (0, 0))) (h : impl_Three_item.f l2 l3 a1 = some r) :
  Calls Tryz.prog 57 #[.pointer (some ⟨g, 0, none⟩), .string a1] w fun e w' => e = .returned (.pointer (impl_Three_item.ptr A2 A3 l2.length r)) ∧ Below w.heap.size w w' := by
 have e1 : impl_itemAt.f l2 a1 = some (impl_itemAt.idx a1 l2 0) := rfl
 have e2 : impl_itemAt.f l3 a1 = some (impl_itemAt.idx a1 l3 0) := rfl
 have q1 := impl_itemAt.idx_lt a1 l2 0
 have q2 := impl_itemAt.idx_lt a1 l3 0
 have L2 : l2.length ≤ 9223372036854775807 := hr2.2.1
 have L3 : l3.length ≤ 9223372036854775807 := hr3.2.1
 have HB := Aside0.mk hb
 have HR2 := Aside0.mk hr2
 have HC2 := Aside0.mk hc2
 have HR3 := Aside0.mk hr3
 have HC3 := Aside0.mk hc3
 have hu45 := Tryz.underlying26
 have k0 : w.cell? ⟨g, 2, none⟩ = some (.slice A2 l2.length c2) := blk_cell hb 2
 unfold impl_Three_item.f at h
 rw [e1, Option.bind_some] at h
 obtain ⟨K1, hK1⟩ : ∃ K1, impl_itemAt.idx a1 l2 0 = K1 := ⟨_, rfl⟩
 rw [hK1] at h e1 q1
 clear hb hr2 hc2 hr3 hc3
 by_cases c1 : 0 ≤ K1
 ·rw [if_pos c1] at h
  obtain rfl := Option.some.inj h
  clear h
  have hlt : K1 < (l2.length : Int) := by have := q1.1; omega
  obtain ⟨ad, hA, _⟩ := at_T60 HR2.out K1 c1 hlt
  subst hA
  have hp : impl_Three_item.ptr (some ad) A3 l2.length K1 = some (ad.add (K1.toNat * 3)) := by
   unfold impl_Three_item.ptr
   rw [if_neg (by omega), if_pos hlt]; rfl
  rw [hp]
  have HE := Aside0.mk e1
  have d1 : decide (0 ≤ K1) = true := decide_eq_true c1
  replace c1 := eq_true c1
  replace hlt := eq_true hlt
  clear e1 e2 q1 q2 hK1 hp
  go_enter Tryz.func57, Tryz.ntmps57
  go_wp2_with fail
  refine (impl_itemAt.calls _ _ _ _ _ _ HR2.out HC2.out HE.out).mono ?_
  rintro e w1 ⟨rfl, hb1⟩
  have HB1 := Aside0.mk hb1
  have k1 : w1.cell? ⟨g, 2, none⟩ = some (.slice (some ad) l2.length c2) := blk_cell (blk_below HB.out hb1) 2
  clear hb1
  go_wp2
  go_ret
  exact ⟨rfl, HB1.out⟩
 ·rw [if_neg c1, e2, Option.bind_some] at h
  obtain ⟨K2, hK2⟩ : ∃ K2, impl_itemAt.idx a1 l3 0 = K2 := ⟨_, rfl⟩
  rw [hK2] at h e2 q2
  have k00 : w.cell? ⟨g, 3, none⟩ = some (.slice A3 l3.length c3) := blk_cell HB.out 3
  have d1 : decide (0 ≤ K1) = false := decide_eq_false c1
  by_cases c2' : 0 ≤ K2
  ·rw [if_pos c2'] at h
   obtain rfl := Option.some.inj h
   clear h
   have hlt : K2 < (l3.length : Int) := by have := q2.1; omega
   obtain ⟨ad, hA, _⟩ := at_T60 HR3.out K2 c2' hlt
   subst hA
   have hp : impl_Three_item.ptr A2 (some ad) l2.length ((l2.length : Int) + K2) = some (ad.add (K2.toNat * 3)) := by
    unfold impl_Three_item.ptr
    rw [if_neg (by omega), if_neg (by omega), show wrap64 ((l2.length : Int) + K2 - (l2.length : Int)) = K2 by unfold wrap64; omega]; rfl
   rw [hp]
   have HE := Aside0.mk e1
   have HE2 := Aside0.mk e2
   have d2 : decide (0 ≤ K2) = true := decide_eq_true c2'
   replace c2' := eq_true c2'
   replace hlt := eq_true hlt
   clear e1 e2 q1 q2 hK1 hK2 hp c1
   go_enter Tryz.func57, Tryz.ntmps57
   go_wp2_with fail
   refine (impl_itemAt.calls _ _ _ _ _ _ HR2.out HC2.out HE.out).mono ?_
   rintro e w1 ⟨rfl, hb1⟩
   have HB1 := Aside0.mk hb1
   have k1 : w1.cell? ⟨g, 2, none⟩ = some (.slice A2 l2.length c2) := blk_cell (blk_below HB.out hb1) 2
   have k11 : w1.cell? ⟨g, 3, none⟩ = some (.slice (some ad) l3.length c3) := blk_cell (blk_below HB.out hb1) 3
   clear hb1
   go_wp2_with fail
   refine (impl_itemAt.calls _ _ _ _ _ _ (Kd.C_below HR3.out HB1.out) HC3.out HE2.out).mono ?_
   rintro e w2 ⟨rfl, hb2⟩
   have HB2 := Aside0.mk (below_step HB1.out hb2)
   have k2 : w2.cell? ⟨g, 3, none⟩ = some (.slice (some ad) l3.length c3) := blk_cell (blk_below HB.out HB2.out) 3
   clear hb2
   go_wp2
   go_ret
   exact ⟨rfl, HB2.out⟩
  ·rw [if_neg c2'] at h
   obtain rfl := Option.some.inj h
   clear h
   have hp : impl_Three_item.ptr A2 A3 l2.length (-1) = none := by
    unfold impl_Three_item.ptr
    rw [if_pos (by omega)]
   rw [hp]
   have HE := Aside0.mk e1
   have HE2 := Aside0.mk e2
   have d2 : decide (0 ≤ K2) = false := decide_eq_false c2'
   clear e1 e2 q1 q2 hK1 hK2 hp c1 c2'
   go_enter Tryz.func57, Tryz.ntmps57
   go_wp2_with fail
   refine (impl_itemAt.calls _ _ _ _ _ _ HR2.out HC2.out HE.out).mono ?_
   rintro e w1 ⟨rfl, hb1⟩
   have HB1 := Aside0.mk hb1
   have k1 : w1.cell? ⟨g, 2, none⟩ = some (.slice A2 l2.length c2) := blk_cell (blk_below HB.out hb1) 2
   have k11 : w1.cell? ⟨g, 3, none⟩ = some (.slice A3 l3.length c3) := blk_cell (blk_below HB.out hb1) 3
   clear hb1
   go_wp2_with fail
   refine (impl_itemAt.calls _ _ _ _ _ _ (Kd.C_below HR3.out HB1.out) HC3.out HE2.out).mono ?_
   rintro e w2 ⟨rfl, hb2⟩
   have HB2 := Aside0.mk (below_step HB1.out hb2)
   clear hb2
   go_wp2
   go_ret
   exact ⟨rfl, HB2.out⟩
end Go.Proofs.YtnlnifpehndacaaGreat.G
