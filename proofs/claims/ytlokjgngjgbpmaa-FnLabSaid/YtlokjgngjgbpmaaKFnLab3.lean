/- Part 3 of the claim FnLab, merged by pack.py (this session's program) out of: the print's words, cut to what is needed; texts that gen.py printed (it runs the kit's print in place); texts of this session. -/
import Derived.Deep.RegionLaw
import Derived.RegionTactic
import Derived.Test.YtlokjgngjgbpmaaKFnLab1
import Derived.Test.YtlokjgngjgbpmaaKFnLab2
namespace Go.Proofs.Ytlokjgngjgbpmaa.Man
end Go.Proofs.Ytlokjgngjgbpmaa.Man
namespace Go.Proofs.Ytlokjgngjgbpmaa.Mm
end Go.Proofs.Ytlokjgngjgbpmaa.Mm
namespace Go.Proofs.Ytlokjgngjgbpmaa.Sh
end Go.Proofs.Ytlokjgngjgbpmaa.Sh
namespace Go.Proofs.Ytlokjgngjgbpmaa.G
open Go.RowKit Go.Proofs.YtlokjgngjgbpmaaW.PrintWords Go.Proofs.YtlokjgngjgbpmaaW.PrintLast Go.Proofs.YtlokjgngjgbpmaaW.PrintMore Go.Proofs.Ytlokjgngjgbpmaa.Sh
attribute [local go_sem] max2_int min2_int max_two min_two max_three min_three max_four min_four
set_option linter.unusedVariables false
set_option linter.unusedSimpArgs false
open Go.Proofs.Ytlokjgngjgbpmaa.Mm
def impl_CountOf.j0 : Nat → List ByteArray → Bool → Int → Int → Int → Option (Int × Int × Int × Int)
 | 0, _, _, _, _, _ => none
 | k + 1, x1, x16, x639000, x639001, x639002 => if x16 = true then (some (0, 0, 0, 0)) else ((impl_asked.f k x639000 x639001 x639002 x1).bind fun bt642 => ((impl_hitsIn.f k bt642.2.2.2.2.2.2.2.2.1).bind fun t663 => (some ((x1.length : Int), t663, wrap64 ((x1.length : Int) - t663), bt642.2.2.2.2.2.2.2.2.2))))
def impl_CountOf.f (k : Nat) (a0_0 : Int) (a0_1 : Int) (a0_2 : Int) (l1 : List ByteArray) : Option (Int × Int × Int × Int) := (impl_SetupOk.f k a0_0 a0_1 a0_2).bind fun t640 => (if t640 = true then ((impl_AsksOk.f k l1).bind fun t641 => (impl_CountOf.j0 k l1 (!t641) a0_0 a0_1 a0_2)) else (impl_CountOf.j0 k l1 true a0_0 a0_1 a0_2))
set_option maxHeartbeats 8000000 in
set_option maxRecDepth 100000 in
theorem impl_CountOf.calls (k : Nat) (a0_0 : Int) (a0_1 : Int) (a0_2 : Int) (A1 : Option Addr) (c1 : Nat) (l1 : List ByteArray) (r1 : Int) (r2 : Int) (r3 : Int) (r4 : Int) (w : World) (hr1 : Kd.C Kd.string w A1 l1.length l1) (hc1 : l1.length ≤ c1) (h : impl_CountOf.f k a0_0 a0_1 a0_2 l1 = some (r1, r2, r3, r4)) :
  Calls Try.prog 11 #[.agg #[.int .i64 a0_0, .int .i64 a0_1, .int .i64 a0_2], .slice A1 l1.length c1] w fun e w' => e = .returned (.agg #[.int .i64 r1, .int .i64 r2, .int .i64 r3, .int .i64 r4]) ∧ Mem w [] w' [] := by
 have hu31 := Try.underlying31
 have hu35 := Try.underlying35
 have HR1 := Aside0.mk hr1
 have HC1 := Aside0.mk hc1
 clear hr1 hc1
 have HM := Mem.nil w
 have H := h
 clear h
 unfold impl_CountOf.f at H
 go_enter Try.func11, Try.ntmps11
 have HC5 := Aside0.mk H
 clear H
 go_upto_region 1 with (first | ((with_reducible refine gN 2 rfl ?_); refine pB 2 31 [.int .i64 a0_0, .int .i64 a0_1, .int .i64 a0_2] HM rfl ?_; clear HM; intro gb638 w3 HM) | ((with_reducible refine gN 4 rfl ?_); refine pB 4 35 [.int .i64 0, .int .i64 0, .int .i64 0, .int .i64 0] HM rfl ?_; clear HM; intro gb639 w4 HM))
 replace HM := nzM HM
 try simp only [Act.put, List.setIfInBounds_toArray, List.set_cons_zero, List.set_cons_succ]
 go_cut [16] (fun v16 wc => ∃ (kq : Nat) (x16_4 : Bool), v16 = .bool x16_4 ∧ Aside0 (impl_CountOf.j0 kq l1 x16_4 a0_0 a0_1 a0_2 = some (r1, r2, r3, r4)) ∧ Aside0 (kq ≤ k) ∧ Mem w [] wc [box 31 gb638 [.int .i64 a0_0, .int .i64 a0_1, .int .i64 a0_2], box 35 gb639 [.int .i64 0, .int .i64 0, .int .i64 0, .int .i64 0]])
 case first =>
  have H := HC5.out
  clear HC5
  replace H := BN H; obtain ⟨t640, A7, H⟩ := H
  replace H := IB H
  rcases H with ⟨c9, H⟩ | ⟨c9, H⟩
  ·subst c9
   replace H := BN H; obtain ⟨t641, A10, H⟩ := H
   have H' := Aside0.mk H
   clear H
   obtain ⟨z6_0, z6_1, z6_2, Z6_0, Z6_1, Z6_2⟩ := bk3 (HM.bx 0 rfl)
   go_wp2_with (first | ((with_reducible refine gC 30 rfl ?_); refine pC (some 10) rfl #[.agg #[.int .i64 a0_0, .int .i64 a0_1, .int .i64 a0_2]] rfl Try.func30 (impl_SetupOk.calls k a0_0 a0_1 a0_2 true _ A7.out) ?_; rintro e w8 ⟨rfl, hR⟩; refine ⟨_, rfl, ?_⟩; replace HM := HM.call hR; clear hR) | ((with_reducible refine gC 27 rfl ?_); refine pC (some 14) rfl #[.slice A1 l1.length c1] rfl Try.func27 (impl_AsksOk.calls k _ _ l1 t641 _ (HM.came HR1.out) HC1.out A10.out) ?_; rintro e w11 ⟨rfl, hR⟩; refine ⟨_, rfl, ?_⟩; replace HM := HM.call hR; clear hR))
   go_meet
   case rel => exact ⟨_, (!t641), RS, H', ⟨by first | omega | exact Nat.le_refl _⟩, (MD HM).pick [0, 1]⟩
  ·subst c9
   have H' := Aside0.mk H
   clear H
   obtain ⟨z6_0, z6_1, z6_2, Z6_0, Z6_1, Z6_2⟩ := bk3 (HM.bx 0 rfl)
   go_wp2_with (first | ((with_reducible refine gC 30 rfl ?_); refine pC (some 10) rfl #[.agg #[.int .i64 a0_0, .int .i64 a0_1, .int .i64 a0_2]] rfl Try.func30 (impl_SetupOk.calls k a0_0 a0_1 a0_2 false _ A7.out) ?_; rintro e w8 ⟨rfl, hR⟩; refine ⟨_, rfl, ?_⟩; replace HM := HM.call hR; clear hR))
   go_meet
   case rel => exact ⟨_, (true), RS, H', ⟨by first | omega | exact Nat.le_refl _⟩, (MD HM).pick [0, 1]⟩
 case rest =>
  clear HC5 HM
  obtain ⟨kq, x16_4, rfl, HA, HJ4, HM⟩ := hcut
  cases kq with
  | zero => exact absurd HA.out (by simp [impl_CountOf.j0])
  | succ kj4 =>
   have H := HA.out
   clear HA
   simp only [impl_CountOf.j0] at H
   go_upto_if 16 with (fail)
   replace H := IB H
   rcases H with ⟨c12, H⟩ | ⟨c12, H⟩
   ·subst c12
    simp only [Option.some.injEq, Prod.mk.injEq] at H
    obtain ⟨rfl, rfl, rfl, rfl⟩ := H
    go_wp2_with (first | ((with_reducible refine gS 4 rfl ?_); refine pS 1 4 0 [.int .i64 0, .int .i64 0, .int .i64 0, .int .i64 0] HM rfl rfl ?_; clear HM; intro w13 HM))
    refine bodyPost_ret (results_cell_row rfl _ _ gb639 35 #[.int .i64 0, .int .i64 0, .int .i64 0, .int .i64 0] (0, 0) _ rfl (HM.bx 1 rfl) Try.underlying35 rfl (by kernel_rfl)) rfl ?_
    exact ⟨ER, (MD HM).pick []⟩
   ·subst c12
    replace H := BN H; obtain ⟨⟨t642, t643, t644, t647, t648, t649, t652, t655, t658, t661⟩, A15, H⟩ := H
    replace H := BN H; obtain ⟨t663, A17, H⟩ := H
    simp only [Option.some.injEq, Prod.mk.injEq] at H
    obtain ⟨rfl, rfl, rfl, rfl⟩ := H
    obtain ⟨z14_0, z14_1, z14_2, Z14_0, Z14_1, Z14_2⟩ := bk3 (HM.bx 0 rfl)
    go_wp2_with (first | ((with_reducible refine gC 31 rfl ?_); refine pC (some 21) rfl #[.agg #[.int .i64 a0_0, .int .i64 a0_1, .int .i64 a0_2], .slice A1 l1.length c1] rfl Try.func31 (impl_asked.calls kj4 a0_0 a0_1 a0_2 _ _ l1 t642 t643 t644 t647 t648 t649 t652 t655 t658 t661 _ (HM.came HR1.out) HC1.out A15.out) ?_; rintro e w16 ⟨v645, v650, v653, v656, v659, gb662, rfl, hR⟩; refine ⟨_, rfl, ?_⟩; replace HM := HM.call hR; clear hR; obtain ⟨Xo19, ko19, eo19⟩ := HM.rdR 6 rfl; subst eo19) | ((with_reducible refine gC 32 rfl ?_); refine pC (some 26) rfl #[.slice Xo19 t658.length ko19] rfl Try.func32 (impl_hitsIn.calls kj4 _ _ t658 t663 _ (HM.CR 6 rfl).2.2 (HM.CR 6 rfl).2.1 A17.out) ?_; rintro e w18 ⟨rfl, hd⟩; refine ⟨_, rfl, ?_⟩; replace HM := HM.drawn hd; clear hd) | ((with_reducible refine gS 4 rfl ?_); refine pS 1 4 0 [.int .i64 (l1.length : Int), .int .i64 t663, .int .i64 (wrap64 ((l1.length : Int) - t663)), .int .i64 t661] HM rfl rfl ?_; clear HM; intro w20 HM))
    refine bodyPost_ret (results_cell_row rfl _ _ gb639 35 #[.int .i64 (l1.length : Int), .int .i64 t663, .int .i64 (wrap64 ((l1.length : Int) - t663)), .int .i64 t661] (0, 0) _ rfl (HM.bx 1 rfl) Try.underlying35 rfl (by kernel_rfl)) rfl ?_
    exact ⟨ER, (MD HM).pick []⟩
end Go.Proofs.Ytlokjgngjgbpmaa.G

namespace Go.Proofs.Ytlokjgngjgbpmaa.G
open Go.RowKit Go.Proofs.YtlokjgngjgbpmaaW.PrintWords Go.Proofs.YtlokjgngjgbpmaaW.PrintLast Go.Proofs.YtlokjgngjgbpmaaW.PrintMore Go.Proofs.Ytlokjgngjgbpmaa.Sh
attribute [local go_sem] max2_int min2_int max_two min_two max_three min_three max_four min_four
set_option linter.unusedVariables false
set_option linter.unusedSimpArgs false
def slices_Index_string_string.l0 : Nat → List ByteArray → ByteArray → Int → Int → Option (Int)
 | 0, _, _, _, _ => none
 | k + 1, x0, x1, x7, x8 => if x8 < x7 then (if 0 ≤ x8 then (if x8 < (x0.length : Int) then (if x1.toList = (rdOf ByteArray.empty x0 x8).toList then (some x8) else (slices_Index_string_string.l0 k x0 x1 x7 (wrap64 (x8 + 1)))) else (none)) else (none)) else (some (-1))
def slices_Index_string_string.f (k : Nat) (l0 : List ByteArray) (a1 : ByteArray) : Option (Int) := slices_Index_string_string.l0 k l0 a1 (l0.length : Int) 0
theorem slices_Index_string_string.mono_l : ∀ k, (∀ y0 y1 y2 y3, LeO (slices_Index_string_string.l0 k y0 y1 y2 y3) (slices_Index_string_string.l0 (k + 1) y0 y1 y2 y3))
 | 0 => fun _ _ _ _ r h => by simp [slices_Index_string_string.l0] at h
 | k + 1 => by
  have ih0 := slices_Index_string_string.mono_l k
  ·intro y0 y1 y2 y3
   unfold slices_Index_string_string.l0
   repeat' first | (with_reducible first | exact ih0 _ _ _ _ | exact LeO.refl _ | exact LeO.none _ | refine LeO.ite ?_ ?_ | refine LeO.bind ?_ (fun _ => ?_)) | exact LeO.none _ | refine LeO.ite ?_ ?_ | refine LeO.bind ?_ (fun _ => ?_)
theorem slices_Index_string_string.mono : ∀ a0 a1 k, LeO (slices_Index_string_string.f k a0 a1) (slices_Index_string_string.f (k + 1) a0 a1) := by
 intro a0 a1 k
 have ih0 := slices_Index_string_string.mono_l k
 unfold slices_Index_string_string.f
 repeat' first | (with_reducible first | exact ih0 _ _ _ _ | exact LeO.refl _ | exact LeO.none _ | refine LeO.ite ?_ ?_ | refine LeO.bind ?_ (fun _ => ?_)) | exact LeO.none _ | refine LeO.ite ?_ ?_ | refine LeO.bind ?_ (fun _ => ?_)
set_option maxHeartbeats 8000000 in
set_option maxRecDepth 100000 in
theorem slices_Index_string_string.calls (k : Nat) (A0 : Option Addr) (c0 : Nat) (l0 : List ByteArray) (a1 : ByteArray) (r : Int) (w : World) (hr0 : Kd.C Kd.string w A0 l0.length l0) (hc0 : l0.length ≤ c0) (h : slices_Index_string_string.f k l0 a1 = some r) :
  Calls Try.prog 65 #[.slice A0 l0.length c0, .string a1] w fun e w' => e = .returned (.int .i64 r) ∧ Drawn0 w w' := by
 have HR0 := Aside0.mk hr0
 have HC0 := Aside0.mk hc0
 clear hr0 hc0
 have H : (slices_Index_string_string.l0 k l0 a1 (l0.length : Int) 0) = some r := h
 clear h
 have H' := Aside0.mk H
 clear H
 go_enter Try.func65, Try.ntmps65
 go_wp2
 go_loopg [8] k (fun kq v8 w' => ∃ (x8_1 : Int), v8 = .int .i64 x8_1 ∧ Aside0 (slices_Index_string_string.l0 kq l0 a1 (l0.length : Int) x8_1 = some r) ∧ Aside0 (kq ≤ k) ∧ Drawn0 w w')
 case atStart => exact ⟨(0), RS, H', ⟨Nat.le_refl _⟩, DR⟩
 case round =>
  clear H'
  try clear p2
  obtain ⟨x8_1, rfl, HA, HK1, ⟨m1, rfl⟩⟩ := hrel
  cases gk with
  | zero => exact absurd HA.out (by simp [slices_Index_string_string.l0])
  | succ k1 =>
   have H := HA.out
   clear HA
   simp only [slices_Index_string_string.l0] at H
   by_cases c3 : x8_1 < (l0.length : Int)
   ·rw [if_pos c3] at H
    have c3b0 : decide (x8_1 < (l0.length : Int)) = true := decide_eq_true c3
    clear c3
    by_cases c4 : 0 ≤ x8_1
    ·rw [if_pos c4] at H
     have c4b0 : decide (0 ≤ x8_1) = true := decide_eq_true c4
     clear c4
     by_cases c5 : x8_1 < (l0.length : Int)
     ·rw [if_pos c5] at H
      have c5b0 : decide (x8_1 < (l0.length : Int)) = true := decide_eq_true c5
      clear c5
      by_cases c6 : a1.toList = (rdOf ByteArray.empty l0 x8_1).toList
      ·rw [if_pos c6] at H
       have c6b0 : (a1.toList == (rdOf ByteArray.empty l0 x8_1).toList) = true := beq_iff_eq.mpr c6
       have c6b1 : (a1.toList != (rdOf ByteArray.empty l0 x8_1).toList) = false := bne_eq_false_iff_eq.mpr c6
       clear c6
       obtain rfl := Option.some.inj H
       have p665 : 0 ≤ (x8_1 : Int) := of_decide_eq_true AS
       have q665 : x8_1 < (l0.length : Int) := of_decide_eq_true AS
       obtain ⟨ad665, e665, hx665_0⟩ := Kd.at_string HR0.out x8_1 p665 q665
       cases e665
       replace p665 := eq_true p665
       replace q665 := eq_true q665
       go_wp2
       go_ret
       exact ⟨by first | rfl | (simp; done) | (simp [*]; done), DR⟩
      ·rw [if_neg c6] at H
       have c6b0 : (a1.toList == (rdOf ByteArray.empty l0 x8_1).toList) = false := beq_eq_false_iff_ne.mpr c6
       have c6b1 : (a1.toList != (rdOf ByteArray.empty l0 x8_1).toList) = true := bne_iff_ne.mpr c6
       have H' := Aside0.mk H
       clear H
       have p665 : 0 ≤ (x8_1 : Int) := of_decide_eq_true AS
       have q665 : x8_1 < (l0.length : Int) := of_decide_eq_true AS
       obtain ⟨ad665, e665, hx665_0⟩ := Kd.at_string HR0.out x8_1 p665 q665
       cases e665
       replace p665 := eq_true p665
       replace q665 := eq_true q665
       go_wp2
       go_roundg k1
       case measure => have := HK1.out; omega
       case rel => exact ⟨(wrap64 (x8_1 + 1)), RS, H', ⟨by have := HK1.out; omega⟩, DR⟩
     ·rw [if_neg c5] at H
      exact absurd H (by simp)
    ·rw [if_neg c4] at H
     exact absurd H (by simp)
   ·rw [if_neg c3] at H
    have c3b0 : decide (x8_1 < (l0.length : Int)) = false := decide_eq_false c3
    clear c3
    obtain rfl := Option.some.inj H
    go_wp2
    go_ret
    exact ⟨by first | rfl | (simp; done) | (simp [*]; done), DR⟩
def slices_Contains_string_string.f (k : Nat) (l0 : List ByteArray) (a1 : ByteArray) : Option (Bool) := (slices_Index_string_string.f k l0 a1).bind fun t667 => (some (decide (t667 ≥ 0)))
theorem slices_Contains_string_string.mono : ∀ a0 a1 k, LeO (slices_Contains_string_string.f k a0 a1) (slices_Contains_string_string.f (k + 1) a0 a1) := by
 intro a0 a1 k
 unfold slices_Contains_string_string.f
 repeat' first | (with_reducible first | exact slices_Index_string_string.mono _ _ _ | exact LeO.refl _ | exact LeO.none _ | refine LeO.ite ?_ ?_ | refine LeO.bind ?_ (fun _ => ?_)) | exact LeO.none _ | refine LeO.ite ?_ ?_ | refine LeO.bind ?_ (fun _ => ?_)
set_option maxHeartbeats 8000000 in
set_option maxRecDepth 100000 in
theorem slices_Contains_string_string.calls (k : Nat) (A0 : Option Addr) (c0 : Nat) (l0 : List ByteArray) (a1 : ByteArray) (r : Bool) (w : World) (hr0 : Kd.C Kd.string w A0 l0.length l0) (hc0 : l0.length ≤ c0) (h : slices_Contains_string_string.f k l0 a1 = some r) :
  Calls Try.prog 47 #[.slice A0 l0.length c0, .string a1] w fun e w' => e = .returned (.bool r) ∧ Drawn0 w w' := by
 have HR0 := Aside0.mk hr0
 have HC0 := Aside0.mk hc0
 clear hr0 hc0
 have H : ((slices_Index_string_string.f k l0 a1).bind fun t667 => (some (decide (t667 ≥ 0)))) = some r := h
 clear h
 replace H := BS H
 obtain ⟨t667, A30, H⟩ := H
 have A3 := Aside0.mk A30
 clear A30
 obtain rfl := Option.some.inj H
 go_enter Try.func47, Try.ntmps47
 go_wp2_with (first | ((with_reducible refine gate_callee (f := 65) rfl ?_); refine goesL_ (some 7) rfl rfl Try.func65 (by kernel_rfl) rfl #[.slice A0 l0.length c0, .string a1] rfl AQ ?_; (with_reducible refine (slices_Index_string_string.calls k _ _ l0 a1 t667 _ ?side1 ?side2 A3.out).mono ?_); (case side1 => repeat (first | exact HR0.out | (with_reducible refine Kd.C_alloc ?_ _) | (with_reducible refine Kd.C_drewN ?_ _) | (with_reducible refine Kd.C_drew ?_))); (case side2 => exact HC0.out); rintro e w' ⟨rfl, ⟨nd, rfl⟩⟩; refine ⟨_, rfl, ?_⟩))
 go_ret
 exact ⟨by first | rfl | (simp; done) | (simp [*]; done), DR⟩
end Go.Proofs.Ytlokjgngjgbpmaa.G

namespace Go.Proofs.Ytlokjgngjgbpmaa.G
open Go.RowKit Go.Proofs.YtlokjgngjgbpmaaW.PrintWords Go.Proofs.YtlokjgngjgbpmaaW.PrintLast Go.Proofs.YtlokjgngjgbpmaaW.PrintMore Go.Proofs.Ytlokjgngjgbpmaa.Sh
attribute [local go_sem] max2_int min2_int max_two min_two max_three min_three max_four min_four
set_option linter.unusedVariables false
set_option linter.unusedSimpArgs false
open Go.Proofs.Ytlokjgngjgbpmaa.Mm
def impl_NextAsk.l0 : Nat → List ByteArray → ByteArray → Int → Option (Int)
 | 0, _, _, _ => none
 | k + 1, x0, x1, x7 => if x7 < (x0.length : Int) then (if 0 ≤ x7 then (if (rdOf ByteArray.empty x0 x7).toList = x1.toList then (some x7) else (impl_NextAsk.l0 k x0 x1 (wrap64 (x7 + 1)))) else (none)) else (some (x0.length : Int))
def impl_NextAsk.f (k : Nat) (l0 : List ByteArray) (a1 : ByteArray) (a2 : Int) : Option (Int) := impl_NextAsk.l0 k l0 a1 (mx 0 a2)
set_option maxHeartbeats 8000000 in
set_option maxRecDepth 100000 in
theorem impl_NextAsk.calls (k : Nat) (A0 : Option Addr) (c0 : Nat) (l0 : List ByteArray) (a1 : ByteArray) (a2 : Int) (r : Int) (w : World) (hr0 : Kd.C Kd.string w A0 l0.length l0) (hc0 : l0.length ≤ c0) (h : impl_NextAsk.f k l0 a1 a2 = some r) :
  Calls Try.prog 66 #[.slice A0 l0.length c0, .string a1, .int .i64 a2] w fun e w' => e = .returned (.int .i64 r) ∧ Mem w [] w' [] := by
 have HR0 := Aside0.mk hr0
 have HC0 := Aside0.mk hc0
 clear hr0 hc0
 have HM := Mem.nil w
 have H := h
 clear h
 unfold impl_NextAsk.f at H
 go_enter Try.func66, Try.ntmps66
 obtain ⟨ji4, hji4⟩ : ∃ j_ : Int, (mx 0 a2) = j_ := ⟨_, rfl⟩
 (first | rw [hji4] at H | simp only [hji4] at H | skip)
 have hji4_ : (if 0 < a2 then a2 else 0) = ji4 := hji4
 (try (have hji4l : 0 ≤ ji4 := by (rw [← hji4]; unfold mx; (repeat' split) <;> omega)))
 have H' := Aside0.mk H
 clear H
 go_wp2
 go_loopg [7] k (fun kq v7 w' => ∃ (x7_1 : Int), v7 = .int .i64 x7_1 ∧ Aside0 (impl_NextAsk.l0 kq l0 a1 x7_1 = some r) ∧ Aside0 (kq ≤ k) ∧ Mem w [] w' [])
 case atStart => exact ⟨(ji4), RS, H', ⟨Nat.le_refl _⟩, (MD HM).pick []⟩
 case round =>
  clear H' HM
  obtain ⟨x7_1, rfl, HA, HK1, HM⟩ := hrel
  cases gk with
  | zero => exact absurd HA.out (by simp [impl_NextAsk.l0])
  | succ k1 =>
   have H := HA.out
   clear HA
   simp only [impl_NextAsk.l0] at H
   go_upto_if 13 with (fail)
   replace H := IT H; rcases H with ⟨c5, H⟩ | ⟨c5, H⟩
   ·have c5b0 : decide (x7_1 < (l0.length : Int)) = true := decide_eq_true c5
    clear c5
    (first | rw [c5b0] | (simp only [i64_w, i32_w]; rw [c5b0]) | skip)
    replace H := GD H; obtain ⟨c6, H⟩ := H
    have c6b0 : decide (0 ≤ x7_1) = true := decide_eq_true c6
    clear c6
    have p668 : 0 ≤ (x7_1 : Int) := of_decide_eq_true AS
    have q668 : (x7_1 : Int) < (l0.length : Int) := of_decide_eq_true AS
    obtain ⟨ad668, e668, hx668_0⟩ := Kd.at_string (HM.came HR0.out) x7_1 p668 q668
    cases e668
    replace p668 := eq_true p668
    replace q668 := eq_true q668
    go_upto_if 21 with (fail)
    replace H := IT H; rcases H with ⟨c7, H⟩ | ⟨c7, H⟩
    ·have c7b0 : ((rdOf ByteArray.empty l0 x7_1).toList == a1.toList) = true := beq_iff_eq.mpr c7
     have c7b1 : ((rdOf ByteArray.empty l0 x7_1).toList != a1.toList) = false := bne_eq_false_iff_eq.mpr c7
     clear c7
     (first | rw [c7b0] | (simp only [i64_w, i32_w]; rw [c7b0]) | skip)
     obtain rfl := Option.some.inj H
     go_wp2
     go_ret
     exact ⟨ER, (MD HM).pick []⟩
    ·have c7b0 : ((rdOf ByteArray.empty l0 x7_1).toList == a1.toList) = false := beq_eq_false_iff_ne.mpr c7
     have c7b1 : ((rdOf ByteArray.empty l0 x7_1).toList != a1.toList) = true := bne_iff_ne.mpr c7
     (first | rw [c7b0] | (simp only [i64_w, i32_w]; rw [c7b0]) | skip)
     have H' := Aside0.mk H
     clear H
     go_wp2
     go_roundg k1
     case measure => have := HK1.out; omega
     case rel => exact ⟨(wrap64 (x7_1 + 1)), RS, H', ⟨by have := HK1.out; omega⟩, (MD HM).pick []⟩
   ·have c5b0 : decide (x7_1 < (l0.length : Int)) = false := decide_eq_false c5
    clear c5
    (first | rw [c5b0] | (simp only [i64_w, i32_w]; rw [c5b0]) | skip)
    obtain rfl := Option.some.inj H
    go_wp2
    go_ret
    exact ⟨ER, (MD HM).pick []⟩
def impl_BestGo.l0 : Nat → List ByteArray → Int → Int → Int → List ByteArray → Int → Int → Option (Int)
 | 0, _, _, _, _, _, _, _ => none
 | k + 1, x0, x2, x7, x8, x12, x13, x14 => if x14 < x13 then (if 0 ≤ x14 then (if x14 < (x12.length : Int) then ((impl_NextAsk.f k x0 (rdOf ByteArray.empty x12 x14) x2).bind fun t670 => (if t670 > x8 then (impl_BestGo.l0 k x0 x2 x14 t670 x12 x13 (wrap64 (x14 + 1))) else (impl_BestGo.l0 k x0 x2 x7 x8 x12 x13 (wrap64 (x14 + 1))))) else (none)) else (none)) else (some x7)
def impl_BestGo.f (k : Nat) (l0 : List ByteArray) (l1 : List ByteArray) (a2 : Int) : Option (Int) := impl_BestGo.l0 k l0 a2 (-1) (-1) l1 (l1.length : Int) 0
set_option maxHeartbeats 8000000 in
set_option maxRecDepth 100000 in
theorem impl_BestGo.calls (k : Nat) (A0 : Option Addr) (c0 : Nat) (l0 : List ByteArray) (A1 : Option Addr) (c1 : Nat) (l1 : List ByteArray) (a2 : Int) (r : Int) (w : World) (hr0 : Kd.C Kd.string w A0 l0.length l0) (hc0 : l0.length ≤ c0) (hr1 : Kd.C Kd.string w A1 l1.length l1) (hc1 : l1.length ≤ c1) (h : impl_BestGo.f k l0 l1 a2 = some r) :
  Calls Try.prog 48 #[.slice A0 l0.length c0, .slice A1 l1.length c1, .int .i64 a2] w fun e w' => e = .returned (.int .i64 r) ∧ Mem w [] w' [] := by
 have HR0 := Aside0.mk hr0
 have HC0 := Aside0.mk hc0
 clear hr0 hc0
 have HR1 := Aside0.mk hr1
 have HC1 := Aside0.mk hc1
 clear hr1 hc1
 have HM := Mem.nil w
 have H := h
 clear h
 unfold impl_BestGo.f at H
 go_enter Try.func48, Try.ntmps48
 have H' := Aside0.mk H
 clear H
 go_wp2
 go_loopg [7, 8, 14] k (fun kq v7 v8 v14 w' => ∃ (x7_1 : Int) (x8_1 : Int) (x14_1 : Int), v7 = .int .i64 x7_1 ∧ v8 = .int .i64 x8_1 ∧ v14 = .int .i64 x14_1 ∧ Aside0 (impl_BestGo.l0 kq l0 a2 x7_1 x8_1 l1 (l1.length : Int) x14_1 = some r) ∧ Aside0 (kq ≤ k) ∧ Mem w [] w' [])
 case atStart => exact ⟨((-1)), ((-1)), (0), RS, RS, RS, H', ⟨Nat.le_refl _⟩, (MD HM).pick []⟩
 case round =>
  clear H' HM
  obtain ⟨x7_1, x8_1, x14_1, rfl, rfl, rfl, HA, HK1, HM⟩ := hrel
  cases gk with
  | zero => exact absurd HA.out (by simp [impl_BestGo.l0])
  | succ k1 =>
   have H := HA.out
   clear HA
   simp only [impl_BestGo.l0] at H
   go_upto_if 15 with (fail)
   replace H := IT H; rcases H with ⟨c4, H⟩ | ⟨c4, H⟩
   ·have c4b0 : decide (x14_1 < (l1.length : Int)) = true := decide_eq_true c4
    clear c4
    (first | rw [c4b0] | (simp only [i64_w, i32_w]; rw [c4b0]) | skip)
    replace H := GD H; obtain ⟨c5, H⟩ := H
    have c5b0 : decide (0 ≤ x14_1) = true := decide_eq_true c5
    clear c5
    replace H := GD H; obtain ⟨c6, H⟩ := H
    have c6b0 : decide (x14_1 < (l1.length : Int)) = true := decide_eq_true c6
    clear c6
    replace H := BN H; obtain ⟨t670, A7, H⟩ := H
    have p669 : 0 ≤ (x14_1 : Int) := of_decide_eq_true AS
    have q669 : (x14_1 : Int) < (l1.length : Int) := of_decide_eq_true AS
    obtain ⟨ad669, e669, hx669_0⟩ := Kd.at_string (HM.came HR1.out) x14_1 p669 q669
    cases e669
    replace p669 := eq_true p669
    replace q669 := eq_true q669
    go_upto_if 25 with (first | ((with_reducible refine gC 66 rfl ?_); refine pC (some 22) rfl #[.slice A0 l0.length c0, .string (rdOf ByteArray.empty l1 x14_1), .int .i64 a2] rfl Try.func66 (impl_NextAsk.calls k1 _ _ l0 (rdOf ByteArray.empty l1 x14_1) a2 t670 _ (HM.came HR0.out) HC0.out A7.out) ?_; rintro e w8 ⟨rfl, hR⟩; refine ⟨_, rfl, ?_⟩; replace HM := HM.call hR; clear hR))
    replace H := IT H; rcases H with ⟨c9, H⟩ | ⟨c9, H⟩
    ·have c9b0 : decide (x8_1 < t670) = true := decide_eq_true c9
     clear c9
     (first | rw [c9b0] | (simp only [i64_w, i32_w]; rw [c9b0]) | skip)
     have H' := Aside0.mk H
     clear H
     go_wp2
     go_roundg k1
     case measure => have := HK1.out; omega
     case rel => exact ⟨(x14_1), (t670), (wrap64 (x14_1 + 1)), RS, RS, RS, H', ⟨by have := HK1.out; omega⟩, (MD HM).pick []⟩
    ·have c9b0 : decide (x8_1 < t670) = false := decide_eq_false c9
     clear c9
     (first | rw [c9b0] | (simp only [i64_w, i32_w]; rw [c9b0]) | skip)
     have H' := Aside0.mk H
     clear H
     go_wp2
     go_roundg k1
     case measure => have := HK1.out; omega
     case rel => exact ⟨(x7_1), (x8_1), (wrap64 (x14_1 + 1)), RS, RS, RS, H', ⟨by have := HK1.out; omega⟩, (MD HM).pick []⟩
   ·have c4b0 : decide (x14_1 < (l1.length : Int)) = false := decide_eq_false c4
    clear c4
    (first | rw [c4b0] | (simp only [i64_w, i32_w]; rw [c4b0]) | skip)
    obtain rfl := Option.some.inj H
    go_wp2
    go_ret
    exact ⟨ER, (MD HM).pick []⟩
end Go.Proofs.Ytlokjgngjgbpmaa.G

namespace Go.Proofs.Ytlokjgngjgbpmaa.G
open Go.RowKit Go.Proofs.YtlokjgngjgbpmaaW.PrintWords Go.Proofs.YtlokjgngjgbpmaaW.PrintLast Go.Proofs.YtlokjgngjgbpmaaW.PrintMore Go.Proofs.Ytlokjgngjgbpmaa.Sh
attribute [local go_sem] max2_int min2_int max_two min_two max_three min_three max_four min_four
set_option linter.unusedVariables false
set_option linter.unusedSimpArgs false
open Go.Proofs.Ytlokjgngjgbpmaa.Man
def slices_Delete_string_string.f (l0 : List ByteArray) (a1 : Int) (a2 : Int) : Option (List ByteArray) := if 0 ≤ a1 ∧ a1 < (l0.length : Int) ∧ a2 = a1 + 1 then some (l0.eraseIdx a1.toNat) else none
set_option maxHeartbeats 4000000 in
set_option maxRecDepth 100000 in
theorem slices_Delete_string_string.calls (P0_ : Nat → Prop) (u9000_ : Value) (l0 : List ByteArray) (a1 : Int) (a2 : Int) (r : List ByteArray) (w0 w : World) (hB : Below w0.heap.size w0 w) (ho0 : Kd.R Kd.string 9 w w0.heap.size P0_ u9000_ l0) (h : slices_Delete_string_string.f l0 a1 a2 = some r) :
  Calls Try.prog 49 #[u9000_, .int .i64 a1, .int .i64 a2] w fun e w' => ∃ v0_ : Value, e = .returned v0_ ∧ Kd.R Kd.string 9 w' w0.heap.size (fun k_ => (P0_ k_ ∨ w.heap.size ≤ k_)) v0_ r ∧ Below w0.heap.size w0 w' ∧ Kept w w' (fun k_ => P0_ k_) := by
 unfold slices_Delete_string_string.f at h
 by_cases c : 0 ≤ a1 ∧ a1 < (l0.length : Int) ∧ a2 = a1 + 1
 ·rw [if_pos c] at h
  obtain rfl := Option.some.inj h
  obtain ⟨c0, c1, rfl⟩ := c
  clear h
  obtain ⟨n, rfl⟩ := Int.eq_ofNat_of_zero_le c0
  have hn : n < l0.length := by omega
  obtain ⟨g, cap, rfl, gb, gl, cl, HG⟩ := Kd.R_form ho0 (by omega)
  obtain ⟨_, hlc, hC⟩ := Kd.R_reads' ho0
  have hL : l0.length ≤ 9223372036854775807 := hC.2.1
  clear hC
  have e1 : IntKind.i64.wrap ((n : Int) + 1) = (n : Int) + 1 := by exact (i64_w _).trans (by unfold wrap64; omega)
  have HO := Aside0.mk ho0
  have HBW := Aside0.mk hB
  have HGB := Aside0.mk gb
  have HGL := Aside0.mk gl
  have HN := Aside0.mk hn
  have b1 : (n : Int) + 1 ≤ (l0.length : Int) := by omega
  have b2 : (l0.length : Int) ≤ (cap : Int) := by omega
  have b3 : (n : Int) ≤ (l0.length : Int) := by omega
  have b4 : (n : Int) ≤ (cap : Int) := by omega
  have b5 : (n : Int) + 1 ≤ (cap : Int) := by omega
  have b6 : (n : Int) ≤ (n : Int) + 1 := by omega
  have b7 : (0 : Int) ≤ (n : Int) + 1 := by omega
  have e2 : ((n : Int) == (n : Int) + 1) = false := by rw [beq_eq_false_iff_ne]; omega
  by_cases hcn : cap = n + 1
  ·subst hcn
   have HS := Aside0.mk (show w0.heap.size ≤ w.drew.heap.size from hB.size)
   clear hn ho0 hB gb gl HG hL hlc c1 e1
   go_enter Try.func49, Try.ntmps49
   go_wp2
   go_region_law (refine Kd.R_delete_step Kd.string (w0 := w0) w0.heap.size rfl (.tmp 22) (.tmp 25) 23 9 rfl Try.underlying23 (by kernel_rfl) (by rfl) (by rfl) ((if_pos rfl).symm) (by rfl) (Kd.R_drew HO.out) HN.out (below_drew1 HBW.out) HS.out ?_; intro w1 hr hb hg)
   have HR := Aside0.mk hr
   have HB2 := Aside0.mk hb
   have HG2 := Aside0.mk hg
   clear hr hb hg
   obtain ⟨w2, hrun, hr2, hg2⟩ := R_clear_run (P := Try.prog) Kd.string w0.heap.size 23 0 9 (.string ⟨#[]⟩) Try.underlying23 Try.zeroValue9 rfl (by decide) HR.out (m := l0.length - (l0.length - 1)) (by have := HN.out; omega) (by have := HN.out; omega) ((n + 1) - (l0.length - 1))
   have HR2 := Aside0.mk hr2
   have HG3 := Aside0.mk hg2
   clear hr2 hg2
   (try rw [show (l0.length - 1) * Kd.sz Kd.string = l0.length - 1 from Nat.mul_one _] at hrun)
   change Sem.run _ (Builtin.clear_ #[23] 0 #[.slice (some ⟨g, (l0.length - 1), none⟩) (l0.length - (l0.length - 1)) ((n + 1) - (l0.length - 1))]) w1 = _ at hrun
   go_wp2
   go_ret
   have hgw : w.grownBy w2 (some g) := World.grownBy.trans (World.grownBy.trans (show w.grownBy w.drew (some g) from ⟨rfl, rfl, rfl, Nat.le_refl _, fun _ _ _ => rfl⟩) HG2.out) HG3.out
   refine ⟨_, rfl, Kd.R_mono HR2.out (fun _ h => Or.inl h), HB2.out.grown HG3.out ?_ (fun k hk => by injection hk with hk; subst hk; exact HGB.out), Kept.of_grown hgw (Kept.refl _ _) (fun k hk => by injection hk with hk; subst hk; exact .inl (HO.out.1 _ rfl))⟩
   exact HB2.out.size
  ·have hcn' : (cap == n + 1) = false := by rw [beq_eq_false_iff_ne]; exact hcn
   have HA := Aside0.mk (show some ⟨g, (n + 1), none⟩ = (if cap = n + 1 then some (⟨g, 0, none⟩ : Addr) else (some (⟨g, 0, none⟩ : Addr)).map (·.add ((n + 1) * Kd.string.sz))) from by rw [if_neg hcn, Option.map_some, add_plain]; first | rfl | rw [show (n + 1) * Kd.sz _ = n + 1 from Nat.mul_one _])
   have HS := Aside0.mk (show w0.heap.size ≤ w.drew.heap.size from hB.size)
   clear hn ho0 hB gb gl HG hL hlc c1 e1
   go_enter Try.func49, Try.ntmps49
   go_wp2
   go_region_law (refine Kd.R_delete_step Kd.string (w0 := w0) w0.heap.size rfl (.tmp 22) (.tmp 25) 23 9 rfl Try.underlying23 (by kernel_rfl) (by rfl) (by rfl) HA.out (by rfl) (Kd.R_drew HO.out) HN.out (below_drew1 HBW.out) HS.out ?_; intro w1 hr hb hg)
   have HR := Aside0.mk hr
   have HB2 := Aside0.mk hb
   have HG2 := Aside0.mk hg
   clear hr hb hg
   obtain ⟨w2, hrun, hr2, hg2⟩ := R_clear_run (P := Try.prog) Kd.string w0.heap.size 23 0 9 (.string ⟨#[]⟩) Try.underlying23 Try.zeroValue9 rfl (by decide) HR.out (m := l0.length - (l0.length - 1)) (by have := HN.out; omega) (by have := HN.out; omega) (cap - (l0.length - 1))
   have HR2 := Aside0.mk hr2
   have HG3 := Aside0.mk hg2
   clear hr2 hg2
   (try rw [show (l0.length - 1) * Kd.sz Kd.string = l0.length - 1 from Nat.mul_one _] at hrun)
   change Sem.run _ (Builtin.clear_ #[23] 0 #[.slice (some ⟨g, (l0.length - 1), none⟩) (l0.length - (l0.length - 1)) (cap - (l0.length - 1))]) w1 = _ at hrun
   go_wp2
   go_ret
   have hgw : w.grownBy w2 (some g) := World.grownBy.trans (World.grownBy.trans (show w.grownBy w.drew (some g) from ⟨rfl, rfl, rfl, Nat.le_refl _, fun _ _ _ => rfl⟩) HG2.out) HG3.out
   refine ⟨_, rfl, Kd.R_mono HR2.out (fun _ h => Or.inl h), HB2.out.grown HG3.out ?_ (fun k hk => by injection hk with hk; subst hk; exact HGB.out), Kept.of_grown hgw (Kept.refl _ _) (fun k hk => by injection hk with hk; subst hk; exact .inl (HO.out.1 _ rfl))⟩
   exact HB2.out.size
 ·rw [if_neg c] at h; cases h
end Go.Proofs.Ytlokjgngjgbpmaa.G

namespace Go.Proofs.Ytlokjgngjgbpmaa.G
open Go.RowKit Go.Proofs.YtlokjgngjgbpmaaW.PrintWords Go.Proofs.YtlokjgngjgbpmaaW.PrintLast Go.Proofs.YtlokjgngjgbpmaaW.PrintMore Go.Proofs.Ytlokjgngjgbpmaa.Sh
attribute [local go_sem] max2_int min2_int max_two min_two max_three min_three max_four min_four
set_option linter.unusedVariables false
set_option linter.unusedSimpArgs false
open Go.Proofs.Ytlokjgngjgbpmaa.Mm
mutual
def impl_BestHits.j0 : Nat → List ByteArray → Int → Bool → Option (List Bool)
 | 0, _, _, _ => none
 | k + 1, x0, x1, x18 => if x18 = true then (some ([] : List Bool)) else (impl_BestHits.l0 k x0 x1 (([] : List Bool)) (([] : List ByteArray)) x0 (x0.length : Int) 0)
def impl_BestHits.l0 : Nat → List ByteArray → Int → List Bool → List ByteArray → List ByteArray → Int → Int → Option (List Bool)
 | 0, _, _, _, _, _, _, _ => none
 | k + 1, x0, x1, x5, x6, x21, x22, x23 => if x23 < x22 then (if 0 ≤ x23 then (if x23 < (x21.length : Int) then ((slices_Contains_string_string.f k x6 (rdOf ByteArray.empty x21 x23)).bind fun t680 => (if x5.length < 140737488355328 then ((some (x5 ++ [t680] : List Bool)).bind fun y681 => (if t680 = true then (impl_BestHits.l0 k x0 x1 y681 x6 x21 x22 (wrap64 (x23 + 1))) else (if (x6.length : Int) = x1 then ((impl_BestGo.f k x0 x6 (wrap64 (x23 + 1))).bind fun t684 => ((slices_Delete_string_string.f x6 t684 (wrap64 (t684 + 1))).bind fun t685 => (if t685.length < 8796093022208 then (impl_BestHits.l0 k x0 x1 y681 (t685 ++ [rdOf ByteArray.empty x21 x23]) x21 x22 (wrap64 (x23 + 1))) else (none)))) else (if x6.length < 8796093022208 then (impl_BestHits.l0 k x0 x1 y681 (x6 ++ [rdOf ByteArray.empty x21 x23]) x21 x22 (wrap64 (x23 + 1))) else (none))))) else (none))) else (none)) else (none)) else (some x5)
end
def impl_BestHits.f (k : Nat) (l0 : List ByteArray) (a1 : Int) : Option (List Bool) := (impl_AsksOk.f k l0).bind fun t671 => (if t671 = true then ((impl_within.f a1 1 60).bind fun t672 => (impl_BestHits.j0 k l0 a1 (!t672))) else (impl_BestHits.j0 k l0 a1 true))
set_option maxHeartbeats 8000000 in
set_option maxRecDepth 100000 in
theorem impl_BestHits.calls (k : Nat) (A0 : Option Addr) (c0 : Nat) (l0 : List ByteArray) (a1 : Int) (r : List Bool) (w : World) (hr0 : Kd.C Kd.string w A0 l0.length l0) (hc0 : l0.length ≤ c0) (h : impl_BestHits.f k l0 a1 = some r) :
  Calls Try.prog 33 #[.slice A0 l0.length c0, .int .i64 a1] w fun e w' => ∃ v0_ : Value, e = .returned (v0_) ∧ Mem w [] w' [rowR Kd.bool 4 v0_ r] := by
 have HR0 := Aside0.mk hr0
 have HC0 := Aside0.mk hc0
 clear hr0 hc0
 have HM := Mem.nil w
 have H := h
 clear h
 unfold impl_BestHits.f at H
 go_enter Try.func33, Try.ntmps33
 have HC3 := Aside0.mk H
 clear H
 go_upto_region 1 with (fail)
 go_cut [18] (fun v18 wc => ∃ (kq : Nat) (x18_2 : Bool), v18 = .bool x18_2 ∧ Aside0 (impl_BestHits.j0 kq l0 a1 x18_2 = some r) ∧ Aside0 (kq ≤ k) ∧ Mem w [] wc [])
 case first =>
  have H := HC3.out
  clear HC3
  replace H := BN H; obtain ⟨t671, A4, H⟩ := H
  replace H := IB H
  rcases H with ⟨c6, H⟩ | ⟨c6, H⟩
  ·subst c6
   replace H := BN H; obtain ⟨t672, A7, H⟩ := H
   have H' := Aside0.mk H
   clear H
   go_wp2_with (first | ((with_reducible refine gC 27 rfl ?_); refine pC (some 12) rfl #[.slice A0 l0.length c0] rfl Try.func27 (impl_AsksOk.calls k _ _ l0 true _ (HM.came HR0.out) HC0.out A4.out) ?_; rintro e w5 ⟨rfl, hR⟩; refine ⟨_, rfl, ?_⟩; replace HM := HM.call hR; clear hR) | ((with_reducible refine gC 28 rfl ?_); refine pC (some 16) rfl #[.int .i64 a1, .int .i64 1, .int .i64 60] rfl Try.func28 (impl_within.calls a1 1 60 t672 _ A7.out) ?_; rintro e w8 ⟨rfl, hd⟩; refine ⟨_, rfl, ?_⟩; replace HM := HM.drawn hd; clear hd))
   go_meet
   case rel => exact ⟨_, (!t672), RS, H', ⟨by first | omega | exact Nat.le_refl _⟩, (MD HM).pick []⟩
  ·subst c6
   have H' := Aside0.mk H
   clear H
   go_wp2_with (first | ((with_reducible refine gC 27 rfl ?_); refine pC (some 12) rfl #[.slice A0 l0.length c0] rfl Try.func27 (impl_AsksOk.calls k _ _ l0 false _ (HM.came HR0.out) HC0.out A4.out) ?_; rintro e w5 ⟨rfl, hR⟩; refine ⟨_, rfl, ?_⟩; replace HM := HM.call hR; clear hR))
   go_meet
   case rel => exact ⟨_, (true), RS, H', ⟨by first | omega | exact Nat.le_refl _⟩, (MD HM).pick []⟩
 case rest =>
  clear HC3 HM
  obtain ⟨kq, x18_2, rfl, HA, HJ2, HM⟩ := hcut
  cases kq with
  | zero => exact absurd HA.out (by simp [impl_BestHits.j0])
  | succ kj2 =>
   have H := HA.out
   clear HA
   simp only [impl_BestHits.j0] at H
   go_upto_if 18 with (fail)
   replace H := IB H
   rcases H with ⟨c9, H⟩ | ⟨c9, H⟩
   ·subst c9
    obtain rfl := Option.some.inj H
    replace HM := HM.nl Kd.bool 4
    go_wp2
    go_ret
    exact ⟨_, ER, (MD HM).pick [0]⟩
   ·subst c9
    have H' := Aside0.mk H
    clear H
    go_wp2_with (first | ((with_reducible refine gN 19 rfl ?_); refine pL 19 Kd.bool 4 ([] : List Bool) [] (Reps.none _ _) HM rfl ?_; clear HM; intro v674 w10 HM) | ((with_reducible refine gN 20 rfl ?_); refine pL 20 Kd.string 9 ([] : List ByteArray) [] (Reps.none _ _) HM rfl ?_; clear HM; intro v677 w11 HM))
    go_loopg [5, 6, 23] kj2 (fun kq v5 v6 v23 w' => ∃ (x5_2 : List Bool) (x6_2 : List ByteArray) (x23_2 : Int), v23 = .int .i64 x23_2 ∧ Aside0 (impl_BestHits.l0 kq l0 a1 x5_2 x6_2 l0 (l0.length : Int) x23_2 = some r) ∧ Aside0 (kq ≤ kj2) ∧ Mem w [] w' [rowR Kd.bool 4 v5 x5_2, rowR Kd.string 9 v6 x6_2])
    case atStart => exact ⟨((([] : List Bool))), ((([] : List ByteArray))), (0), RS, H', ⟨Nat.le_refl _⟩, (MD HM).pick [0, 1]⟩
    case round =>
     clear H' HM
     obtain ⟨x5_2, x6_2, x23_2, rfl, HA, HK2, HM⟩ := hrel
     cases gk with
     | zero => exact absurd HA.out (by simp [impl_BestHits.l0])
     | succ k2 =>
      have H := HA.out
      clear HA
      simp only [impl_BestHits.l0] at H
      go_upto_if 24 with (fail)
      replace H := IT H; rcases H with ⟨c12, H⟩ | ⟨c12, H⟩
      ·have c12b0 : decide (x23_2 < (l0.length : Int)) = true := decide_eq_true c12
       clear c12
       (first | rw [c12b0] | (simp only [i64_w, i32_w]; rw [c12b0]) | skip)
       replace H := GD H; obtain ⟨c13, H⟩ := H
       have c13b0 : decide (0 ≤ x23_2) = true := decide_eq_true c13
       clear c13
       replace H := GD H; obtain ⟨c14, H⟩ := H
       have c14b0 : decide (x23_2 < (l0.length : Int)) = true := decide_eq_true c14
       clear c14
       replace H := BN H; obtain ⟨t680, A15, H⟩ := H
       replace H := GD H; obtain ⟨c18, H⟩ := H
       have LMc18 := Aside0.mk c18
       clear c18
       replace H := BLt H; obtain ⟨y681, Ny681, H⟩ := H
       replace Ny681 := Aside0.mk Ny681
       have p679 : 0 ≤ (x23_2 : Int) := of_decide_eq_true AS
       have q679 : (x23_2 : Int) < (l0.length : Int) := of_decide_eq_true AS
       obtain ⟨ad679, e679, hx679_0⟩ := Kd.at_string (HM.came HR0.out) x23_2 p679 q679
       cases e679
       replace p679 := eq_true p679
       replace q679 := eq_true q679
       obtain ⟨Xo17, ko17, eo17⟩ := HM.rdR 1 rfl
       subst eo17
       go_upto_if 35 with (first | ((with_reducible refine gC 47 rfl ?_); refine pC (some 30) rfl #[.slice Xo17 x6_2.length ko17, .string (rdOf ByteArray.empty l0 x23_2)] rfl Try.func47 (slices_Contains_string_string.calls k2 _ _ x6_2 (rdOf ByteArray.empty l0 x23_2) t680 _ (HM.CR 1 rfl).2.2 (HM.CR 1 rfl).2.1 A15.out) ?_; rintro e w16 ⟨rfl, hd⟩; refine ⟨_, rfl, ?_⟩; replace HM := HM.drawn hd; clear hd) | ((with_reducible refine gN 33 rfl ?_); refine pL 33 Kd.bool 4 [t680] [.bool t680] (Reps.one (show Kd.M Kd.bool _ _ _ t680 [.bool t680] from rfl) (Reps.none _ _)) HM rfl ?_; clear HM; intro v20 w19 HM; obtain ⟨Xv20, kv20, ev20⟩ := HM.rdR 2 rfl; subst ev20) | ((with_reducible refine gate_builtin (b := .append) (xs := #[.tmp 31, .tmp 33]) rfl ?_); refine pA 0 (.tmp 31) (.tmp 33) 57 4 Kd.bool u5 x5_2 [t680] Xv20 ([t680].length) kv20 HM rfl Try.underlying57 info4 rfl (HM.CR 2 rfl).2.2 (by have h_ := LMc18.out; simp only [List.length_singleton]; omega) ?_; clear HM; intro v682 w21 HM; replace HM := HM.nm 0 rfl Ny681.out))
       replace H := IB H
       rcases H with ⟨c22, H⟩ | ⟨c22, H⟩
       ·subst c22
        have H' := Aside0.mk H
        clear H
        go_wp2
        go_roundg k2
        case measure => have := HJ2.out; have := HK2.out; omega
        case rel => exact ⟨(y681), (x6_2), (wrap64 (x23_2 + 1)), RS, H', ⟨by have := HJ2.out; have := HK2.out; omega⟩, (MD HM).pick [0, 1]⟩
       ·subst c22
        go_upto_if 39 with (fail)
        replace H := IT H; rcases H with ⟨c23, H⟩ | ⟨c23, H⟩
        ·have c23b0 : ((x6_2.length : Int) == a1) = true := beq_iff_eq.mpr c23
         have c23b1 : ((x6_2.length : Int) != a1) = false := bne_eq_false_iff_eq.mpr c23
         clear c23
         (first | rw [c23b0] | (simp only [i64_w, i32_w]; rw [c23b0]) | skip)
         replace H := BN H; obtain ⟨t684, A24, H⟩ := H
         replace H := BN H; obtain ⟨t685, A26, H⟩ := H
         replace H := GD H; obtain ⟨c28, H⟩ := H
         have LMc28 := Aside0.mk c28
         clear c28
         have H' := Aside0.mk H
         clear H
         go_wp2_with (first | ((with_reducible refine gC 48 rfl ?_); refine pC (some 44) rfl #[.slice (some ad679) l0.length c0, .slice Xo17 x6_2.length ko17, .int .i64 (wrap64 (x23_2 + 1))] rfl Try.func48 (impl_BestGo.calls k2 _ _ l0 _ _ x6_2 (wrap64 (x23_2 + 1)) t684 _ (HM.came HR0.out) HC0.out (HM.CR 1 rfl).2.2 (HM.CR 1 rfl).2.1 A24.out) ?_; rintro e w25 ⟨rfl, hR⟩; refine ⟨_, rfl, ?_⟩; replace HM := HM.call hR; clear hR; obtain ⟨P_, hq_, fin_⟩ := HM.man1R 1 rfl) | ((with_reducible refine gC 49 rfl ?_); refine pC (some 49) rfl #[.slice Xo17 x6_2.length ko17, .int .i64 t684, .int .i64 (wrap64 (t684 + 1))] rfl Try.func49 (slices_Delete_string_string.calls P_ (.slice Xo17 x6_2.length ko17) x6_2 t684 (wrap64 (t684 + 1)) t685 (bare _) _ (bare_below _) hq_ A26.out) ?_; rintro e w27 ⟨v686, rfl, hQ_, hB_, hK_⟩; refine ⟨_, rfl, ?_⟩; replace HM := fin_ _ _ _ hQ_ hB_ hK_; clear hQ_ hB_ hK_ hq_ fin_ P_) | ((with_reducible refine gN 52 rfl ?_); refine pL 52 Kd.string 9 [rdOf ByteArray.empty l0 x23_2] [.string (rdOf ByteArray.empty l0 x23_2)] (Reps.one (show Kd.M Kd.string _ _ _ (rdOf ByteArray.empty l0 x23_2) [.string (rdOf ByteArray.empty l0 x23_2)] from rfl) (Reps.none _ _)) HM rfl ?_; clear HM; intro v30 w29 HM; obtain ⟨Xv30, kv30, ev30⟩ := HM.rdR 3 rfl; subst ev30) | ((with_reducible refine gate_builtin (b := .append) (xs := #[.tmp 50, .tmp 52]) rfl ?_); refine pA 1 (.tmp 50) (.tmp 52) 23 9 Kd.string v686 t685 [rdOf ByteArray.empty l0 x23_2] Xv30 ([rdOf ByteArray.empty l0 x23_2].length) kv30 HM rfl Try.underlying23 info9 rfl (HM.CR 3 rfl).2.2 (by have h_ := LMc28.out; simp only [List.length_singleton]; omega) ?_; clear HM; intro v689 w31 HM))
         go_roundg k2
         case measure => have := HJ2.out; have := HK2.out; omega
         case rel => exact ⟨(y681), ((t685 ++ [rdOf ByteArray.empty l0 x23_2])), (wrap64 (x23_2 + 1)), RS, H', ⟨by have := HJ2.out; have := HK2.out; omega⟩, (MD HM).pick [0, 1]⟩
        ·have c23b0 : ((x6_2.length : Int) == a1) = false := beq_eq_false_iff_ne.mpr c23
         have c23b1 : ((x6_2.length : Int) != a1) = true := bne_iff_ne.mpr c23
         (first | rw [c23b0] | (simp only [i64_w, i32_w]; rw [c23b0]) | skip)
         replace H := GD H; obtain ⟨c32, H⟩ := H
         have LMc32 := Aside0.mk c32
         clear c32
         have H' := Aside0.mk H
         clear H
         go_wp2_with (first | ((with_reducible refine gN 52 rfl ?_); refine pL 52 Kd.string 9 [rdOf ByteArray.empty l0 x23_2] [.string (rdOf ByteArray.empty l0 x23_2)] (Reps.one (show Kd.M Kd.string _ _ _ (rdOf ByteArray.empty l0 x23_2) [.string (rdOf ByteArray.empty l0 x23_2)] from rfl) (Reps.none _ _)) HM rfl ?_; clear HM; intro v34 w33 HM; obtain ⟨Xv34, kv34, ev34⟩ := HM.rdR 3 rfl; subst ev34) | ((with_reducible refine gate_builtin (b := .append) (xs := #[.tmp 50, .tmp 52]) rfl ?_); refine pA 1 (.tmp 50) (.tmp 52) 23 9 Kd.string (.slice Xo17 x6_2.length ko17) x6_2 [rdOf ByteArray.empty l0 x23_2] Xv34 ([rdOf ByteArray.empty l0 x23_2].length) kv34 HM rfl Try.underlying23 info9 rfl (HM.CR 3 rfl).2.2 (by have h_ := LMc32.out; simp only [List.length_singleton]; omega) ?_; clear HM; intro v692 w35 HM))
         go_roundg k2
         case measure => have := HJ2.out; have := HK2.out; omega
         case rel => exact ⟨(y681), ((x6_2 ++ [rdOf ByteArray.empty l0 x23_2])), (wrap64 (x23_2 + 1)), RS, H', ⟨by have := HJ2.out; have := HK2.out; omega⟩, (MD HM).pick [0, 1]⟩
      ·have c12b0 : decide (x23_2 < (l0.length : Int)) = false := decide_eq_false c12
       clear c12
       (first | rw [c12b0] | (simp only [i64_w, i32_w]; rw [c12b0]) | skip)
       obtain rfl := Option.some.inj H
       go_wp2
       go_ret
       exact ⟨_, ER, (MD HM).pick [0]⟩
def impl_BestMisses.f (k : Nat) (l0 : List ByteArray) (a1 : Int) : Option (Int) := (impl_BestHits.f k l0 a1).bind fun t695 => ((impl_hitsIn.f k t695).bind fun t698 => (some (wrap64 ((t695.length : Int) - t698))))
set_option maxHeartbeats 8000000 in
set_option maxRecDepth 100000 in
theorem impl_BestMisses.calls (k : Nat) (A0 : Option Addr) (c0 : Nat) (l0 : List ByteArray) (a1 : Int) (r : Int) (w : World) (hr0 : Kd.C Kd.string w A0 l0.length l0) (hc0 : l0.length ≤ c0) (h : impl_BestMisses.f k l0 a1 = some r) :
  Calls Try.prog 12 #[.slice A0 l0.length c0, .int .i64 a1] w fun e w' => e = .returned (.int .i64 r) ∧ Mem w [] w' [] := by
 have HR0 := Aside0.mk hr0
 have HC0 := Aside0.mk hc0
 clear hr0 hc0
 have HM := Mem.nil w
 have H := h
 clear h
 unfold impl_BestMisses.f at H
 go_enter Try.func12, Try.ntmps12
 replace H := BN H; obtain ⟨t695, A3, H⟩ := H
 replace H := BN H; obtain ⟨t698, A6, H⟩ := H
 obtain rfl := Option.some.inj H
 go_wp2_with (first | ((with_reducible refine gC 33 rfl ?_); refine pC (some 8) rfl #[.slice A0 l0.length c0, .int .i64 a1] rfl Try.func33 (impl_BestHits.calls k _ _ l0 a1 t695 _ (HM.came HR0.out) HC0.out A3.out) ?_; rintro e w4 ⟨v696, rfl, hR⟩; refine ⟨_, rfl, ?_⟩; replace HM := HM.call hR; clear hR; obtain ⟨Xo5, ko5, eo5⟩ := HM.rdR 0 rfl; subst eo5) | ((with_reducible refine gC 32 rfl ?_); refine pC (some 12) rfl #[.slice Xo5 t695.length ko5] rfl Try.func32 (impl_hitsIn.calls k _ _ t695 t698 _ (HM.CR 0 rfl).2.2 (HM.CR 0 rfl).2.1 A6.out) ?_; rintro e w7 ⟨rfl, hd⟩; refine ⟨_, rfl, ?_⟩; replace HM := HM.drawn hd; clear hd))
 go_ret
 exact ⟨ER, (MD HM).pick []⟩
mutual
def impl_Lab.j0 : Nat → List ByteArray → Int → List (S33) → Bool → Option ((List (S33)))
 | 0, _, _, _, _ => none
 | k + 1, x0, x1, x5, x17 => if x17 = true then (some x5) else ((impl_BestMisses.f k x0 x1).bind fun t704 => ((some (([(⟨1, x1, 0⟩ : S31), (⟨2, x1, 0⟩ : S31), (⟨3, x1, 0⟩ : S31), (⟨4, x1, mx 1 (wrap64 (Int.tdiv x1 10))⟩ : S31)] : List (S31)) : List (S31))).bind fun y705 => (impl_Lab.l0 k x0 x5 t704 y705 (y705.length : Int) 0)))
def impl_Lab.l0 : Nat → List ByteArray → List (S33) → Int → List (S31) → Int → Int → Option ((List (S33)))
 | 0, _, _, _, _, _, _ => none
 | k + 1, x0, x5, x6, x33, x34, x35 => if x35 < x34 then (if 0 ≤ x35 then (if x35 < (x33.length : Int) then ((impl_CountOf.f k ((rd_T31 x33 x35).f0) ((rd_T31 x33 x35).f1) ((rd_T31 x33 x35).f2) x0).bind fun bt710 => (if x5.length < 3518437208883 then (impl_Lab.l0 k x0 (x5 ++ [(⟨(⟨(rd_T31 x33 x35).f0, (rd_T31 x33 x35).f1, (rd_T31 x33 x35).f2⟩ : S31), bt710.2.2.1, x6⟩ : S33)]) x6 x33 x34 (wrap64 (x35 + 1))) else (none))) else (none)) else (none)) else (some x5)
end
def impl_Lab.f (k : Nat) (l0 : List ByteArray) (a1 : Int) : Option ((List (S33))) := (some (([] : List (S33)) : List (S33))).bind fun y699 => ((impl_AsksOk.f k l0).bind fun t702 => (if t702 = true then ((impl_within.f a1 1 60).bind fun t703 => (impl_Lab.j0 k l0 a1 y699 (!t703))) else (impl_Lab.j0 k l0 a1 y699 true)))
def impl_Lab.T8 : Bool × List (List Nat × List Nat) := (true, [([], []), ([], []), ([], []), ([], []), ([2, 3], [2, 3]), ([4], [4]), ([], []), ([1, 5, 6], [1, 5, 6]), ([7], [7]), ([0, 8, 4], [0, 8]), ([9, 9, 0, 1, 2, 3, 4, 5, 6, 7, 8, 9], [0, 9])])
def impl_Lab.B8 : List Nat := [0, 0, 0, 0, 12, 28, 0, 126, 254, 511, 1023]
theorem impl_Lab.tab8 : rtab .any (opsOf Try.f8 8) = impl_Lab.T8 := by kernel_rfl
theorem impl_Lab.bits8 : waitsOk impl_Lab.T8.2 impl_Lab.B8 = true := by kernel_rfl
set_option maxHeartbeats 8000000 in
set_option maxRecDepth 100000 in
theorem impl_Lab.calls (k : Nat) (A0 : Option Addr) (c0 : Nat) (l0 : List ByteArray) (a1 : Int) (r : List (S33)) (w : World) (hr0 : Kd.C Kd.string w A0 l0.length l0) (hc0 : l0.length ≤ c0) (h : impl_Lab.f k l0 a1 = some r) :
  Calls Try.prog 8 #[.slice A0 l0.length c0, .int .i64 a1] w fun e w' => ∃ v0_ : Value, e = .returned (v0_) ∧ Mem w [] w' [rowR k33 33 v0_ r] := by
 have hu31 := Try.underlying31
 have hfd35_2 : ∀ (x0 x1 x2 x3 : Value) (w : World), Sem.run Try.prog (Instr.field 35 (.agg #[x0, x1, x2, x3]) 2) w = .ok x2 w := fun _ _ _ _ _ => rfl
 have hu33 := Try.underlying33
 have HR0 := Aside0.mk hr0
 have HC0 := Aside0.mk hc0
 clear hr0 hc0
 have HM := Mem.nil w
 have H := h
 clear h
 unfold impl_Lab.f at H
 go_enter Try.func8, Try.ntmps8
 replace H := BLt H; obtain ⟨y699, Ny699, H⟩ := H
 replace Ny699 := Aside0.mk Ny699
 have HC4 := Aside0.mk H
 clear H
 go_upto_region 2 with (first | ((with_reducible refine gN 9 rfl ?_); refine pL 9 k33 33 ([] : List (S33)) [] (Reps.none _ _) HM rfl ?_; clear HM; intro v700 w3 HM; replace HM := HM.nm 0 rfl Ny699.out))
 go_cut [17] (fun v17 wc => ∃ (kq : Nat) (x17_3 : Bool), v17 = .bool x17_3 ∧ Aside0 (impl_Lab.j0 kq l0 a1 y699 x17_3 = some r) ∧ Aside0 (kq ≤ k) ∧ Mem w [] wc [rowR k33 33 v700 y699])
 case first =>
  have H := HC4.out
  clear HC4
  replace H := BN H; obtain ⟨t702, A5, H⟩ := H
  replace H := IB H
  rcases H with ⟨c7, H⟩ | ⟨c7, H⟩
  ·subst c7
   replace H := BN H; obtain ⟨t703, A8, H⟩ := H
   have H' := Aside0.mk H
   clear H
   go_wp2_with (first | ((with_reducible refine gC 27 rfl ?_); refine pC (some 11) rfl #[.slice A0 l0.length c0] rfl Try.func27 (impl_AsksOk.calls k _ _ l0 true _ (HM.came HR0.out) HC0.out A5.out) ?_; rintro e w6 ⟨rfl, hR⟩; refine ⟨_, rfl, ?_⟩; replace HM := HM.call hR; clear hR) | ((with_reducible refine gC 28 rfl ?_); refine pC (some 15) rfl #[.int .i64 a1, .int .i64 1, .int .i64 60] rfl Try.func28 (impl_within.calls a1 1 60 t703 _ A8.out) ?_; rintro e w9 ⟨rfl, hd⟩; refine ⟨_, rfl, ?_⟩; replace HM := HM.drawn hd; clear hd))
   go_meet
   case rel => exact ⟨_, (!t703), RS, H', ⟨by first | omega | exact Nat.le_refl _⟩, (MD HM).pick [0]⟩
  ·subst c7
   have H' := Aside0.mk H
   clear H
   go_wp2_with (first | ((with_reducible refine gC 27 rfl ?_); refine pC (some 11) rfl #[.slice A0 l0.length c0] rfl Try.func27 (impl_AsksOk.calls k _ _ l0 false _ (HM.came HR0.out) HC0.out A5.out) ?_; rintro e w6 ⟨rfl, hR⟩; refine ⟨_, rfl, ?_⟩; replace HM := HM.call hR; clear hR))
   go_meet
   case rel => exact ⟨_, (true), RS, H', ⟨by first | omega | exact Nat.le_refl _⟩, (MD HM).pick [0]⟩
 case rest =>
  clear HC4 HM
  obtain ⟨kq, x17_3, rfl, HA, HJ3, HM⟩ := hcut
  cases kq with
  | zero => exact absurd HA.out (by simp [impl_Lab.j0])
  | succ kj3 =>
   have H := HA.out
   clear HA
   simp only [impl_Lab.j0] at H
   go_upto_if 17 with (fail)
   replace H := IB H
   rcases H with ⟨c10, H⟩ | ⟨c10, H⟩
   ·subst c10
    obtain rfl := Option.some.inj H
    go_wp2
    go_ret
    exact ⟨_, ER, (MD HM).pick [0]⟩
   ·subst c10
    replace H := BN H; obtain ⟨t704, A11, H⟩ := H
    obtain ⟨ji13, hji13⟩ : ∃ j_ : Int, (mx 1 (wrap64 (Int.tdiv a1 10))) = j_ := ⟨_, rfl⟩
    (first | rw [hji13] at H | simp only [hji13] at H | skip)
    have hji13_ : (if 1 < (wrap64 (Int.tdiv a1 10)) then (wrap64 (Int.tdiv a1 10)) else 1) = ji13 := hji13
    replace H := BLt H; obtain ⟨y705, Ny705, H⟩ := H
    replace Ny705 := Aside0.mk Ny705
    have H' := Aside0.mk H
    clear H
    go_wp2_with (first | ((with_reducible refine gC 12 rfl ?_); refine pC (some 21) rfl #[.slice A0 l0.length c0, .int .i64 a1] rfl Try.func12 (impl_BestMisses.calls kj3 _ _ l0 a1 t704 _ (HM.came HR0.out) HC0.out A11.out) ?_; rintro e w12 ⟨rfl, hR⟩; refine ⟨_, rfl, ?_⟩; replace HM := HM.call hR; clear hR) | ((with_reducible refine gN 33 rfl ?_); refine pL 33 k31 31 ([(⟨1, a1, 0⟩ : S31), (⟨2, a1, 0⟩ : S31), (⟨3, a1, 0⟩ : S31), (⟨4, a1, ji13⟩ : S31)] : List (S31)) [.int .i64 1, .int .i64 a1, .int .i64 0, .int .i64 2, .int .i64 a1, .int .i64 0, .int .i64 3, .int .i64 a1, .int .i64 0, .int .i64 4, .int .i64 a1, .int .i64 ji13] (Reps.c3 (show Kd.M k31 _ _ _ (⟨1, a1, 0⟩ : S31) [.int .i64 1, .int .i64 a1, .int .i64 0] from (k31_mkM _ _ _ (⟨1, a1, 0⟩ : S31))) (Reps.c3 (show Kd.M k31 _ _ _ (⟨2, a1, 0⟩ : S31) [.int .i64 2, .int .i64 a1, .int .i64 0] from (k31_mkM _ _ _ (⟨2, a1, 0⟩ : S31))) (Reps.c3 (show Kd.M k31 _ _ _ (⟨3, a1, 0⟩ : S31) [.int .i64 3, .int .i64 a1, .int .i64 0] from (k31_mkM _ _ _ (⟨3, a1, 0⟩ : S31))) (Reps.c3 (show Kd.M k31 _ _ _ (⟨4, a1, ji13⟩ : S31) [.int .i64 4, .int .i64 a1, .int .i64 ji13] from (k31_mkM _ _ _ (⟨4, a1, ji13⟩ : S31))) (Reps.none _ _))))) HM rfl ?_; clear HM; intro v706 w14 HM; replace HM := HM.nm 1 rfl Ny705.out; obtain ⟨Xo15, ko15, eo15⟩ := HM.rdR 1 rfl; subst eo15))
    go_loopg [5, 35] kj3 (fun kq v5 v35 w' => ∃ (x5_2 : List (S33)) (x35_2 : Int), v35 = .int .i64 x35_2 ∧ Aside0 (impl_Lab.l0 kq l0 x5_2 t704 y705 (y705.length : Int) x35_2 = some r) ∧ Aside0 (kq ≤ kj3) ∧ Mem w [] w' [rowR k33 33 v5 x5_2, rowR k31 31 (.slice Xo15 y705.length ko15) y705])
    case atStart => exact ⟨(y699), (0), RS, H', ⟨Nat.le_refl _⟩, (MD HM).pick [0, 1]⟩
    case round =>
     clear H' HM
     obtain ⟨x5_2, x35_2, rfl, HA, HK2, HM⟩ := hrel
     cases gk with
     | zero => exact absurd HA.out (by simp [impl_Lab.l0])
     | succ k2 =>
      have H := HA.out
      clear HA
      simp only [impl_Lab.l0] at H
      go_upto_if 36 with (fail)
      replace H := IT H; rcases H with ⟨c16, H⟩ | ⟨c16, H⟩
      ·have c16b0 : decide (x35_2 < (y705.length : Int)) = true := decide_eq_true c16
       clear c16
       (first | rw [c16b0] | (simp only [i64_w, i32_w]; rw [c16b0]) | skip)
       replace H := GD H; obtain ⟨c17, H⟩ := H
       have c17b0 : decide (0 ≤ x35_2) = true := decide_eq_true c17
       clear c17
       replace H := GD H; obtain ⟨c18, H⟩ := H
       have c18b0 : decide (x35_2 < (y705.length : Int)) = true := decide_eq_true c18
       clear c18
       have p708 : 0 ≤ (x35_2 : Int) := of_decide_eq_true AS
       have q708 : (x35_2 : Int) < (y705.length : Int) := of_decide_eq_true AS
       obtain ⟨ad708, e708, hx708_0, hx708_1, hx708_2⟩ := at_T31 (HM.CR 1 rfl).2.2 x35_2 p708 q708
       cases e708
       replace p708 := eq_true p708
       replace q708 := eq_true q708
       try go_wp2_with (first | ((with_reducible refine gN 8 rfl ?_); refine pB 8 31 [.int .i64 0, .int .i64 0, .int .i64 0] HM rfl ?_; clear HM; intro gb709 w19 HM) | ((with_reducible refine gS 8 rfl ?_); refine pS 2 8 0 [.int .i64 ((rd_T31 y705 x35_2).f0), .int .i64 ((rd_T31 y705 x35_2).f1), .int .i64 ((rd_T31 y705 x35_2).f2)] HM rfl rfl ?_; clear HM; intro w20 HM))
       replace H := BN H; obtain ⟨⟨t710, t711, t712, t713⟩, A21, H⟩ := H
       replace H := GD H; obtain ⟨c22, H⟩ := H
       have LMc22 := Aside0.mk c22
       clear c22
       obtain ⟨Xo30, ko30, eo30⟩ := HM.rdR 0 rfl
       subst eo30
       refine RGN 11 [0, 1, 2, 3, 4, 5, 6, 7, 8, 9, 10] (fun a0 b a w' => ∃ (v27 : Value) (v715 : Value), a = putSel a0 b [(0, 39, .slice Xo30 x5_2.length ko30), (1, 40, .agg #[.int .i64 ((rd_T31 y705 x35_2).f0), .int .i64 ((rd_T31 y705 x35_2).f1), .int .i64 ((rd_T31 y705 x35_2).f2)]), (2, 41, .agg #[.int .i64 ((rd_T31 y705 x35_2).f0), .int .i64 ((rd_T31 y705 x35_2).f1), .int .i64 ((rd_T31 y705 x35_2).f2)]), (3, 42, .slice A0 l0.length c0), (4, 43, .agg #[.int .i64 t710, .int .i64 t711, .int .i64 t712, .int .i64 t713]), (5, 44, .int .i64 t712), (6, 45, .int .i64 t704), (7, 46, .agg #[.int .i64 ((rd_T31 y705 x35_2).f0), .int .i64 ((rd_T31 y705 x35_2).f1), .int .i64 ((rd_T31 y705 x35_2).f2), .int .i64 t712, .int .i64 t704]), (8, 47, v27), (9, 48, v715), (10, 5, v715)] ∧ Mem w [] w' [sel (b 9) (rowR k33 33 v715 (x5_2 ++ [(⟨(⟨(rd_T31 y705 x35_2).f0, (rd_T31 y705 x35_2).f1, (rd_T31 y705 x35_2).f2⟩ : S31), t712, t704⟩ : S33)])) (rowR k33 33 (.slice Xo30 x5_2.length ko30) x5_2), rowR k31 31 (.slice (some ad708) y705.length ko15) y705, box 31 gb709 [.int .i64 ((rd_T31 y705 x35_2).f0), .int .i64 ((rd_T31 y705 x35_2).f1), .int .i64 ((rd_T31 y705 x35_2).f2)], sel (b 8) (rowR k33 33 v27 [(⟨(⟨(rd_T31 y705 x35_2).f0, (rd_T31 y705 x35_2).f1, (rd_T31 y705 x35_2).f2⟩ : S31), t712, t704⟩ : S33)]) (emp)]) impl_Lab.tab8 impl_Lab.bits8 ?_ ?_ ?_
       ·exact ⟨.bool false, .bool false, PS0' rfl _, (HM.drew.ems 1).pick [0, 1, 2, 3]⟩
       ·clear HM
        refine steps_cons ?_ ?_
        ·rintro b a w ⟨v27, v715, ha, HM⟩ hb hon hoff
         refine ⟨_, rfl, fun K hK => ?_⟩
         replace ha := Aside0.mk ha
         have e5 := PH ha 5 (hoff 10 (by kernel_rfl))
         exact VL (.slice Xo30 x5_2.length ko30) (hK.out _ _ ⟨v27, v715, PUT ha 0 hb, HM⟩)
        refine steps_cons ?_ ?_
        ·rintro b a w ⟨v27, v715, ha, HM⟩ hb hon hoff
         refine ⟨_, rfl, fun K hK => ?_⟩
         replace ha := Aside0.mk ha
         obtain ⟨z31_0, z31_1, z31_2, Z31_0, Z31_1, Z31_2⟩ := bk3 (HM.bx 2 rfl)
         have e8 := PG ha 8
         exact VL (.agg #[.int .i64 ((rd_T31 y705 x35_2).f0), .int .i64 ((rd_T31 y705 x35_2).f1), .int .i64 ((rd_T31 y705 x35_2).f2)]) (hK.out _ _ ⟨v27, v715, PUT ha 1 hb, HM⟩)
        refine steps_cons ?_ ?_
        ·rintro b a w ⟨v27, v715, ha, HM⟩ hb hon hoff
         refine ⟨_, rfl, fun K hK => ?_⟩
         replace ha := Aside0.mk ha
         obtain ⟨z32_0, z32_1, z32_2, Z32_0, Z32_1, Z32_2⟩ := bk3 (HM.bx 2 rfl)
         have e8 := PG ha 8
         exact VL (.agg #[.int .i64 ((rd_T31 y705 x35_2).f0), .int .i64 ((rd_T31 y705 x35_2).f1), .int .i64 ((rd_T31 y705 x35_2).f2)]) (hK.out _ _ ⟨v27, v715, PUT ha 2 hb, HM⟩)
        refine steps_cons ?_ ?_
        ·rintro b a w ⟨v27, v715, ha, HM⟩ hb hon hoff
         refine ⟨_, rfl, fun K hK => ?_⟩
         replace ha := Aside0.mk ha
         have e0 := PG ha 0
         exact VL (.slice A0 l0.length c0) (hK.out _ _ ⟨v27, v715, PUT ha 3 hb, HM⟩)
        refine steps_cons ?_ ?_
        ·rintro b a w ⟨v27, v715, ha, HM⟩ hb hon hoff
         refine ⟨_, rfl, fun K hK => ?_⟩
         replace ha := Aside0.mk ha
         have e41 := PE ha 2 hon
         have e42 := PE ha 3 hon
         refine ST (eC (some 43) rfl #[.agg #[.int .i64 ((rd_T31 y705 x35_2).f0), .int .i64 ((rd_T31 y705 x35_2).f1), .int .i64 ((rd_T31 y705 x35_2).f2)], .slice A0 l0.length c0] rfl Try.func11 (impl_CountOf.calls k2 ((rd_T31 y705 x35_2).f0) ((rd_T31 y705 x35_2).f1) ((rd_T31 y705 x35_2).f2) _ _ l0 t710 t711 t712 t713 _ (HM.came HR0.out) HC0.out A21.out) ?_ (hargs := by (simp only [List.map_toArray, List.map_cons, List.map_nil, evc, eval_of e41, eval_of e42]) <;> rfl))
         rintro e w33 ⟨rfl, hR⟩
         refine ⟨_, rfl, ?_⟩
         replace HM := HM.call hR
         clear hR
         exact hK.out _ _ ⟨v27, v715, PUT ha 4 hb, (HM).pick [0, 1, 2, 3]⟩
        refine steps_cons ?_ ?_
        ·rintro b a w ⟨v27, v715, ha, HM⟩ hb hon hoff
         refine ⟨_, rfl, fun K hK => ?_⟩
         replace ha := Aside0.mk ha
         have e43 := PE ha 4 hon
         exact VL (.int .i64 t712) (hK.out _ _ ⟨v27, v715, PUT ha 5 hb, HM⟩)
        refine steps_cons ?_ ?_
        ·rintro b a w ⟨v27, v715, ha, HM⟩ hb hon hoff
         refine ⟨_, rfl, fun K hK => ?_⟩
         replace ha := Aside0.mk ha
         have e6 := PG ha 6
         exact VL (.int .i64 t704) (hK.out _ _ ⟨v27, v715, PUT ha 6 hb, HM⟩)
        refine steps_cons ?_ ?_
        ·rintro b a w ⟨v27, v715, ha, HM⟩ hb hon hoff
         refine ⟨_, rfl, fun K hK => ?_⟩
         replace ha := Aside0.mk ha
         have e40 := PE ha 1 hon
         have e44 := PE ha 5 hon
         have e45 := PE ha 6 hon
         exact VL (.agg #[.int .i64 ((rd_T31 y705 x35_2).f0), .int .i64 ((rd_T31 y705 x35_2).f1), .int .i64 ((rd_T31 y705 x35_2).f2), .int .i64 t712, .int .i64 t704]) (hK.out _ _ ⟨v27, v715, PUT ha 7 hb, HM⟩)
        refine steps_cons ?_ ?_
        ·rintro b a w ⟨v27, v715, ha, HM⟩ hb hon hoff
         refine ⟨_, rfl, fun K hK => ?_⟩
         replace ha := Aside0.mk ha
         have e46 := PE ha 7 hon
         refine ST (eL 47 k33 33 [(⟨(⟨(rd_T31 y705 x35_2).f0, (rd_T31 y705 x35_2).f1, (rd_T31 y705 x35_2).f2⟩ : S31), t712, t704⟩ : S33)] [.int .i64 ((rd_T31 y705 x35_2).f0), .int .i64 ((rd_T31 y705 x35_2).f1), .int .i64 ((rd_T31 y705 x35_2).f2), .int .i64 t712, .int .i64 t704] (Reps.c5 (show Kd.M k33 _ _ _ (⟨(⟨(rd_T31 y705 x35_2).f0, (rd_T31 y705 x35_2).f1, (rd_T31 y705 x35_2).f2⟩ : S31), t712, t704⟩ : S33) [.int .i64 ((rd_T31 y705 x35_2).f0), .int .i64 ((rd_T31 y705 x35_2).f1), .int .i64 ((rd_T31 y705 x35_2).f2), .int .i64 t712, .int .i64 t704] from (k33_mkM _ _ _ (⟨(⟨(rd_T31 y705 x35_2).f0, (rd_T31 y705 x35_2).f1, (rd_T31 y705 x35_2).f2⟩ : S31), t712, t704⟩ : S33))) (Reps.none _ _)) HM rfl ?_)
         clear HM
         intro v27 w34 HM
         exact hK.out _ _ ⟨v27, v715, PUT ha 8 hb, (HM).pick [0, 1, 2, 4]⟩
        refine steps_cons ?_ ?_
        ·rintro b a w ⟨v27, v715, ha, HM⟩ hb hon hoff
         refine ⟨_, rfl, fun K hK => ?_⟩
         replace ha := Aside0.mk ha
         replace HM := HM.sF 0 rfl hb
         replace HM := HM.sT 3 rfl (hon 8 (by kernel_rfl))
         obtain ⟨Xo35, ko35, eo35⟩ := HM.rdR 3 rfl
         subst eo35
         have e39 := PE ha 0 hon
         have e47 := PE ha 8 hon
         refine ST (eA 0 (.tmp 39) (.tmp 47) 26 33 k33 (.slice Xo30 x5_2.length ko30) x5_2 [(⟨(⟨(rd_T31 y705 x35_2).f0, (rd_T31 y705 x35_2).f1, (rd_T31 y705 x35_2).f2⟩ : S31), t712, t704⟩ : S33)] Xo35 ([(⟨(⟨(rd_T31 y705 x35_2).f0, (rd_T31 y705 x35_2).f1, (rd_T31 y705 x35_2).f2⟩ : S31), t712, t704⟩ : S33)].length) ko35 HM rfl Try.underlying26 info33 rfl (HM.CR 3 rfl).2.2 (by have h_ := LMc22.out; simp only [List.length_singleton]; omega) ?_ (ops := #[]) (hw := by rfl) (hs := (eval_of e39)) (hx := (eval_of e47)))
         clear HM
         intro v715 w36 HM
         exact hK.out _ _ ⟨.slice Xo35 [(⟨(⟨(rd_T31 y705 x35_2).f0, (rd_T31 y705 x35_2).f1, (rd_T31 y705 x35_2).f2⟩ : S31), t712, t704⟩ : S33)].length ko35, v715, PUT (PCH ha 10 (hoff 10 (by kernel_rfl))) 9 hb, (HM.iT 3 rfl (hon 8 (by kernel_rfl))).pick [0, 1, 2, 3]⟩
        refine steps_cons ?_ ?_
        ·rintro b a w ⟨v27, v715, ha, HM⟩ hb hon hoff
         refine ⟨_, rfl, fun K hK => ?_⟩
         replace ha := Aside0.mk ha
         have e48 := PE ha 9 hon
         exact VL (v715) (hK.out _ _ ⟨v27, v715, PUT ha 10 hb, HM⟩)
        exact steps_nil
       rintro _ w37 ⟨v27, v715, rfl, HM⟩
       replace HM := HM.sT 0 rfl rfl
       replace HM := HM.sT 3 rfl rfl
       simp only [putSel, if_true, Act.put, List.setIfInBounds_toArray, List.set_cons_zero, List.set_cons_succ, gt_iff_lt, ge_iff_le]
       have H' := Aside0.mk H
       clear H
       go_wp2
       go_roundg k2
       case measure => have := HJ3.out; have := HK2.out; omega
       case rel => exact ⟨((x5_2 ++ [(⟨(⟨(rd_T31 y705 x35_2).f0, (rd_T31 y705 x35_2).f1, (rd_T31 y705 x35_2).f2⟩ : S31), t712, t704⟩ : S33)])), (wrap64 (x35_2 + 1)), RS, H', ⟨by have := HJ3.out; have := HK2.out; omega⟩, (MD HM).pick [0, 1]⟩
      ·have c16b0 : decide (x35_2 < (y705.length : Int)) = false := decide_eq_false c16
       clear c16
       (first | rw [c16b0] | (simp only [i64_w, i32_w]; rw [c16b0]) | skip)
       obtain rfl := Option.some.inj H
       go_wp2
       go_ret
       exact ⟨_, ER, (MD HM).pick [0]⟩
def impl_Winner.l0 : Nat → List (S33) → Int → List (S33) → Int → Int → Option (Int)
 | 0, _, _, _, _, _ => none
 | k + 1, x0, x3, x6, x7, x8 => if x8 < x7 then (if 0 ≤ x8 then (if x8 < (x6.length : Int) then (if x3 < 0 then (impl_Winner.l0 k x0 x8 x6 x7 (wrap64 (x8 + 1))) else (if 0 ≤ x3 then (if x3 < (x0.length : Int) then (if ((rd_T33 x6 x8).f1) < ((rd_T33 x0 x3).f1) then (impl_Winner.l0 k x0 x8 x6 x7 (wrap64 (x8 + 1))) else (impl_Winner.l0 k x0 x3 x6 x7 (wrap64 (x8 + 1)))) else (none)) else (none))) else (none)) else (none)) else (some x3)
def impl_Winner.f (k : Nat) (l0 : List (S33)) : Option (Int) := impl_Winner.l0 k l0 (-1) l0 (l0.length : Int) 0
set_option maxHeartbeats 8000000 in
set_option maxRecDepth 100000 in
theorem impl_Winner.calls (k : Nat) (A0 : Option Addr) (c0 : Nat) (l0 : List (S33)) (r : Int) (w : World) (hr0 : Kd.C k33 w A0 l0.length l0) (hc0 : l0.length ≤ c0) (h : impl_Winner.f k l0 = some r) :
  Calls Try.prog 9 #[.slice A0 l0.length c0] w fun e w' => e = .returned (.int .i64 r) ∧ Mem w [] w' [] := by
 have hu33 := Try.underlying33
 have HR0 := Aside0.mk hr0
 have HC0 := Aside0.mk hc0
 clear hr0 hc0
 have HM := Mem.nil w
 have H := h
 clear h
 unfold impl_Winner.f at H
 go_enter Try.func9, Try.ntmps9
 have H' := Aside0.mk H
 clear H
 go_wp2
 repeat (go_quiet (fail); try go_wp2_with (fail))
 go_loopg [3, 8] k (fun kq v3 v8 w' => ∃ (x3_1 : Int) (x8_1 : Int), v3 = .int .i64 x3_1 ∧ v8 = .int .i64 x8_1 ∧ Aside0 (impl_Winner.l0 kq l0 x3_1 l0 (l0.length : Int) x8_1 = some r) ∧ Aside0 (kq ≤ k) ∧ Mem w [] w' [])
 case atStart => exact ⟨((-1)), (0), RS, RS, H', ⟨Nat.le_refl _⟩, (MD HM).pick []⟩
 case round =>
  clear H' HM
  obtain ⟨x3_1, x8_1, rfl, rfl, HA, HK1, HM⟩ := hrel
  cases gk with
  | zero => exact absurd HA.out (by simp [impl_Winner.l0])
  | succ k1 =>
   have H := HA.out
   clear HA
   simp only [impl_Winner.l0] at H
   go_upto_if 9 with (fail)
   repeat (go_quiet (fail); go_upto_if 9 with (fail))
   replace H := IT H; rcases H with ⟨c2, H⟩ | ⟨c2, H⟩
   ·have c2b0 : decide (x8_1 < (l0.length : Int)) = true := decide_eq_true c2
    clear c2
    (first | rw [c2b0] | (simp only [i64_w, i32_w]; rw [c2b0]) | skip)
    replace H := GD H; obtain ⟨c3, H⟩ := H
    have c3b0 : decide (0 ≤ x8_1) = true := decide_eq_true c3
    clear c3
    replace H := GD H; obtain ⟨c4, H⟩ := H
    have c4b0 : decide (x8_1 < (l0.length : Int)) = true := decide_eq_true c4
    clear c4
    replace H := IT H; rcases H with ⟨c7, H⟩ | ⟨c7, H⟩
    ·have c7b0 : decide (x3_1 < 0) = true := decide_eq_true c7
     clear c7
     have H' := Aside0.mk H
     clear H
     have p717 : 0 ≤ (x8_1 : Int) := of_decide_eq_true AS
     have q717 : (x8_1 : Int) < (l0.length : Int) := of_decide_eq_true AS
     obtain ⟨ad717, e717, hx717_0, hx717_1, hx717_2, hx717_3, hx717_4⟩ := at_T33 (HM.came HR0.out) x8_1 p717 q717
     cases e717
     replace p717 := eq_true p717
     replace q717 := eq_true q717
     go_wp2_with (first | ((with_reducible refine gN 5 rfl ?_); refine pB 5 33 [.int .i64 0, .int .i64 0, .int .i64 0, .int .i64 0, .int .i64 0] HM rfl ?_; clear HM; intro gb718 w5 HM) | ((with_reducible refine gS 5 rfl ?_); refine pS 0 5 0 [.int .i64 ((rd_T33 l0 x8_1).f0.f0), .int .i64 ((rd_T33 l0 x8_1).f0.f1), .int .i64 ((rd_T33 l0 x8_1).f0.f2), .int .i64 ((rd_T33 l0 x8_1).f1), .int .i64 ((rd_T33 l0 x8_1).f2)] HM rfl rfl ?_; clear HM; intro w6 HM))
     repeat (go_quiet (first | ((with_reducible refine gN 5 rfl ?_); refine pB 5 33 [.int .i64 0, .int .i64 0, .int .i64 0, .int .i64 0, .int .i64 0] HM rfl ?_; clear HM; intro gb718 w5 HM) | ((with_reducible refine gS 5 rfl ?_); refine pS 0 5 0 [.int .i64 ((rd_T33 l0 x8_1).f0.f0), .int .i64 ((rd_T33 l0 x8_1).f0.f1), .int .i64 ((rd_T33 l0 x8_1).f0.f2), .int .i64 ((rd_T33 l0 x8_1).f1), .int .i64 ((rd_T33 l0 x8_1).f2)] HM rfl rfl ?_; clear HM; intro w6 HM)); try go_wp2_with (first | ((with_reducible refine gN 5 rfl ?_); refine pB 5 33 [.int .i64 0, .int .i64 0, .int .i64 0, .int .i64 0, .int .i64 0] HM rfl ?_; clear HM; intro gb718 w5 HM) | ((with_reducible refine gS 5 rfl ?_); refine pS 0 5 0 [.int .i64 ((rd_T33 l0 x8_1).f0.f0), .int .i64 ((rd_T33 l0 x8_1).f0.f1), .int .i64 ((rd_T33 l0 x8_1).f0.f2), .int .i64 ((rd_T33 l0 x8_1).f1), .int .i64 ((rd_T33 l0 x8_1).f2)] HM rfl rfl ?_; clear HM; intro w6 HM)))
     go_roundg k1
     case measure => have := HK1.out; omega
     case rel => exact ⟨(x8_1), (wrap64 (x8_1 + 1)), RS, RS, H', ⟨by have := HK1.out; omega⟩, (MD HM).pick []⟩
    ·have c7b0 : decide (x3_1 < 0) = false := decide_eq_false c7
     clear c7
     replace H := GD H; obtain ⟨c9, H⟩ := H
     have c9b0 : decide (0 ≤ x3_1) = true := decide_eq_true c9
     clear c9
     replace H := GD H; obtain ⟨c10, H⟩ := H
     have c10b0 : decide (x3_1 < (l0.length : Int)) = true := decide_eq_true c10
     clear c10
     have p717 : 0 ≤ (x8_1 : Int) := of_decide_eq_true AS
     have q717 : (x8_1 : Int) < (l0.length : Int) := of_decide_eq_true AS
     obtain ⟨ad717, e717, hx717_0, hx717_1, hx717_2, hx717_3, hx717_4⟩ := at_T33 (HM.came HR0.out) x8_1 p717 q717
     cases e717
     replace p717 := eq_true p717
     replace q717 := eq_true q717
     go_upto_if 24 with (first | ((with_reducible refine gN 5 rfl ?_); refine pB 5 33 [.int .i64 0, .int .i64 0, .int .i64 0, .int .i64 0, .int .i64 0] HM rfl ?_; clear HM; intro gb718 w5 HM) | ((with_reducible refine gS 5 rfl ?_); refine pS 0 5 0 [.int .i64 ((rd_T33 l0 x8_1).f0.f0), .int .i64 ((rd_T33 l0 x8_1).f0.f1), .int .i64 ((rd_T33 l0 x8_1).f0.f2), .int .i64 ((rd_T33 l0 x8_1).f1), .int .i64 ((rd_T33 l0 x8_1).f2)] HM rfl rfl ?_; clear HM; intro w6 HM; obtain ⟨z8_0, z8_1, z8_2, z8_3, z8_4, Z8_0, Z8_1, Z8_2, Z8_3, Z8_4⟩ := bk5 (HM.bx 0 rfl); have p719 : 0 ≤ (x3_1 : Int) := of_decide_eq_true AS; have q719 : (x3_1 : Int) < (l0.length : Int) := of_decide_eq_true AS; obtain ⟨ad719, e719, hx719_0, hx719_1, hx719_2, hx719_3, hx719_4⟩ := at_T33 (HM.came HR0.out) x3_1 p719 q719; obtain rfl := Option.some.inj e719; replace p719 := eq_true p719; replace q719 := eq_true q719))
     repeat (go_quiet (first | ((with_reducible refine gN 5 rfl ?_); refine pB 5 33 [.int .i64 0, .int .i64 0, .int .i64 0, .int .i64 0, .int .i64 0] HM rfl ?_; clear HM; intro gb718 w5 HM) | ((with_reducible refine gS 5 rfl ?_); refine pS 0 5 0 [.int .i64 ((rd_T33 l0 x8_1).f0.f0), .int .i64 ((rd_T33 l0 x8_1).f0.f1), .int .i64 ((rd_T33 l0 x8_1).f0.f2), .int .i64 ((rd_T33 l0 x8_1).f1), .int .i64 ((rd_T33 l0 x8_1).f2)] HM rfl rfl ?_; clear HM; intro w6 HM; obtain ⟨z8_0, z8_1, z8_2, z8_3, z8_4, Z8_0, Z8_1, Z8_2, Z8_3, Z8_4⟩ := bk5 (HM.bx 0 rfl); have p719 : 0 ≤ (x3_1 : Int) := of_decide_eq_true AS; have q719 : (x3_1 : Int) < (l0.length : Int) := of_decide_eq_true AS; obtain ⟨ad719, e719, hx719_0, hx719_1, hx719_2, hx719_3, hx719_4⟩ := at_T33 (HM.came HR0.out) x3_1 p719 q719; obtain rfl := Option.some.inj e719; replace p719 := eq_true p719; replace q719 := eq_true q719)); go_upto_if 24 with (first | ((with_reducible refine gN 5 rfl ?_); refine pB 5 33 [.int .i64 0, .int .i64 0, .int .i64 0, .int .i64 0, .int .i64 0] HM rfl ?_; clear HM; intro gb718 w5 HM) | ((with_reducible refine gS 5 rfl ?_); refine pS 0 5 0 [.int .i64 ((rd_T33 l0 x8_1).f0.f0), .int .i64 ((rd_T33 l0 x8_1).f0.f1), .int .i64 ((rd_T33 l0 x8_1).f0.f2), .int .i64 ((rd_T33 l0 x8_1).f1), .int .i64 ((rd_T33 l0 x8_1).f2)] HM rfl rfl ?_; clear HM; intro w6 HM; obtain ⟨z8_0, z8_1, z8_2, z8_3, z8_4, Z8_0, Z8_1, Z8_2, Z8_3, Z8_4⟩ := bk5 (HM.bx 0 rfl); have p719 : 0 ≤ (x3_1 : Int) := of_decide_eq_true AS; have q719 : (x3_1 : Int) < (l0.length : Int) := of_decide_eq_true AS; obtain ⟨ad719, e719, hx719_0, hx719_1, hx719_2, hx719_3, hx719_4⟩ := at_T33 (HM.came HR0.out) x3_1 p719 q719; obtain rfl := Option.some.inj e719; replace p719 := eq_true p719; replace q719 := eq_true q719)))
     replace HM := nzM HM
     replace H := IT H; rcases H with ⟨c11, H⟩ | ⟨c11, H⟩
     ·have c11b0 : decide (((rd_T33 l0 x8_1).f1) < ((rd_T33 l0 x3_1).f1)) = true := decide_eq_true c11
      clear c11
      (first | rw [c11b0] | (simp only [i64_w, i32_w]; rw [c11b0]) | skip)
      have H' := Aside0.mk H
      clear H
      go_wp2
      repeat (go_quiet (fail); try go_wp2_with (fail))
      go_roundg k1
      case measure => have := HK1.out; omega
      case rel => exact ⟨(x8_1), (wrap64 (x8_1 + 1)), RS, RS, H', ⟨by have := HK1.out; omega⟩, (MD HM).pick []⟩
     ·have c11b0 : decide (((rd_T33 l0 x8_1).f1) < ((rd_T33 l0 x3_1).f1)) = false := decide_eq_false c11
      clear c11
      (first | rw [c11b0] | (simp only [i64_w, i32_w]; rw [c11b0]) | skip)
      have H' := Aside0.mk H
      clear H
      go_wp2
      repeat (go_quiet (fail); try go_wp2_with (fail))
      go_roundg k1
      case measure => have := HK1.out; omega
      case rel => exact ⟨(x3_1), (wrap64 (x8_1 + 1)), RS, RS, H', ⟨by have := HK1.out; omega⟩, (MD HM).pick []⟩
   ·have c2b0 : decide (x8_1 < (l0.length : Int)) = false := decide_eq_false c2
    clear c2
    (first | rw [c2b0] | (simp only [i64_w, i32_w]; rw [c2b0]) | skip)
    obtain rfl := Option.some.inj H
    go_wp2
    repeat (go_quiet (fail); try go_wp2_with (fail))
    go_ret
    exact ⟨ER, (MD HM).pick []⟩
def impl_NumText.l0 : Nat → Int → ByteArray → Option (ByteArray)
 | 0, _, _ => none
 | k + 1, x0, x3 => if x0 > 9 then ((some (([(wrap64 (48 + (Int.tmod x0 10))) % 256] : List Int) : List Int)).bind fun y721 => (if (strOfNums y721).size + x3.size ≤ 9223372036854775807 then (impl_NumText.l0 k (wrap64 (Int.tdiv x0 10)) ((strOfNums y721) ++ x3)) else (none))) else ((some (([(wrap64 (48 + x0)) % 256] : List Int) : List Int)).bind fun y724 => (if (strOfNums y724).size + x3.size ≤ 9223372036854775807 then (some ((strOfNums y724) ++ x3)) else (none)))
def impl_NumText.f (k : Nat) (a0 : Int) : Option (ByteArray) := (impl_isNum.f a0).bind fun t720 => (if t720 = true then (impl_NumText.l0 k a0 (⟨#[]⟩ : ByteArray)) else (some (⟨#[]⟩ : ByteArray)))
set_option maxHeartbeats 8000000 in
set_option maxRecDepth 100000 in
theorem impl_NumText.calls (k : Nat) (a0 : Int) (r : ByteArray) (w : World)  (h : impl_NumText.f k a0 = some r) :
  Calls Try.prog 10 #[.int .i64 a0] w fun e w' => e = .returned (.string r) ∧ Mem w [] w' [] := by
 have HM := Mem.nil w
 have H := h
 clear h
 unfold impl_NumText.f at H
 go_enter Try.func10, Try.ntmps10
 replace H := BN H; obtain ⟨t720, A2, H⟩ := H
 go_upto_if 6 with (first | ((with_reducible refine gC 29 rfl ?_); refine pC (some 5) rfl #[.int .i64 a0] rfl Try.func29 (impl_isNum.calls a0 t720 _ A2.out) ?_; rintro e w3 ⟨rfl, hd⟩; refine ⟨_, rfl, ?_⟩; replace HM := HM.drawn hd; clear hd))
 replace H := IB H
 rcases H with ⟨c4, H⟩ | ⟨c4, H⟩
 ·subst c4
  have H' := Aside0.mk H
  clear H
  go_wp2
  go_loopg [0, 3] k (fun kq v0 v3 w' => ∃ (x0_1 : Int) (x3_1 : ByteArray), v0 = .int .i64 x0_1 ∧ v3 = .string x3_1 ∧ Aside0 (impl_NumText.l0 kq x0_1 x3_1 = some r) ∧ Aside0 (kq ≤ k) ∧ Mem w [] w' [])
  case atStart => exact ⟨(a0), ((⟨#[]⟩ : ByteArray)), RS, RS, H', ⟨Nat.le_refl _⟩, (MD HM).pick []⟩
  case round =>
   clear H' HM
   obtain ⟨x0_1, x3_1, rfl, rfl, HA, HK1, HM⟩ := hrel
   cases gk with
   | zero => exact absurd HA.out (by simp [impl_NumText.l0])
   | succ k1 =>
    have H := HA.out
    clear HA
    simp only [impl_NumText.l0] at H
    go_upto_if 8 with (fail)
    replace H := IT H; rcases H with ⟨c5, H⟩ | ⟨c5, H⟩
    ·have c5b0 : decide (9 < x0_1) = true := decide_eq_true c5
     clear c5
     (first | rw [c5b0] | (simp only [i64_w, i32_w]; rw [c5b0]) | skip)
     replace H := BLt H; obtain ⟨y721, Ny721, H⟩ := H
     replace Ny721 := Aside0.mk Ny721
     replace H := GD H; obtain ⟨c8, H⟩ := H
     have c8b0 := eq_true c8
     have c8b1 : decide ((strOfNums y721).size + x3_1.size ≤ 9223372036854775807) = true := decide_eq_true c8
     try have c8b2 : (9223372036854775807 < (strOfNums y721).size + x3_1.size) = False := eq_false (Nat.not_lt.2 c8)
     have H' := Aside0.mk H
     clear H
     go_wp2_with (first | ((with_reducible refine gN 13 rfl ?_); refine pL 13 (Kd.int .u8) 5 ([(wrap64 (48 + (Int.tmod x0_1 10))) % 256] : List Int) [.int .u8 ((wrap64 (48 + (Int.tmod x0_1 10))) % 256)] (Reps.one (show Kd.M (Kd.int .u8) _ _ _ ((wrap64 (48 + (Int.tmod x0_1 10))) % 256) [.int .u8 ((wrap64 (48 + (Int.tmod x0_1 10))) % 256)] from rfl) (Reps.none _ _)) HM rfl ?_; clear HM; intro v722 w6 HM; replace HM := HM.nm 0 rfl Ny721.out; have hcv7 := HM.str 0 rfl Try.underlying22 Try.underlying5 Try.underlying9))
     go_roundg k1
     case measure => have := HK1.out; omega
     case rel => exact ⟨(wrap64 (Int.tdiv x0_1 10)), ((strOfNums y721) ++ x3_1), RS, RS, H', ⟨by have := HK1.out; omega⟩, (MD HM).pick []⟩
    ·have c5b0 : decide (9 < x0_1) = false := decide_eq_false c5
     clear c5
     (first | rw [c5b0] | (simp only [i64_w, i32_w]; rw [c5b0]) | skip)
     replace H := BLt H; obtain ⟨y724, Ny724, H⟩ := H
     replace Ny724 := Aside0.mk Ny724
     replace H := GD H; obtain ⟨c11, H⟩ := H
     have c11b0 := eq_true c11
     have c11b1 : decide ((strOfNums y724).size + x3_1.size ≤ 9223372036854775807) = true := decide_eq_true c11
     try have c11b2 : (9223372036854775807 < (strOfNums y724).size + x3_1.size) = False := eq_false (Nat.not_lt.2 c11)
     obtain rfl := Option.some.inj H
     go_wp2_with (first | ((with_reducible refine gN 22 rfl ?_); refine pL 22 (Kd.int .u8) 5 ([(wrap64 (48 + x0_1)) % 256] : List Int) [.int .u8 ((wrap64 (48 + x0_1)) % 256)] (Reps.one (show Kd.M (Kd.int .u8) _ _ _ ((wrap64 (48 + x0_1)) % 256) [.int .u8 ((wrap64 (48 + x0_1)) % 256)] from rfl) (Reps.none _ _)) HM rfl ?_; clear HM; intro v725 w9 HM; replace HM := HM.nm 0 rfl Ny724.out; have hcv10 := HM.str 0 rfl Try.underlying22 Try.underlying5 Try.underlying9))
     go_ret
     exact ⟨ER, (MD HM).pick []⟩
 ·subst c4
  obtain rfl := Option.some.inj H
  go_wp2
  go_ret
  exact ⟨ER, (MD HM).pick []⟩
mutual
def impl_Survey.j0 : Nat → List ByteArray → Int → List ByteArray → Bool → Option (List ByteArray)
 | 0, _, _, _, _ => none
 | k + 1, x0, x1, x5, x18 => if x18 = true then (some x5) else (impl_Survey.l0 k x0 x1 x5 1)
def impl_Survey.l0 : Nat → List ByteArray → Int → List ByteArray → Int → Option (List ByteArray)
 | 0, _, _, _, _ => none
 | k + 1, x0, x1, x5, x6 => if x6 ≤ x1 then ((impl_NumText.f k x6).bind fun t732 => ((impl_Lab.f k x0 x6).bind fun t733 => (impl_Survey.l1 k x0 x1 x5 x6 t732 t733 (t733.length : Int) 0))) else (some x5)
def impl_Survey.l1 : Nat → List ByteArray → Int → List ByteArray → Int → ByteArray → List (S33) → Int → Int → Option (List ByteArray)
 | 0, _, _, _, _, _, _, _, _ => none
 | k + 1, x0, x1, x5, x6, x7, x29, x30, x31 => if x31 < x30 then (if 0 ≤ x31 then (if x31 < (x29.length : Int) then (if x7.size + 1 ≤ 9223372036854775807 then ((impl_NumText.f k ((rd_T33 x29 x31).f1)).bind fun t738 => (if x7.size + 1 + t738.size ≤ 9223372036854775807 then (impl_Survey.l1 k x0 x1 x5 x6 ((x7 ++ (⟨#[32]⟩ : ByteArray)) ++ t738) x29 x30 (wrap64 (x31 + 1))) else (none))) else (none)) else (none)) else (none)) else (if x7.size + 1 ≤ 9223372036854775807 then ((impl_BestMisses.f k x0 x6).bind fun t739 => ((impl_NumText.f k t739).bind fun t740 => (if x7.size + 1 + t740.size ≤ 9223372036854775807 then (if x5.length < 8796093022208 then (impl_Survey.l0 k x0 x1 (x5 ++ [(x7 ++ (⟨#[32]⟩ : ByteArray)) ++ t740]) (wrap64 (x6 + 1))) else (none)) else (none)))) else (none))
end
def impl_Survey.f (k : Nat) (l0 : List ByteArray) (a1 : Int) : Option (List ByteArray) := (some (([] : List ByteArray) : List ByteArray)).bind fun y727 => ((impl_AsksOk.f k l0).bind fun t730 => (if t730 = true then ((impl_within.f a1 1 60).bind fun t731 => (impl_Survey.j0 k l0 a1 y727 (!t731))) else (impl_Survey.j0 k l0 a1 y727 true)))
set_option maxHeartbeats 8000000 in
set_option maxRecDepth 100000 in
theorem impl_Survey.calls (k : Nat) (A0 : Option Addr) (c0 : Nat) (l0 : List ByteArray) (a1 : Int) (r : List ByteArray) (w : World) (hr0 : Kd.C Kd.string w A0 l0.length l0) (hc0 : l0.length ≤ c0) (h : impl_Survey.f k l0 a1 = some r) :
  Calls Try.prog 13 #[.slice A0 l0.length c0, .int .i64 a1] w fun e w' => ∃ v0_ : Value, e = .returned (v0_) ∧ Mem w [] w' [rowR Kd.string 9 v0_ r] := by
 have hu33 := Try.underlying33
 have HR0 := Aside0.mk hr0
 have HC0 := Aside0.mk hc0
 clear hr0 hc0
 have HM := Mem.nil w
 have H := h
 clear h
 unfold impl_Survey.f at H
 go_enter Try.func13, Try.ntmps13
 replace H := BLt H; obtain ⟨y727, Ny727, H⟩ := H
 replace Ny727 := Aside0.mk Ny727
 have HC4 := Aside0.mk H
 clear H
 go_upto_region 2 with (first | ((with_reducible refine gN 10 rfl ?_); refine pL 10 Kd.string 9 ([] : List ByteArray) [] (Reps.none _ _) HM rfl ?_; clear HM; intro v728 w3 HM; replace HM := HM.nm 0 rfl Ny727.out))
 go_cut [18] (fun v18 wc => ∃ (kq : Nat) (x18_3 : Bool), v18 = .bool x18_3 ∧ Aside0 (impl_Survey.j0 kq l0 a1 y727 x18_3 = some r) ∧ Aside0 (kq ≤ k) ∧ Mem w [] wc [rowR Kd.string 9 v728 y727])
 case first =>
  have H := HC4.out
  clear HC4
  replace H := BN H; obtain ⟨t730, A5, H⟩ := H
  replace H := IB H
  rcases H with ⟨c7, H⟩ | ⟨c7, H⟩
  ·subst c7
   replace H := BN H; obtain ⟨t731, A8, H⟩ := H
   have H' := Aside0.mk H
   clear H
   go_wp2_with (first | ((with_reducible refine gC 27 rfl ?_); refine pC (some 12) rfl #[.slice A0 l0.length c0] rfl Try.func27 (impl_AsksOk.calls k _ _ l0 true _ (HM.came HR0.out) HC0.out A5.out) ?_; rintro e w6 ⟨rfl, hR⟩; refine ⟨_, rfl, ?_⟩; replace HM := HM.call hR; clear hR) | ((with_reducible refine gC 28 rfl ?_); refine pC (some 16) rfl #[.int .i64 a1, .int .i64 1, .int .i64 60] rfl Try.func28 (impl_within.calls a1 1 60 t731 _ A8.out) ?_; rintro e w9 ⟨rfl, hd⟩; refine ⟨_, rfl, ?_⟩; replace HM := HM.drawn hd; clear hd))
   go_meet
   case rel => exact ⟨_, (!t731), RS, H', ⟨by first | omega | exact Nat.le_refl _⟩, (MD HM).pick [0]⟩
  ·subst c7
   have H' := Aside0.mk H
   clear H
   go_wp2_with (first | ((with_reducible refine gC 27 rfl ?_); refine pC (some 12) rfl #[.slice A0 l0.length c0] rfl Try.func27 (impl_AsksOk.calls k _ _ l0 false _ (HM.came HR0.out) HC0.out A5.out) ?_; rintro e w6 ⟨rfl, hR⟩; refine ⟨_, rfl, ?_⟩; replace HM := HM.call hR; clear hR))
   go_meet
   case rel => exact ⟨_, (true), RS, H', ⟨by first | omega | exact Nat.le_refl _⟩, (MD HM).pick [0]⟩
 case rest =>
  clear HC4 HM
  obtain ⟨kq, x18_3, rfl, HA, HJ3, HM⟩ := hcut
  cases kq with
  | zero => exact absurd HA.out (by simp [impl_Survey.j0])
  | succ kj3 =>
   have H := HA.out
   clear HA
   simp only [impl_Survey.j0] at H
   go_upto_if 18 with (fail)
   replace H := IB H
   rcases H with ⟨c10, H⟩ | ⟨c10, H⟩
   ·subst c10
    obtain rfl := Option.some.inj H
    go_wp2
    go_ret
    exact ⟨_, ER, (MD HM).pick [0]⟩
   ·subst c10
    have H' := Aside0.mk H
    clear H
    go_wp2
    go_loopg [5, 6] kj3 (fun kq v5 v6 w' => ∃ (x5_2 : List ByteArray) (x6_2 : Int), v6 = .int .i64 x6_2 ∧ Aside0 (impl_Survey.l0 kq l0 a1 x5_2 x6_2 = some r) ∧ Aside0 (kq ≤ kj3) ∧ Mem w [] w' [rowR Kd.string 9 v5 x5_2])
    case atStart => exact ⟨(y727), (1), RS, H', ⟨Nat.le_refl _⟩, (MD HM).pick [0]⟩
    case round =>
     clear H' HM
     obtain ⟨x5_2, x6_2, rfl, HA, HK2, HM⟩ := hrel
     cases gk with
     | zero => exact absurd HA.out (by simp [impl_Survey.l0])
     | succ k2 =>
      have H := HA.out
      clear HA
      simp only [impl_Survey.l0] at H
      go_upto_if 22 with (fail)
      replace H := IT H; rcases H with ⟨c11, H⟩ | ⟨c11, H⟩
      ·have c11b0 : decide (x6_2 ≤ a1) = true := decide_eq_true c11
       clear c11
       (first | rw [c11b0] | (simp only [i64_w, i32_w]; rw [c11b0]) | skip)
       replace H := BN H; obtain ⟨t732, A12, H⟩ := H
       replace H := BN H; obtain ⟨t733, A14, H⟩ := H
       have H' := Aside0.mk H
       clear H
       go_wp2_with (first | ((with_reducible refine gC 10 rfl ?_); refine pC (some 26) rfl #[.int .i64 x6_2] rfl Try.func10 (impl_NumText.calls k2 x6_2 t732 _ A12.out) ?_; rintro e w13 ⟨rfl, hR⟩; refine ⟨_, rfl, ?_⟩; replace HM := HM.call hR; clear hR) | ((with_reducible refine gC 8 rfl ?_); refine pC (some 29) rfl #[.slice A0 l0.length c0, .int .i64 x6_2] rfl Try.func8 (impl_Lab.calls k2 _ _ l0 x6_2 t733 _ (HM.came HR0.out) HC0.out A14.out) ?_; rintro e w15 ⟨v734, rfl, hR⟩; refine ⟨_, rfl, ?_⟩; replace HM := HM.call hR; clear hR; obtain ⟨Xo16, ko16, eo16⟩ := HM.rdR 1 rfl; subst eo16))
       go_loopg [7, 31] k2 (fun kq v7 v31 w' => ∃ (x7_3 : ByteArray) (x31_3 : Int), v7 = .string x7_3 ∧ v31 = .int .i64 x31_3 ∧ Aside0 (impl_Survey.l1 kq l0 a1 x5_2 x6_2 x7_3 t733 (t733.length : Int) x31_3 = some r) ∧ Aside0 (kq ≤ k2) ∧ Mem w [] w' [rowR Kd.string 9 u5 x5_2, rowR k33 33 (.slice Xo16 t733.length ko16) t733])
       case atStart => exact ⟨(t732), (0), RS, RS, H', ⟨Nat.le_refl _⟩, (MD HM).pick [0, 1]⟩
       case round =>
        clear H' HM
        obtain ⟨x7_3, x31_3, rfl, rfl, HA, HK3, HM⟩ := hrel
        cases gk with
        | zero => exact absurd HA.out (by simp [impl_Survey.l1])
        | succ k3 =>
         have H := HA.out
         clear HA
         simp only [impl_Survey.l1] at H
         go_upto_if 32 with (fail)
         replace H := IT H; rcases H with ⟨c17, H⟩ | ⟨c17, H⟩
         ·have c17b0 : decide (x31_3 < (t733.length : Int)) = true := decide_eq_true c17
          clear c17
          (first | rw [c17b0] | (simp only [i64_w, i32_w]; rw [c17b0]) | skip)
          replace H := GD H; obtain ⟨c18, H⟩ := H
          have c18b0 : decide (0 ≤ x31_3) = true := decide_eq_true c18
          clear c18
          replace H := GD H; obtain ⟨c19, H⟩ := H
          have c19b0 : decide (x31_3 < (t733.length : Int)) = true := decide_eq_true c19
          clear c19
          replace H := GD H; obtain ⟨c22, H⟩ := H
          have c22b0 := eq_true c22
          have c22b1 : decide (x7_3.size + 1 ≤ 9223372036854775807) = true := decide_eq_true c22
          try have c22b2 : (9223372036854775807 < x7_3.size + 1) = False := eq_false (Nat.not_lt.2 c22)
          replace H := BN H; obtain ⟨t738, A24, H⟩ := H
          replace H := GD H; obtain ⟨c26, H⟩ := H
          have c26b0 := eq_true c26
          have c26b1 : decide (x7_3.size + 1 + t738.size ≤ 9223372036854775807) = true := decide_eq_true c26
          try have c26b2 : (9223372036854775807 < x7_3.size + 1 + t738.size) = False := eq_false (Nat.not_lt.2 c26)
          have H' := Aside0.mk H
          clear H
          have p736 : 0 ≤ (x31_3 : Int) := of_decide_eq_true AS
          have q736 : (x31_3 : Int) < (t733.length : Int) := of_decide_eq_true AS
          obtain ⟨ad736, e736, hx736_0, hx736_1, hx736_2, hx736_3, hx736_4⟩ := at_T33 (HM.CR 1 rfl).2.2 x31_3 p736 q736
          cases e736
          replace p736 := eq_true p736
          replace q736 := eq_true q736
          go_wp2_with (first | ((with_reducible refine gN 9 rfl ?_); refine pB 9 33 [.int .i64 0, .int .i64 0, .int .i64 0, .int .i64 0, .int .i64 0] HM rfl ?_; clear HM; intro gb737 w20 HM) | ((with_reducible refine gS 9 rfl ?_); refine pS 2 9 0 [.int .i64 ((rd_T33 t733 x31_3).f0.f0), .int .i64 ((rd_T33 t733 x31_3).f0.f1), .int .i64 ((rd_T33 t733 x31_3).f0.f2), .int .i64 ((rd_T33 t733 x31_3).f1), .int .i64 ((rd_T33 t733 x31_3).f2)] HM rfl rfl ?_; clear HM; intro w21 HM; obtain ⟨z23_0, z23_1, z23_2, z23_3, z23_4, Z23_0, Z23_1, Z23_2, Z23_3, Z23_4⟩ := bk5 (HM.bx 2 rfl)) | ((with_reducible refine gC 10 rfl ?_); refine pC (some 39) rfl #[.int .i64 ((rd_T33 t733 x31_3).f1)] rfl Try.func10 (impl_NumText.calls k3 ((rd_T33 t733 x31_3).f1) t738 _ A24.out) ?_; rintro e w25 ⟨rfl, hR⟩; refine ⟨_, rfl, ?_⟩; replace HM := HM.call hR; clear hR))
          go_roundg k3
          case measure => have := HJ3.out; have := HK2.out; have := HK3.out; omega
          case rel => exact ⟨((x7_3 ++ (⟨#[32]⟩ : ByteArray)) ++ t738), (wrap64 (x31_3 + 1)), RS, RS, H', ⟨by have := HJ3.out; have := HK2.out; have := HK3.out; omega⟩, (MD HM).pick [0, 1]⟩
         ·have c17b0 : decide (x31_3 < (t733.length : Int)) = false := decide_eq_false c17
          clear c17
          (first | rw [c17b0] | (simp only [i64_w, i32_w]; rw [c17b0]) | skip)
          replace H := GD H; obtain ⟨c27, H⟩ := H
          have c27b0 := eq_true c27
          have c27b1 : decide (x7_3.size + 1 ≤ 9223372036854775807) = true := decide_eq_true c27
          try have c27b2 : (9223372036854775807 < x7_3.size + 1) = False := eq_false (Nat.not_lt.2 c27)
          replace H := BN H; obtain ⟨t739, A28, H⟩ := H
          replace H := BN H; obtain ⟨t740, A30, H⟩ := H
          replace H := GD H; obtain ⟨c32, H⟩ := H
          have c32b0 := eq_true c32
          have c32b1 : decide (x7_3.size + 1 + t740.size ≤ 9223372036854775807) = true := decide_eq_true c32
          try have c32b2 : (9223372036854775807 < x7_3.size + 1 + t740.size) = False := eq_false (Nat.not_lt.2 c32)
          replace H := GD H; obtain ⟨c33, H⟩ := H
          have LMc33 := Aside0.mk c33
          clear c33
          have H' := Aside0.mk H
          clear H
          go_wp2_with (first | ((with_reducible refine gC 12 rfl ?_); refine pC (some 47) rfl #[.slice A0 l0.length c0, .int .i64 x6_2] rfl Try.func12 (impl_BestMisses.calls k3 _ _ l0 x6_2 t739 _ (HM.came HR0.out) HC0.out A28.out) ?_; rintro e w29 ⟨rfl, hR⟩; refine ⟨_, rfl, ?_⟩; replace HM := HM.call hR; clear hR) | ((with_reducible refine gC 10 rfl ?_); refine pC (some 48) rfl #[.int .i64 t739] rfl Try.func10 (impl_NumText.calls k3 t739 t740 _ A30.out) ?_; rintro e w31 ⟨rfl, hR⟩; refine ⟨_, rfl, ?_⟩; replace HM := HM.call hR; clear hR) | ((with_reducible refine gN 50 rfl ?_); refine pL 50 Kd.string 9 [(x7_3 ++ (⟨#[32]⟩ : ByteArray)) ++ t740] [.string ((x7_3 ++ (⟨#[32]⟩ : ByteArray)) ++ t740)] (Reps.one (show Kd.M Kd.string _ _ _ ((x7_3 ++ (⟨#[32]⟩ : ByteArray)) ++ t740) [.string ((x7_3 ++ (⟨#[32]⟩ : ByteArray)) ++ t740)] from rfl) (Reps.none _ _)) HM rfl ?_; clear HM; intro v35 w34 HM; obtain ⟨Xv35, kv35, ev35⟩ := HM.rdR 2 rfl; subst ev35) | ((with_reducible refine gate_builtin (b := .append) (xs := #[.tmp 42, .tmp 50]) rfl ?_); refine pA 0 (.tmp 42) (.tmp 50) 23 9 Kd.string u5 x5_2 [(x7_3 ++ (⟨#[32]⟩ : ByteArray)) ++ t740] Xv35 ([(x7_3 ++ (⟨#[32]⟩ : ByteArray)) ++ t740].length) kv35 HM rfl Try.underlying23 info9 rfl (HM.CR 2 rfl).2.2 (by have h_ := LMc33.out; simp only [List.length_singleton]; omega) ?_; clear HM; intro v742 w36 HM))
          go_roundg k3
          case measure => have := HJ3.out; have := HK2.out; have := HK3.out; omega
          case rel => exact ⟨((x5_2 ++ [(x7_3 ++ (⟨#[32]⟩ : ByteArray)) ++ t740])), (wrap64 (x6_2 + 1)), RS, H', ⟨by have := HJ3.out; have := HK2.out; have := HK3.out; omega⟩, (MD HM).pick [0]⟩
      ·have c11b0 : decide (x6_2 ≤ a1) = false := decide_eq_false c11
       clear c11
       (first | rw [c11b0] | (simp only [i64_w, i32_w]; rw [c11b0]) | skip)
       obtain rfl := Option.some.inj H
       go_wp2
       go_ret
       exact ⟨_, ER, (MD HM).pick [0]⟩
mutual
def laws_FnLab.j0 : Nat → List ByteArray → Int → List (S33) → Int → Bool → Option (Bool)
 | 0, _, _, _, _, _ => none
 | k + 1, x3, x4, x5, x6, x33 => if x33 = true then (none) else ((impl_NumText.f k x4).bind fun t752 => (laws_FnLab.l0 k x3 x4 x5 x6 t752 x5 (x5.length : Int) 0))
def laws_FnLab.l0 : Nat → List ByteArray → Int → List (S33) → Int → ByteArray → List (S33) → Int → Int → Option (Bool)
 | 0, _, _, _, _, _, _, _, _ => none
 | k + 1, x3, x4, x5, x6, x7, x36, x37, x38 => if x38 < x37 then (if 0 ≤ x38 then (if x38 < (x36.length : Int) then ((impl_CountOf.f k ((rd_T33 x36 x38).f0.f0) ((rd_T33 x36 x38).f0.f1) ((rd_T33 x36 x38).f0.f2) x3).bind fun bt761 => (if ((rd_T33 x36 x38).f0.f0) = (wrap64 (x38 + 1)) then (if ((rd_T33 x36 x38).f1) = bt761.2.2.1 then (if bt761.1 = (x3.length : Int) then ((impl_BestMisses.f k x3 x4).bind fun t766 => (if ((rd_T33 x36 x38).f2) = t766 then (if 0 ≤ x6 then (if x6 < (x5.length : Int) then (if ((rd_T33 x36 x38).f1) < ((rd_T33 x5 x6).f1) then (none) else (if ((rd_T33 x5 x6).f1) < ((rd_T33 x36 x38).f2) then (none) else (if x7.size + 1 ≤ 9223372036854775807 then ((impl_NumText.f k ((rd_T33 x36 x38).f1)).bind fun t769 => (if x7.size + 1 + t769.size ≤ 9223372036854775807 then (laws_FnLab.l0 k x3 x4 x5 x6 ((x7 ++ (⟨#[32]⟩ : ByteArray)) ++ t769) x36 x37 (wrap64 (x38 + 1))) else (none))) else (none)))) else (none)) else (none)) else (none))) else (none)) else (none)) else (none))) else (none)) else (none)) else ((impl_Survey.f k x3 x4).bind fun t753 => (if (t753.length : Int) = x4 then (if 0 ≤ (wrap64 (x4 - 1)) then (if (wrap64 (x4 - 1)) < (t753.length : Int) then (if x7.size + 1 ≤ 9223372036854775807 then (if 0 < (x5.length : Int) then ((impl_NumText.f k ((rd_T33 x5 0).f2)).bind fun t758 => (if x7.size + 1 + t758.size ≤ 9223372036854775807 then (some ((rdOf ByteArray.empty t753 (wrap64 (x4 - 1))).toList == ((x7 ++ (⟨#[32]⟩ : ByteArray)) ++ t758).toList)) else (none))) else (none)) else (none)) else (none)) else (none)) else (none)))
end
def laws_FnLab.f (k : Nat) (l0 : List Int) : Option (Bool) := if (l0.length : Int) > 1048576 then (some true) else ((spec_MakeAsks.f k l0 20).bind fun t744 => ((spec_MakeNum.f k l0 4).bind fun t747 => ((impl_Lab.f k t744 (wrap64 (1 + t747))).bind fun t748 => (if (t748.length : Int) = 4 then ((impl_Winner.f k t748).bind fun t751 => (if t751 < 0 then (laws_FnLab.j0 k t744 (wrap64 (1 + t747)) t748 t751 true) else (laws_FnLab.j0 k t744 (wrap64 (1 + t747)) t748 t751 (decide (t751 ≥ 4))))) else (none)))))
def laws_FnLab.T16 : Bool × List (List Nat × List Nat) := (true, [([], []), ([0], [0]), ([1], [1]), ([], []), ([3], [3]), ([2, 4], [2, 4]), ([5], [5]), ([6], [6]), ([7, 6], [6, 7]), ([6], [6]), ([9, 6], [6, 9]), ([8, 10, 6], [6, 8, 10]), ([6, 11], [6, 11]), ([12, 6], [12]), ([13], [13]), ([14, 13], [13, 14]), ([13], [13]), ([16, 13], [13, 16]), ([15, 17, 13], [13, 15, 17]), ([13, 18], [13, 18]), ([19, 13], [19]), ([20], [20]), ([21, 20], [20, 21]), ([20], [20]), ([20], [20]), ([23, 24, 20, 20], [20, 23, 24]), ([22, 25, 20], [20, 22, 25]), ([20, 26], [20, 26]), ([27, 25], [27]), ([28], [28]), ([29, 28], [28, 29]), ([28], [28]), ([28], [28]), ([31, 32, 28], [28, 31, 32]), ([33, 28], [28, 33]), ([34, 28], [28, 34]), ([30, 35, 28], [28, 30, 35]), ([28, 36], [28, 36]), ([37, 28], [37]), ([38], [38]), ([38], [38]), ([39, 40, 38], [38, 39, 40]), ([41, 38], [38, 41]), ([42, 38], [38, 42]), ([38], [38]), ([44, 38], [38, 44]), ([43, 45, 38], [38, 43, 45]), ([38, 46], [38, 46])])
def laws_FnLab.B16 : List Nat := [0, 1, 3, 0, 8, 31, 63, 127, 255, 127, 639, 2047, 4095, 8191, 16383, 32767, 16383, 81919, 262143, 524287, 1048575, 2097151, 4194303, 2097151, 2097151, 27262975, 67108863, 134217727, 268435455, 536870911, 1073741823, 536870911, 536870911, 6979321855, 15569256447, 32749125631, 68719476735, 137438953471, 274877906943, 549755813887, 549755813887, 2199023255551, 4398046511103, 8796093022207, 549755813887, 18141941858303, 70368744177663, 140737488355327]
theorem laws_FnLab.tab16 : rtab .any (opsOf Try.f3 16) = laws_FnLab.T16 := by kernel_rfl
theorem laws_FnLab.bits16 : waitsOk laws_FnLab.T16.2 laws_FnLab.B16 = true := by kernel_rfl
def laws_FnLab.T21 : Bool × List (List Nat × List Nat) := (true, [([], []), ([0], [0]), ([], []), ([1, 2], [1, 2]), ([3], [3]), ([4], [4]), ([4], [4]), ([6, 4], [4, 6]), ([5, 7, 4], [4, 5, 7]), ([8, 4], [4, 8]), ([4], [4]), ([10, 4], [4, 10]), ([4], [4]), ([12, 4], [4, 12]), ([13, 4], [4, 13]), ([14, 4], [4, 14]), ([15, 4, 4], [4, 15]), ([11, 16, 4], [4, 11, 16]), ([9, 17, 4], [4, 9, 17]), ([4, 18], [4, 18]), ([19, 16, 0, 1, 2, 3, 4, 5, 6, 7, 8, 9, 10, 11, 12, 13, 14, 15, 16, 17, 18, 19], [19])])
def laws_FnLab.B21 : List Nat := [0, 1, 0, 7, 15, 31, 31, 95, 255, 511, 31, 1055, 31, 4127, 12319, 28703, 61471, 130079, 262143, 524287, 1048575]
theorem laws_FnLab.tab21 : rtab .any (opsOf Try.f3 21) = laws_FnLab.T21 := by kernel_rfl
theorem laws_FnLab.bits21 : waitsOk laws_FnLab.T21.2 laws_FnLab.B21 = true := by kernel_rfl
set_option maxHeartbeats 8000000 in
set_option maxRecDepth 100000 in
theorem laws_FnLab.calls (k : Nat) (A0 : Option Addr) (c0 : Nat) (l0 : List Int) (r : Bool) (w : World) (hr0 : Kd.C (Kd.int .u8) w A0 l0.length l0) (hc0 : l0.length ≤ c0) (h : laws_FnLab.f k l0 = some r) :
  Calls Try.prog 3 #[.slice A0 l0.length c0] w fun e w' => e = .returned (.bool r) ∧ Below w.heap.size w w' := by
 have hu33 := Try.underlying33
 have hu31 := Try.underlying31
 have hu35 := Try.underlying35
 have HR0 := Aside0.mk hr0
 have HC0 := Aside0.mk hc0
 clear hr0 hc0
 have HM := Mem.nil w
 have H := h
 clear h
 unfold laws_FnLab.f at H
 go_enter Try.func3, Try.ntmps3
 go_upto_if 14 with (fail)
 replace H := IT H; rcases H with ⟨c2, H⟩ | ⟨c2, H⟩
 ·replace c2 : (l0.length : Int) > 1048576 := c2
  have c2b0 : decide (1048576 < (l0.length : Int)) = true := decide_eq_true c2
  have c2b1 : decide (1048576 < l0.length) = true := decide_eq_true (by omega)
  have c2b9 : decide (1048576 < l0.length) = true := decide_eq_true (by omega)
  clear c2
  (first | rw [c2b0] | rw [c2b9] | (simp only [i64_w, i32_w]; rw [c2b0]) | skip)
  obtain rfl := Option.some.inj H
  go_wp2
  go_ret
  exact ⟨ER, HM.bel⟩
 ·replace c2 : ¬ ((l0.length : Int) > 1048576) := c2
  have c2b0 : decide (1048576 < (l0.length : Int)) = false := decide_eq_false c2
  have c2b1 : decide (1048576 < l0.length) = false := decide_eq_false (by omega)
  have c2b9 : decide (1048576 < l0.length) = false := decide_eq_false (by omega)
  clear c2
  (first | rw [c2b0] | rw [c2b9] | (simp only [i64_w, i32_w]; rw [c2b0]) | skip)
  replace H := BN H; obtain ⟨t744, A3, H⟩ := H
  replace H := BN H; obtain ⟨t747, A5, H⟩ := H
  replace H := BN H; obtain ⟨t748, A7, H⟩ := H
  replace H := GD H; obtain ⟨c11, H⟩ := H
  have c11b0 : ((t748.length : Int) == 4) = true := beq_iff_eq.mpr c11
  have c11b1 : ((t748.length : Int) != 4) = false := bne_eq_false_iff_eq.mpr c11
  clear c11
  replace H := BN H; obtain ⟨t751, A12, H⟩ := H
  have HC14 := Aside0.mk H
  clear H
  go_upto_region 9 with (first | ((with_reducible refine gC 6 rfl ?_); refine pC (some 16) rfl #[.slice A0 l0.length c0, .int .i64 20] rfl Try.func6 (spec_MakeAsks.calls k _ _ l0 20 t744 _ (HM.came HR0.out) HC0.out A3.out) ?_; rintro e w4 ⟨v745, rfl, hR⟩; refine ⟨_, rfl, ?_⟩; replace HM := HM.call hR; clear hR) | ((with_reducible refine gC 7 rfl ?_); refine pC (some 18) rfl #[.slice A0 l0.length c0, .int .i64 4] rfl Try.func7 (spec_MakeNum.calls k _ _ l0 4 t747 _ (HM.came HR0.out) HC0.out A5.out) ?_; rintro e w6 ⟨rfl, hR⟩; refine ⟨_, rfl, ?_⟩; replace HM := HM.call hR; clear hR; obtain ⟨Xo9, ko9, eo9⟩ := HM.rdR 0 rfl; subst eo9) | ((with_reducible refine gC 8 rfl ?_); refine pC (some 22) rfl #[.slice Xo9 t744.length ko9, .int .i64 (wrap64 (1 + t747))] rfl Try.func8 (impl_Lab.calls k _ _ t744 (wrap64 (1 + t747)) t748 _ (HM.CR 0 rfl).2.2 (HM.CR 0 rfl).2.1 A7.out) ?_; rintro e w8 ⟨v749, rfl, hR⟩; refine ⟨_, rfl, ?_⟩; replace HM := HM.call hR; clear hR; obtain ⟨Xo10, ko10, eo10⟩ := HM.rdR 1 rfl; subst eo10) | ((with_reducible refine gC 9 rfl ?_); refine pC (some 27) rfl #[.slice Xo10 t748.length ko10] rfl Try.func9 (impl_Winner.calls k _ _ t748 t751 _ (HM.CR 1 rfl).2.2 (HM.CR 1 rfl).2.1 A12.out) ?_; rintro e w13 ⟨rfl, hR⟩; refine ⟨_, rfl, ?_⟩; replace HM := HM.call hR; clear hR))
  replace HM := nzM HM
  go_cut [33] (fun v33 wc => ∃ (kq : Nat) (x33_13 : Bool), v33 = .bool x33_13 ∧ Aside0 (laws_FnLab.j0 kq t744 (wrap64 (1 + t747)) t748 t751 x33_13 = some r) ∧ Aside0 (kq ≤ k) ∧ Mem w [] wc [rowR Kd.string 9 (.slice Xo9 t744.length ko9) t744, rowR k33 33 (.slice Xo10 t748.length ko10) t748])
  case first =>
   have H := HC14.out
   clear HC14
   replace H := IT H; rcases H with ⟨c15, H⟩ | ⟨c15, H⟩
   ·have c15b0 : decide (t751 < 0) = true := decide_eq_true c15
    clear c15
    have H' := Aside0.mk H
    clear H
    go_wp2
    go_meet
    case rel => exact ⟨_, (true), RS, H', ⟨by first | omega | exact Nat.le_refl _⟩, (MD HM).pick [0, 1]⟩
   ·have c15b0 : decide (t751 < 0) = false := decide_eq_false c15
    clear c15
    have H' := Aside0.mk H
    clear H
    go_wp2
    go_meet
    case rel => exact ⟨_, (decide (t751 ≥ 4)), RS, H', ⟨by first | omega | exact Nat.le_refl _⟩, (MD HM).pick [0, 1]⟩
  case rest =>
   clear HC14 HM
   obtain ⟨kq, x33_13, rfl, HA, HJ13, HM⟩ := hcut
   cases kq with
   | zero => exact absurd HA.out (by simp [laws_FnLab.j0])
   | succ kj13 =>
    have H := HA.out
    clear HA
    simp only [laws_FnLab.j0] at H
    replace H := GN H
    obtain ⟨c16, H⟩ := H
    replace c16 := Bool.eq_false_iff.mpr c16
    subst c16
    replace H := BN H; obtain ⟨t752, A17, H⟩ := H
    have H' := Aside0.mk H
    clear H
    go_wp2_with (first | ((with_reducible refine gC 10 rfl ?_); refine pC (some 35) rfl #[.int .i64 (wrap64 (1 + t747))] rfl Try.func10 (impl_NumText.calls kj13 (wrap64 (1 + t747)) t752 _ A17.out) ?_; rintro e w18 ⟨rfl, hR⟩; refine ⟨_, rfl, ?_⟩; replace HM := HM.call hR; clear hR))
    go_loopg [7, 38] kj13 (fun kq v7 v38 w' => ∃ (x7_2 : ByteArray) (x38_2 : Int), v7 = .string x7_2 ∧ v38 = .int .i64 x38_2 ∧ Aside0 (laws_FnLab.l0 kq t744 (wrap64 (1 + t747)) t748 t751 x7_2 t748 (t748.length : Int) x38_2 = some r) ∧ Aside0 (kq ≤ kj13) ∧ Mem w [] w' [rowR Kd.string 9 (.slice Xo9 t744.length ko9) t744, rowR k33 33 (.slice Xo10 t748.length ko10) t748])
    case atStart => exact ⟨(t752), (0), RS, RS, H', ⟨Nat.le_refl _⟩, (MD HM).pick [0, 1]⟩
    case round =>
     clear H' HM
     obtain ⟨x7_2, x38_2, rfl, rfl, HA, HK2, HM⟩ := hrel
     cases gk with
     | zero => exact absurd HA.out (by simp [laws_FnLab.l0])
     | succ k2 =>
      have H := HA.out
      clear HA
      simp only [laws_FnLab.l0] at H
      go_upto_if 39 with (fail)
      replace H := IT H; rcases H with ⟨c19, H⟩ | ⟨c19, H⟩
      ·have c19b0 : decide (x38_2 < (t748.length : Int)) = true := decide_eq_true c19
       clear c19
       (first | rw [c19b0] | (simp only [i64_w, i32_w]; rw [c19b0]) | skip)
       replace H := GD H; obtain ⟨c20, H⟩ := H
       have c20b0 : decide (0 ≤ x38_2) = true := decide_eq_true c20
       clear c20
       replace H := GD H; obtain ⟨c21, H⟩ := H
       have c21b0 : decide (x38_2 < (t748.length : Int)) = true := decide_eq_true c21
       clear c21
       replace H := BN H; obtain ⟨⟨t761, t762, t763, t764⟩, A25, H⟩ := H
       have p759 : 0 ≤ (x38_2 : Int) := of_decide_eq_true AS
       have q759 : (x38_2 : Int) < (t748.length : Int) := of_decide_eq_true AS
       obtain ⟨ad759, e759, hx759_0, hx759_1, hx759_2, hx759_3, hx759_4⟩ := at_T33 (HM.CR 1 rfl).2.2 x38_2 p759 q759
       cases e759
       replace p759 := eq_true p759
       replace q759 := eq_true q759
       try go_wp2_with (first | ((with_reducible refine gN 9 rfl ?_); refine pB 9 33 [.int .i64 0, .int .i64 0, .int .i64 0, .int .i64 0, .int .i64 0] HM rfl ?_; clear HM; intro gb760 w22 HM) | ((with_reducible refine gS 9 rfl ?_); refine pS 2 9 0 [.int .i64 ((rd_T33 t748 x38_2).f0.f0), .int .i64 ((rd_T33 t748 x38_2).f0.f1), .int .i64 ((rd_T33 t748 x38_2).f0.f2), .int .i64 ((rd_T33 t748 x38_2).f1), .int .i64 ((rd_T33 t748 x38_2).f2)] HM rfl rfl ?_; clear HM; intro w23 HM; obtain ⟨z24_0, z24_1, z24_2, z24_3, z24_4, Z24_0, Z24_1, Z24_2, Z24_3, Z24_4⟩ := bk5 (HM.bx 2 rfl)) | ((with_reducible refine gC 11 rfl ?_); refine pC (some 46) rfl #[.agg #[.int .i64 ((rd_T33 t748 x38_2).f0.f0), .int .i64 ((rd_T33 t748 x38_2).f0.f1), .int .i64 ((rd_T33 t748 x38_2).f0.f2)], .slice Xo9 t744.length ko9] rfl Try.func11 (impl_CountOf.calls k2 ((rd_T33 t748 x38_2).f0.f0) ((rd_T33 t748 x38_2).f0.f1) ((rd_T33 t748 x38_2).f0.f2) _ _ t744 t761 t762 t763 t764 _ (HM.CR 0 rfl).2.2 (HM.CR 0 rfl).2.1 A25.out) ?_; rintro e w26 ⟨rfl, hR⟩; refine ⟨_, rfl, ?_⟩; replace HM := HM.call hR; clear hR) | ((with_reducible refine gN 10 rfl ?_); refine pB 10 35 [.int .i64 0, .int .i64 0, .int .i64 0, .int .i64 0] HM rfl ?_; clear HM; intro gb765 w27 HM) | ((with_reducible refine gS 10 rfl ?_); refine pS 3 10 0 [.int .i64 t761, .int .i64 t762, .int .i64 t763, .int .i64 t764] HM rfl rfl ?_; clear HM; intro w28 HM))
       replace H := IT H; rcases H with ⟨c29, H⟩ | ⟨c29, H⟩
       ·have c29b0 : (((rd_T33 t748 x38_2).f0.f0) == (wrap64 (x38_2 + 1))) = true := beq_iff_eq.mpr c29
        have c29b1 : (((rd_T33 t748 x38_2).f0.f0) != (wrap64 (x38_2 + 1))) = false := bne_eq_false_iff_eq.mpr c29
        clear c29
        replace H := IT H; rcases H with ⟨c30, H⟩ | ⟨c30, H⟩
        ·have c30b0 : (((rd_T33 t748 x38_2).f1) == t763) = true := beq_iff_eq.mpr c30
         have c30b1 : (((rd_T33 t748 x38_2).f1) != t763) = false := bne_eq_false_iff_eq.mpr c30
         clear c30
         replace H := IT H; rcases H with ⟨c31, H⟩ | ⟨c31, H⟩
         ·have c31b0 : (t761 == (t744.length : Int)) = true := beq_iff_eq.mpr c31
          have c31b1 : (t761 != (t744.length : Int)) = false := bne_eq_false_iff_eq.mpr c31
          clear c31
          replace H := BN H; obtain ⟨t766, A32, H⟩ := H
          replace H := IT H; rcases H with ⟨c33, H⟩ | ⟨c33, H⟩
          ·have c33b0 : (((rd_T33 t748 x38_2).f2) == t766) = true := beq_iff_eq.mpr c33
           have c33b1 : (((rd_T33 t748 x38_2).f2) != t766) = false := bne_eq_false_iff_eq.mpr c33
           clear c33
           replace H := GD H; obtain ⟨c34, H⟩ := H
           have c34b0 : decide (0 ≤ t751) = true := decide_eq_true c34
           clear c34
           replace H := GD H; obtain ⟨c35, H⟩ := H
           have c35b0 : decide (t751 < (t748.length : Int)) = true := decide_eq_true c35
           clear c35
           replace H := IT H; rcases H with ⟨c36, H⟩ | ⟨c36, H⟩
           ·have c36b0 : decide (((rd_T33 t748 x38_2).f1) < ((rd_T33 t748 t751).f1)) = true := decide_eq_true c36
            clear c36
            have p767 : 0 ≤ (t751 : Int) := of_decide_eq_true AS
            have q767 : (t751 : Int) < (t748.length : Int) := of_decide_eq_true AS
            obtain ⟨ad767, e767, hx767_0, hx767_1, hx767_2, hx767_3, hx767_4⟩ := at_T33 (HM.CR 1 rfl).2.2 t751 p767 q767
            obtain rfl := Option.some.inj e767
            replace p767 := eq_true p767
            replace q767 := eq_true q767
            refine RGN 48 [0, 1, 2, 3, 4, 5, 6, 7, 8, 9, 10, 11, 12, 13, 14, 15, 16, 17, 18, 19, 20, 21, 22, 23, 24, 25, 26, 27, 28, 29, 30, 31, 32, 33, 34, 35, 36, 37, 38, 39, 40, 41, 42, 43, 44, 45, 46, 47] (fun a0 b a w' => a = putSel a0 b [(0, 47, .pointer (some ⟨gb760, 0, none⟩)), (1, 48, .pointer (some ⟨gb760, 0, none⟩)), (2, 49, .int .i64 ((rd_T33 t748 x38_2).f0.f0)), (3, 50, .int .i64 x38_2), (4, 51, .int .i64 (wrap64 (x38_2 + 1))), (5, 52, .bool (((rd_T33 t748 x38_2).f0.f0) != (wrap64 (x38_2 + 1)))), (6, 53, .bool (((rd_T33 t748 x38_2).f0.f0) != (wrap64 (x38_2 + 1)))), (7, 54, .pointer (some ⟨gb760, 3, none⟩)), (8, 55, .int .i64 ((rd_T33 t748 x38_2).f1)), (9, 56, .pointer (some ⟨gb765, 2, none⟩)), (10, 57, .int .i64 t763), (11, 58, .bool (((rd_T33 t748 x38_2).f1) != t763)), (12, 59, .bool (((rd_T33 t748 x38_2).f1) != t763)), (13, 60, .bool (((rd_T33 t748 x38_2).f1) != t763)), (14, 61, .pointer (some ⟨gb765, 0, none⟩)), (15, 62, .int .i64 t761), (16, 63, .slice Xo9 t744.length ko9), (17, 64, .int .i64 (t744.length : Int)), (18, 65, .bool (t761 != (t744.length : Int))), (19, 66, .bool (t761 != (t744.length : Int))), (20, 67, .bool (t761 != (t744.length : Int))), (21, 68, .pointer (some ⟨gb760, 4, none⟩)), (22, 69, .int .i64 ((rd_T33 t748 x38_2).f2)), (23, 70, .slice Xo9 t744.length ko9), (24, 71, .int .i64 (wrap64 (1 + t747))), (25, 72, .int .i64 t766), (26, 73, .bool (((rd_T33 t748 x38_2).f2) != t766)), (27, 74, .bool (((rd_T33 t748 x38_2).f2) != t766)), (28, 75, .bool (((rd_T33 t748 x38_2).f2) != t766)), (29, 76, .pointer (some ⟨gb760, 3, none⟩)), (30, 77, .int .i64 ((rd_T33 t748 x38_2).f1)), (31, 78, .slice (some ad759) t748.length ko10), (32, 79, .int .i64 t751), (33, 80, .pointer (some (ad759.add ((t751).toNat * 5)))), (34, 81, .pointer (some ⟨(ad759.add ((t751).toNat * 5)).block, (ad759.add ((t751).toNat * 5)).off + 3, none⟩)), (35, 82, .int .i64 ((rd_T33 t748 t751).f1)), (36, 83, .bool (decide (((rd_T33 t748 x38_2).f1) < ((rd_T33 t748 t751).f1)))), (37, 84, .bool (decide (((rd_T33 t748 x38_2).f1) < ((rd_T33 t748 t751).f1)))), (38, 85, .bool (decide (((rd_T33 t748 x38_2).f1) < ((rd_T33 t748 t751).f1)))), (39, 86, undef), (40, 87, undef), (41, 88, undef), (42, 89, undef), (43, 90, undef), (44, 91, undef), (45, 92, undef), (46, 93, undef), (47, 94, .bool true)] ∧ Mem w [] w' [rowR Kd.string 9 (.slice Xo9 t744.length ko9) t744, rowR k33 33 (.slice (some ad759) t748.length ko10) t748, box 33 gb760 [.int .i64 ((rd_T33 t748 x38_2).f0.f0), .int .i64 ((rd_T33 t748 x38_2).f0.f1), .int .i64 ((rd_T33 t748 x38_2).f0.f2), .int .i64 ((rd_T33 t748 x38_2).f1), .int .i64 ((rd_T33 t748 x38_2).f2)], box 35 gb765 [.int .i64 t761, .int .i64 t762, .int .i64 t763, .int .i64 t764]]) laws_FnLab.tab16 laws_FnLab.bits16 ?_ ?_ ?_
            ·exact ⟨PS0' rfl _, (HM.drew).pick [0, 1, 2, 3]⟩
            ·clear HM
             refine SY ?_ ?_
             ·intro b a w ha HM hb hon hoff K hK
              have e9 := PG ha 9
              exact VL (.pointer (some ⟨gb760, 0, none⟩)) (hK.out _ _ ⟨PUT ha 0 hb, HM⟩)
             refine SY ?_ ?_
             ·intro b a w ha HM hb hon hoff K hK
              have e47 := PE ha 0 hon
              exact VL (.pointer (some ⟨gb760, 0, none⟩)) (hK.out _ _ ⟨PUT ha 1 hb, HM⟩)
             refine SY ?_ ?_
             ·intro b a w ha HM hb hon hoff K hK
              obtain ⟨z44_0, z44_1, z44_2, z44_3, z44_4, Z44_0, Z44_1, Z44_2, Z44_3, Z44_4⟩ := bk5 (HM.bx 2 rfl)
              have e48 := PE ha 1 hon
              exact VL (.int .i64 ((rd_T33 t748 x38_2).f0.f0)) (hK.out _ _ ⟨PUT ha 2 hb, HM⟩)
             refine SY ?_ ?_
             ·intro b a w ha HM hb hon hoff K hK
              have e8 := PG ha 8
              exact VL (.int .i64 x38_2) (hK.out _ _ ⟨PUT ha 3 hb, HM⟩)
             refine SY ?_ ?_
             ·intro b a w ha HM hb hon hoff K hK
              have e50 := PE ha 3 hon
              exact VL (.int .i64 (wrap64 (x38_2 + 1))) (hK.out _ _ ⟨PUT ha 4 hb, HM⟩)
             refine SY ?_ ?_
             ·intro b a w ha HM hb hon hoff K hK
              have e49 := PE ha 2 hon
              have e51 := PE ha 4 hon
              exact VL (.bool (((rd_T33 t748 x38_2).f0.f0) != (wrap64 (x38_2 + 1)))) (hK.out _ _ ⟨PUT ha 5 hb, HM⟩)
             refine SY ?_ ?_
             ·intro b a w ha HM hb hon hoff K hK
              have e52 := PE ha 5 hon
              exact VL (.bool (((rd_T33 t748 x38_2).f0.f0) != (wrap64 (x38_2 + 1)))) (hK.out _ _ ⟨PUT ha 6 hb, HM⟩)
             refine SY ?_ ?_
             ·intro b a w ha HM hb hon hoff K hK
              have e9 := PG ha 9
              have e53 := PE ha 6 hon
              exact VL (.pointer (some ⟨gb760, 3, none⟩)) (hK.out _ _ ⟨PUT ha 7 hb, HM⟩) (hw := wanted_on rfl rfl rfl (e53.trans (by first | rfl | (simp [*]; done))))
             refine SY ?_ ?_
             ·intro b a w ha HM hb hon hoff K hK
              obtain ⟨z45_0, z45_1, z45_2, z45_3, z45_4, Z45_0, Z45_1, Z45_2, Z45_3, Z45_4⟩ := bk5 (HM.bx 2 rfl)
              have e54 := PE ha 7 hon
              have e53 := PE ha 6 hon
              exact VL (.int .i64 ((rd_T33 t748 x38_2).f1)) (hK.out _ _ ⟨PUT ha 8 hb, HM⟩) (hw := wanted_on rfl rfl rfl (e53.trans (by first | rfl | (simp [*]; done))))
             refine SY ?_ ?_
             ·intro b a w ha HM hb hon hoff K hK
              have e10 := PG ha 10
              have e53 := PE ha 6 hon
              exact VL (.pointer (some ⟨gb765, 2, none⟩)) (hK.out _ _ ⟨PUT ha 9 hb, HM⟩) (hw := wanted_on rfl rfl rfl (e53.trans (by first | rfl | (simp [*]; done))))
             refine SY ?_ ?_
             ·intro b a w ha HM hb hon hoff K hK
              obtain ⟨z46_0, z46_1, z46_2, z46_3, Z46_0, Z46_1, Z46_2, Z46_3⟩ := bk4 (HM.bx 3 rfl)
              have e56 := PE ha 9 hon
              have e53 := PE ha 6 hon
              exact VL (.int .i64 t763) (hK.out _ _ ⟨PUT ha 10 hb, HM⟩) (hw := wanted_on rfl rfl rfl (e53.trans (by first | rfl | (simp [*]; done))))
             refine SY ?_ ?_
             ·intro b a w ha HM hb hon hoff K hK
              have e55 := PE ha 8 hon
              have e57 := PE ha 10 hon
              have e53 := PE ha 6 hon
              exact VL (.bool (((rd_T33 t748 x38_2).f1) != t763)) (hK.out _ _ ⟨PUT ha 11 hb, HM⟩) (hw := wanted_on rfl rfl rfl (e53.trans (by first | rfl | (simp [*]; done))))
             refine SY ?_ ?_
             ·intro b a w ha HM hb hon hoff K hK
              have e53 := PE ha 6 hon
              have e58 := PE ha 11 hon
              exact VL (.bool (((rd_T33 t748 x38_2).f1) != t763)) (hK.out _ _ ⟨PUT ha 12 hb, HM⟩)
             refine SY ?_ ?_
             ·intro b a w ha HM hb hon hoff K hK
              have e59 := PE ha 12 hon
              exact VL (.bool (((rd_T33 t748 x38_2).f1) != t763)) (hK.out _ _ ⟨PUT ha 13 hb, HM⟩)
             refine SY ?_ ?_
             ·intro b a w ha HM hb hon hoff K hK
              have e10 := PG ha 10
              have e60 := PE ha 13 hon
              exact VL (.pointer (some ⟨gb765, 0, none⟩)) (hK.out _ _ ⟨PUT ha 14 hb, HM⟩) (hw := wanted_on rfl rfl rfl (e60.trans (by first | rfl | (simp [*]; done))))
             refine SY ?_ ?_
             ·intro b a w ha HM hb hon hoff K hK
              obtain ⟨z47_0, z47_1, z47_2, z47_3, Z47_0, Z47_1, Z47_2, Z47_3⟩ := bk4 (HM.bx 3 rfl)
              have e61 := PE ha 14 hon
              have e60 := PE ha 13 hon
              exact VL (.int .i64 t761) (hK.out _ _ ⟨PUT ha 15 hb, HM⟩) (hw := wanted_on rfl rfl rfl (e60.trans (by first | rfl | (simp [*]; done))))
             refine SY ?_ ?_
             ·intro b a w ha HM hb hon hoff K hK
              have e3 := PG ha 3
              have e60 := PE ha 13 hon
              exact VL (.slice Xo9 t744.length ko9) (hK.out _ _ ⟨PUT ha 16 hb, HM⟩) (hw := wanted_on rfl rfl rfl (e60.trans (by first | rfl | (simp [*]; done))))
             refine SY ?_ ?_
             ·intro b a w ha HM hb hon hoff K hK
              have e63 := PE ha 16 hon
              have e60 := PE ha 13 hon
              exact VL (.int .i64 (t744.length : Int)) (hK.out _ _ ⟨PUT ha 17 hb, HM⟩) (hw := wanted_on rfl rfl rfl (e60.trans (by first | rfl | (simp [*]; done))))
             refine SY ?_ ?_
             ·intro b a w ha HM hb hon hoff K hK
              have e62 := PE ha 15 hon
              have e64 := PE ha 17 hon
              have e60 := PE ha 13 hon
              exact VL (.bool (t761 != (t744.length : Int))) (hK.out _ _ ⟨PUT ha 18 hb, HM⟩) (hw := wanted_on rfl rfl rfl (e60.trans (by first | rfl | (simp [*]; done))))
             refine SY ?_ ?_
             ·intro b a w ha HM hb hon hoff K hK
              have e60 := PE ha 13 hon
              have e65 := PE ha 18 hon
              exact VL (.bool (t761 != (t744.length : Int))) (hK.out _ _ ⟨PUT ha 19 hb, HM⟩)
             refine SY ?_ ?_
             ·intro b a w ha HM hb hon hoff K hK
              have e66 := PE ha 19 hon
              exact VL (.bool (t761 != (t744.length : Int))) (hK.out _ _ ⟨PUT ha 20 hb, HM⟩)
             refine SY ?_ ?_
             ·intro b a w ha HM hb hon hoff K hK
              have e9 := PG ha 9
              have e67 := PE ha 20 hon
              exact VL (.pointer (some ⟨gb760, 4, none⟩)) (hK.out _ _ ⟨PUT ha 21 hb, HM⟩) (hw := wanted_on rfl rfl rfl (e67.trans (by first | rfl | (simp [*]; done))))
             refine SY ?_ ?_
             ·intro b a w ha HM hb hon hoff K hK
              obtain ⟨z48_0, z48_1, z48_2, z48_3, z48_4, Z48_0, Z48_1, Z48_2, Z48_3, Z48_4⟩ := bk5 (HM.bx 2 rfl)
              have e68 := PE ha 21 hon
              have e67 := PE ha 20 hon
              exact VL (.int .i64 ((rd_T33 t748 x38_2).f2)) (hK.out _ _ ⟨PUT ha 22 hb, HM⟩) (hw := wanted_on rfl rfl rfl (e67.trans (by first | rfl | (simp [*]; done))))
             refine SY ?_ ?_
             ·intro b a w ha HM hb hon hoff K hK
              have e3 := PG ha 3
              have e67 := PE ha 20 hon
              exact VL (.slice Xo9 t744.length ko9) (hK.out _ _ ⟨PUT ha 23 hb, HM⟩) (hw := wanted_on rfl rfl rfl (e67.trans (by first | rfl | (simp [*]; done))))
             refine SY ?_ ?_
             ·intro b a w ha HM hb hon hoff K hK
              have e4 := PG ha 4
              have e67 := PE ha 20 hon
              exact VL (.int .i64 (wrap64 (1 + t747))) (hK.out _ _ ⟨PUT ha 24 hb, HM⟩) (hw := wanted_on rfl rfl rfl (e67.trans (by first | rfl | (simp [*]; done))))
             refine SY ?_ ?_
             ·intro b a w ha HM hb hon hoff K hK
              have e70 := PE ha 23 hon
              have e71 := PE ha 24 hon
              have e67 := PE ha 20 hon
              refine ST (eC (some 72) rfl #[.slice Xo9 t744.length ko9, .int .i64 (wrap64 (1 + t747))] rfl Try.func12 (impl_BestMisses.calls k2 _ _ t744 (wrap64 (1 + t747)) t766 _ (HM.CR 0 rfl).2.2 (HM.CR 0 rfl).2.1 A32.out) ?_ (hargs := by (simp only [List.map_toArray, List.map_cons, List.map_nil, evc, eval_of e70, eval_of e71]) <;> rfl)) (hw := wanted_on rfl rfl rfl (e67.trans (by first | rfl | (simp [*]; done))))
              rintro e w49 ⟨rfl, hR⟩
              refine ⟨_, rfl, ?_⟩
              replace HM := HM.call hR
              clear hR
              exact hK.out _ _ ⟨PUT ha 25 hb, (HM).pick [0, 1, 2, 3]⟩
             refine SY ?_ ?_
             ·intro b a w ha HM hb hon hoff K hK
              have e69 := PE ha 22 hon
              have e72 := PE ha 25 hon
              have e67 := PE ha 20 hon
              exact VL (.bool (((rd_T33 t748 x38_2).f2) != t766)) (hK.out _ _ ⟨PUT ha 26 hb, HM⟩) (hw := wanted_on rfl rfl rfl (e67.trans (by first | rfl | (simp [*]; done))))
             refine SY ?_ ?_
             ·intro b a w ha HM hb hon hoff K hK
              have e67 := PE ha 20 hon
              have e73 := PE ha 26 hon
              exact VL (.bool (((rd_T33 t748 x38_2).f2) != t766)) (hK.out _ _ ⟨PUT ha 27 hb, HM⟩)
             refine SY ?_ ?_
             ·intro b a w ha HM hb hon hoff K hK
              have e74 := PE ha 27 hon
              exact VL (.bool (((rd_T33 t748 x38_2).f2) != t766)) (hK.out _ _ ⟨PUT ha 28 hb, HM⟩)
             refine SY ?_ ?_
             ·intro b a w ha HM hb hon hoff K hK
              have e9 := PG ha 9
              have e75 := PE ha 28 hon
              exact VL (.pointer (some ⟨gb760, 3, none⟩)) (hK.out _ _ ⟨PUT ha 29 hb, HM⟩) (hw := wanted_on rfl rfl rfl (e75.trans (by first | rfl | (simp [*]; done))))
             refine SY ?_ ?_
             ·intro b a w ha HM hb hon hoff K hK
              obtain ⟨z50_0, z50_1, z50_2, z50_3, z50_4, Z50_0, Z50_1, Z50_2, Z50_3, Z50_4⟩ := bk5 (HM.bx 2 rfl)
              have e76 := PE ha 29 hon
              have e75 := PE ha 28 hon
              exact VL (.int .i64 ((rd_T33 t748 x38_2).f1)) (hK.out _ _ ⟨PUT ha 30 hb, HM⟩) (hw := wanted_on rfl rfl rfl (e75.trans (by first | rfl | (simp [*]; done))))
             refine SY ?_ ?_
             ·intro b a w ha HM hb hon hoff K hK
              have e5 := PG ha 5
              have e75 := PE ha 28 hon
              exact VL (.slice (some ad759) t748.length ko10) (hK.out _ _ ⟨PUT ha 31 hb, HM⟩) (hw := wanted_on rfl rfl rfl (e75.trans (by first | rfl | (simp [*]; done))))
             refine SY ?_ ?_
             ·intro b a w ha HM hb hon hoff K hK
              have e6 := PG ha 6
              have e75 := PE ha 28 hon
              exact VL (.int .i64 t751) (hK.out _ _ ⟨PUT ha 32 hb, HM⟩) (hw := wanted_on rfl rfl rfl (e75.trans (by first | rfl | (simp [*]; done))))
             refine SY ?_ ?_
             ·intro b a w ha HM hb hon hoff K hK
              have p767 : 0 ≤ (t751 : Int) := of_decide_eq_true AS
              have q767 : (t751 : Int) < (t748.length : Int) := of_decide_eq_true AS
              obtain ⟨ad767, e767, hx767_0, hx767_1, hx767_2, hx767_3, hx767_4⟩ := at_T33 (HM.CR 1 rfl).2.2 t751 p767 q767
              obtain rfl := Option.some.inj e767
              replace p767 := eq_true p767
              replace q767 := eq_true q767
              have e78 := PE ha 31 hon
              have e79 := PE ha 32 hon
              have e75 := PE ha 28 hon
              exact VL (.pointer (some (ad759.add ((t751).toNat * 5)))) (hK.out _ _ ⟨PUT ha 33 hb, HM⟩) (hw := wanted_on rfl rfl rfl (e75.trans (by first | rfl | (simp [*]; done))))
             refine SY ?_ ?_
             ·intro b a w ha HM hb hon hoff K hK
              have e80 := PE ha 33 hon
              have e75 := PE ha 28 hon
              exact VL (.pointer (some ⟨(ad759.add ((t751).toNat * 5)).block, (ad759.add ((t751).toNat * 5)).off + 3, none⟩)) (hK.out _ _ ⟨PUT ha 34 hb, HM⟩) (hw := wanted_on rfl rfl rfl (e75.trans (by first | rfl | (simp [*]; done))))
             refine SY ?_ ?_
             ·intro b a w ha HM hb hon hoff K hK
              have p767 : 0 ≤ (t751 : Int) := of_decide_eq_true AS
              have q767 : (t751 : Int) < (t748.length : Int) := of_decide_eq_true AS
              obtain ⟨ad767, e767, hx767_0, hx767_1, hx767_2, hx767_3, hx767_4⟩ := at_T33 (HM.CR 1 rfl).2.2 t751 p767 q767
              obtain rfl := Option.some.inj e767
              replace p767 := eq_true p767
              replace q767 := eq_true q767
              have e81 := PE ha 34 hon
              have e75 := PE ha 28 hon
              exact VL (.int .i64 ((rd_T33 t748 t751).f1)) (hK.out _ _ ⟨PUT ha 35 hb, HM⟩) (hw := wanted_on rfl rfl rfl (e75.trans (by first | rfl | (simp [*]; done))))
             refine SY ?_ ?_
             ·intro b a w ha HM hb hon hoff K hK
              have e77 := PE ha 30 hon
              have e82 := PE ha 35 hon
              have e75 := PE ha 28 hon
              exact VL (.bool (decide (((rd_T33 t748 x38_2).f1) < ((rd_T33 t748 t751).f1)))) (hK.out _ _ ⟨PUT ha 36 hb, HM⟩) (hw := wanted_on rfl rfl rfl (e75.trans (by first | rfl | (simp [*]; done))))
             refine SY ?_ ?_
             ·intro b a w ha HM hb hon hoff K hK
              have e75 := PE ha 28 hon
              have e83 := PE ha 36 hon
              exact VL (.bool (decide (((rd_T33 t748 x38_2).f1) < ((rd_T33 t748 t751).f1)))) (hK.out _ _ ⟨PUT ha 37 hb, HM⟩)
             refine SY ?_ ?_
             ·intro b a w ha HM hb hon hoff K hK
              have e84 := PE ha 37 hon
              exact VL (.bool (decide (((rd_T33 t748 x38_2).f1) < ((rd_T33 t748 t751).f1)))) (hK.out _ _ ⟨PUT ha 38 hb, HM⟩)
             refine SY ?_ ?_
             ·intro b a w ha HM hb hon hoff K hK
              have e85 := PE ha 38 hon
              exact VN ( wanted_off rfl rfl rfl (e85.trans (by first | rfl | (simp [*]; done)))) (hK.out _ _ ⟨PUT ha 39 hb, HM⟩)
             refine SY ?_ ?_
             ·intro b a w ha HM hb hon hoff K hK
              have e85 := PE ha 38 hon
              exact VN ( wanted_off rfl rfl rfl (e85.trans (by first | rfl | (simp [*]; done)))) (hK.out _ _ ⟨PUT ha 40 hb, HM⟩)
             refine SY ?_ ?_
             ·intro b a w ha HM hb hon hoff K hK
              have e85 := PE ha 38 hon
              exact VN ( wanted_off rfl rfl rfl (e85.trans (by first | rfl | (simp [*]; done)))) (hK.out _ _ ⟨PUT ha 41 hb, HM⟩)
             refine SY ?_ ?_
             ·intro b a w ha HM hb hon hoff K hK
              have e85 := PE ha 38 hon
              exact VN ( wanted_off rfl rfl rfl (e85.trans (by first | rfl | (simp [*]; done)))) (hK.out _ _ ⟨PUT ha 42 hb, HM⟩)
             refine SY ?_ ?_
             ·intro b a w ha HM hb hon hoff K hK
              have e85 := PE ha 38 hon
              exact VN ( wanted_off rfl rfl rfl (e85.trans (by first | rfl | (simp [*]; done)))) (hK.out _ _ ⟨PUT ha 43 hb, HM⟩)
             refine SY ?_ ?_
             ·intro b a w ha HM hb hon hoff K hK
              have e85 := PE ha 38 hon
              exact VN ( wanted_off rfl rfl rfl (e85.trans (by first | rfl | (simp [*]; done)))) (hK.out _ _ ⟨PUT ha 44 hb, HM⟩)
             refine SY ?_ ?_
             ·intro b a w ha HM hb hon hoff K hK
              have e85 := PE ha 38 hon
              exact VN ( wanted_off rfl rfl rfl (e85.trans (by first | rfl | (simp [*]; done)))) (hK.out _ _ ⟨PUT ha 45 hb, HM⟩)
             refine SY ?_ ?_
             ·intro b a w ha HM hb hon hoff K hK
              have e85 := PE ha 38 hon
              exact VN ( wanted_off rfl rfl rfl (e85.trans (by first | rfl | (simp [*]; done)))) (hK.out _ _ ⟨PUT ha 46 hb, HM⟩)
             refine SY ?_ ?_
             ·intro b a w ha HM hb hon hoff K hK
              have e85 := PE ha 38 hon
              have e93 := PE ha 46 hon
              exact VL (.bool true) (hK.out _ _ ⟨PUT ha 47 hb, HM⟩)
             exact steps_nil
            rintro _ w51 ⟨rfl, HM⟩
            simp only [putSel, if_true, Act.put, List.setIfInBounds_toArray, List.set_cons_zero, List.set_cons_succ, gt_iff_lt, ge_iff_le]
            exact absurd H (by simp)
           ·have c36b0 : decide (((rd_T33 t748 x38_2).f1) < ((rd_T33 t748 t751).f1)) = false := decide_eq_false c36
            clear c36
            have p767 : 0 ≤ (t751 : Int) := of_decide_eq_true AS
            have q767 : (t751 : Int) < (t748.length : Int) := of_decide_eq_true AS
            obtain ⟨ad767, e767, hx767_0, hx767_1, hx767_2, hx767_3, hx767_4⟩ := at_T33 (HM.CR 1 rfl).2.2 t751 p767 q767
            obtain rfl := Option.some.inj e767
            replace p767 := eq_true p767
            replace q767 := eq_true q767
            have p768 : 0 ≤ (t751 : Int) := of_decide_eq_true AS
            have q768 : (t751 : Int) < (t748.length : Int) := of_decide_eq_true AS
            obtain ⟨ad768, e768, hx768_0, hx768_1, hx768_2, hx768_3, hx768_4⟩ := at_T33 (HM.CR 1 rfl).2.2 t751 p768 q768
            obtain rfl := Option.some.inj e768
            replace p768 := eq_true p768
            replace q768 := eq_true q768
            refine RGN 48 [0, 1, 2, 3, 4, 5, 6, 7, 8, 9, 10, 11, 12, 13, 14, 15, 16, 17, 18, 19, 20, 21, 22, 23, 24, 25, 26, 27, 28, 29, 30, 31, 32, 33, 34, 35, 36, 37, 38, 39, 40, 41, 42, 43, 44, 45, 46, 47] (fun a0 b a w' => a = putSel a0 b [(0, 47, .pointer (some ⟨gb760, 0, none⟩)), (1, 48, .pointer (some ⟨gb760, 0, none⟩)), (2, 49, .int .i64 ((rd_T33 t748 x38_2).f0.f0)), (3, 50, .int .i64 x38_2), (4, 51, .int .i64 (wrap64 (x38_2 + 1))), (5, 52, .bool (((rd_T33 t748 x38_2).f0.f0) != (wrap64 (x38_2 + 1)))), (6, 53, .bool (((rd_T33 t748 x38_2).f0.f0) != (wrap64 (x38_2 + 1)))), (7, 54, .pointer (some ⟨gb760, 3, none⟩)), (8, 55, .int .i64 ((rd_T33 t748 x38_2).f1)), (9, 56, .pointer (some ⟨gb765, 2, none⟩)), (10, 57, .int .i64 t763), (11, 58, .bool (((rd_T33 t748 x38_2).f1) != t763)), (12, 59, .bool (((rd_T33 t748 x38_2).f1) != t763)), (13, 60, .bool (((rd_T33 t748 x38_2).f1) != t763)), (14, 61, .pointer (some ⟨gb765, 0, none⟩)), (15, 62, .int .i64 t761), (16, 63, .slice Xo9 t744.length ko9), (17, 64, .int .i64 (t744.length : Int)), (18, 65, .bool (t761 != (t744.length : Int))), (19, 66, .bool (t761 != (t744.length : Int))), (20, 67, .bool (t761 != (t744.length : Int))), (21, 68, .pointer (some ⟨gb760, 4, none⟩)), (22, 69, .int .i64 ((rd_T33 t748 x38_2).f2)), (23, 70, .slice Xo9 t744.length ko9), (24, 71, .int .i64 (wrap64 (1 + t747))), (25, 72, .int .i64 t766), (26, 73, .bool (((rd_T33 t748 x38_2).f2) != t766)), (27, 74, .bool (((rd_T33 t748 x38_2).f2) != t766)), (28, 75, .bool (((rd_T33 t748 x38_2).f2) != t766)), (29, 76, .pointer (some ⟨gb760, 3, none⟩)), (30, 77, .int .i64 ((rd_T33 t748 x38_2).f1)), (31, 78, .slice (some ad759) t748.length ko10), (32, 79, .int .i64 t751), (33, 80, .pointer (some (ad759.add ((t751).toNat * 5)))), (34, 81, .pointer (some ⟨(ad759.add ((t751).toNat * 5)).block, (ad759.add ((t751).toNat * 5)).off + 3, none⟩)), (35, 82, .int .i64 ((rd_T33 t748 t751).f1)), (36, 83, .bool (decide (((rd_T33 t748 x38_2).f1) < ((rd_T33 t748 t751).f1)))), (37, 84, .bool (decide (((rd_T33 t748 x38_2).f1) < ((rd_T33 t748 t751).f1)))), (38, 85, .bool (decide (((rd_T33 t748 x38_2).f1) < ((rd_T33 t748 t751).f1)))), (39, 86, .slice (some ad759) t748.length ko10), (40, 87, .int .i64 t751), (41, 88, .pointer (some (ad759.add ((t751).toNat * 5)))), (42, 89, .pointer (some ⟨(ad759.add ((t751).toNat * 5)).block, (ad759.add ((t751).toNat * 5)).off + 3, none⟩)), (43, 90, .int .i64 ((rd_T33 t748 t751).f1)), (44, 91, .pointer (some ⟨gb760, 4, none⟩)), (45, 92, .int .i64 ((rd_T33 t748 x38_2).f2)), (46, 93, .bool (decide (((rd_T33 t748 t751).f1) < ((rd_T33 t748 x38_2).f2)))), (47, 94, .bool (decide (((rd_T33 t748 t751).f1) < ((rd_T33 t748 x38_2).f2))))] ∧ Mem w [] w' [rowR Kd.string 9 (.slice Xo9 t744.length ko9) t744, rowR k33 33 (.slice (some ad759) t748.length ko10) t748, box 33 gb760 [.int .i64 ((rd_T33 t748 x38_2).f0.f0), .int .i64 ((rd_T33 t748 x38_2).f0.f1), .int .i64 ((rd_T33 t748 x38_2).f0.f2), .int .i64 ((rd_T33 t748 x38_2).f1), .int .i64 ((rd_T33 t748 x38_2).f2)], box 35 gb765 [.int .i64 t761, .int .i64 t762, .int .i64 t763, .int .i64 t764]]) laws_FnLab.tab16 laws_FnLab.bits16 ?_ ?_ ?_
            ·exact ⟨PS0' rfl _, (HM.drew).pick [0, 1, 2, 3]⟩
            ·clear HM
             refine SY ?_ ?_
             ·intro b a w ha HM hb hon hoff K hK
              have e9 := PG ha 9
              exact VL (.pointer (some ⟨gb760, 0, none⟩)) (hK.out _ _ ⟨PUT ha 0 hb, HM⟩)
             refine SY ?_ ?_
             ·intro b a w ha HM hb hon hoff K hK
              have e47 := PE ha 0 hon
              exact VL (.pointer (some ⟨gb760, 0, none⟩)) (hK.out _ _ ⟨PUT ha 1 hb, HM⟩)
             refine SY ?_ ?_
             ·intro b a w ha HM hb hon hoff K hK
              obtain ⟨z60_0, z60_1, z60_2, z60_3, z60_4, Z60_0, Z60_1, Z60_2, Z60_3, Z60_4⟩ := bk5 (HM.bx 2 rfl)
              have e48 := PE ha 1 hon
              exact VL (.int .i64 ((rd_T33 t748 x38_2).f0.f0)) (hK.out _ _ ⟨PUT ha 2 hb, HM⟩)
             refine SY ?_ ?_
             ·intro b a w ha HM hb hon hoff K hK
              have e8 := PG ha 8
              exact VL (.int .i64 x38_2) (hK.out _ _ ⟨PUT ha 3 hb, HM⟩)
             refine SY ?_ ?_
             ·intro b a w ha HM hb hon hoff K hK
              have e50 := PE ha 3 hon
              exact VL (.int .i64 (wrap64 (x38_2 + 1))) (hK.out _ _ ⟨PUT ha 4 hb, HM⟩)
             refine SY ?_ ?_
             ·intro b a w ha HM hb hon hoff K hK
              have e49 := PE ha 2 hon
              have e51 := PE ha 4 hon
              exact VL (.bool (((rd_T33 t748 x38_2).f0.f0) != (wrap64 (x38_2 + 1)))) (hK.out _ _ ⟨PUT ha 5 hb, HM⟩)
             refine SY ?_ ?_
             ·intro b a w ha HM hb hon hoff K hK
              have e52 := PE ha 5 hon
              exact VL (.bool (((rd_T33 t748 x38_2).f0.f0) != (wrap64 (x38_2 + 1)))) (hK.out _ _ ⟨PUT ha 6 hb, HM⟩)
             refine SY ?_ ?_
             ·intro b a w ha HM hb hon hoff K hK
              have e9 := PG ha 9
              have e53 := PE ha 6 hon
              exact VL (.pointer (some ⟨gb760, 3, none⟩)) (hK.out _ _ ⟨PUT ha 7 hb, HM⟩) (hw := wanted_on rfl rfl rfl (e53.trans (by first | rfl | (simp [*]; done))))
             refine SY ?_ ?_
             ·intro b a w ha HM hb hon hoff K hK
              obtain ⟨z61_0, z61_1, z61_2, z61_3, z61_4, Z61_0, Z61_1, Z61_2, Z61_3, Z61_4⟩ := bk5 (HM.bx 2 rfl)
              have e54 := PE ha 7 hon
              have e53 := PE ha 6 hon
              exact VL (.int .i64 ((rd_T33 t748 x38_2).f1)) (hK.out _ _ ⟨PUT ha 8 hb, HM⟩) (hw := wanted_on rfl rfl rfl (e53.trans (by first | rfl | (simp [*]; done))))
             refine SY ?_ ?_
             ·intro b a w ha HM hb hon hoff K hK
              have e10 := PG ha 10
              have e53 := PE ha 6 hon
              exact VL (.pointer (some ⟨gb765, 2, none⟩)) (hK.out _ _ ⟨PUT ha 9 hb, HM⟩) (hw := wanted_on rfl rfl rfl (e53.trans (by first | rfl | (simp [*]; done))))
             refine SY ?_ ?_
             ·intro b a w ha HM hb hon hoff K hK
              obtain ⟨z62_0, z62_1, z62_2, z62_3, Z62_0, Z62_1, Z62_2, Z62_3⟩ := bk4 (HM.bx 3 rfl)
              have e56 := PE ha 9 hon
              have e53 := PE ha 6 hon
              exact VL (.int .i64 t763) (hK.out _ _ ⟨PUT ha 10 hb, HM⟩) (hw := wanted_on rfl rfl rfl (e53.trans (by first | rfl | (simp [*]; done))))
             refine SY ?_ ?_
             ·intro b a w ha HM hb hon hoff K hK
              have e55 := PE ha 8 hon
              have e57 := PE ha 10 hon
              have e53 := PE ha 6 hon
              exact VL (.bool (((rd_T33 t748 x38_2).f1) != t763)) (hK.out _ _ ⟨PUT ha 11 hb, HM⟩) (hw := wanted_on rfl rfl rfl (e53.trans (by first | rfl | (simp [*]; done))))
             refine SY ?_ ?_
             ·intro b a w ha HM hb hon hoff K hK
              have e53 := PE ha 6 hon
              have e58 := PE ha 11 hon
              exact VL (.bool (((rd_T33 t748 x38_2).f1) != t763)) (hK.out _ _ ⟨PUT ha 12 hb, HM⟩)
             refine SY ?_ ?_
             ·intro b a w ha HM hb hon hoff K hK
              have e59 := PE ha 12 hon
              exact VL (.bool (((rd_T33 t748 x38_2).f1) != t763)) (hK.out _ _ ⟨PUT ha 13 hb, HM⟩)
             refine SY ?_ ?_
             ·intro b a w ha HM hb hon hoff K hK
              have e10 := PG ha 10
              have e60 := PE ha 13 hon
              exact VL (.pointer (some ⟨gb765, 0, none⟩)) (hK.out _ _ ⟨PUT ha 14 hb, HM⟩) (hw := wanted_on rfl rfl rfl (e60.trans (by first | rfl | (simp [*]; done))))
             refine SY ?_ ?_
             ·intro b a w ha HM hb hon hoff K hK
              obtain ⟨z63_0, z63_1, z63_2, z63_3, Z63_0, Z63_1, Z63_2, Z63_3⟩ := bk4 (HM.bx 3 rfl)
              have e61 := PE ha 14 hon
              have e60 := PE ha 13 hon
              exact VL (.int .i64 t761) (hK.out _ _ ⟨PUT ha 15 hb, HM⟩) (hw := wanted_on rfl rfl rfl (e60.trans (by first | rfl | (simp [*]; done))))
             refine SY ?_ ?_
             ·intro b a w ha HM hb hon hoff K hK
              have e3 := PG ha 3
              have e60 := PE ha 13 hon
              exact VL (.slice Xo9 t744.length ko9) (hK.out _ _ ⟨PUT ha 16 hb, HM⟩) (hw := wanted_on rfl rfl rfl (e60.trans (by first | rfl | (simp [*]; done))))
             refine SY ?_ ?_
             ·intro b a w ha HM hb hon hoff K hK
              have e63 := PE ha 16 hon
              have e60 := PE ha 13 hon
              exact VL (.int .i64 (t744.length : Int)) (hK.out _ _ ⟨PUT ha 17 hb, HM⟩) (hw := wanted_on rfl rfl rfl (e60.trans (by first | rfl | (simp [*]; done))))
             refine SY ?_ ?_
             ·intro b a w ha HM hb hon hoff K hK
              have e62 := PE ha 15 hon
              have e64 := PE ha 17 hon
              have e60 := PE ha 13 hon
              exact VL (.bool (t761 != (t744.length : Int))) (hK.out _ _ ⟨PUT ha 18 hb, HM⟩) (hw := wanted_on rfl rfl rfl (e60.trans (by first | rfl | (simp [*]; done))))
             refine SY ?_ ?_
             ·intro b a w ha HM hb hon hoff K hK
              have e60 := PE ha 13 hon
              have e65 := PE ha 18 hon
              exact VL (.bool (t761 != (t744.length : Int))) (hK.out _ _ ⟨PUT ha 19 hb, HM⟩)
             refine SY ?_ ?_
             ·intro b a w ha HM hb hon hoff K hK
              have e66 := PE ha 19 hon
              exact VL (.bool (t761 != (t744.length : Int))) (hK.out _ _ ⟨PUT ha 20 hb, HM⟩)
             refine SY ?_ ?_
             ·intro b a w ha HM hb hon hoff K hK
              have e9 := PG ha 9
              have e67 := PE ha 20 hon
              exact VL (.pointer (some ⟨gb760, 4, none⟩)) (hK.out _ _ ⟨PUT ha 21 hb, HM⟩) (hw := wanted_on rfl rfl rfl (e67.trans (by first | rfl | (simp [*]; done))))
             refine SY ?_ ?_
             ·intro b a w ha HM hb hon hoff K hK
              obtain ⟨z64_0, z64_1, z64_2, z64_3, z64_4, Z64_0, Z64_1, Z64_2, Z64_3, Z64_4⟩ := bk5 (HM.bx 2 rfl)
              have e68 := PE ha 21 hon
              have e67 := PE ha 20 hon
              exact VL (.int .i64 ((rd_T33 t748 x38_2).f2)) (hK.out _ _ ⟨PUT ha 22 hb, HM⟩) (hw := wanted_on rfl rfl rfl (e67.trans (by first | rfl | (simp [*]; done))))
             refine SY ?_ ?_
             ·intro b a w ha HM hb hon hoff K hK
              have e3 := PG ha 3
              have e67 := PE ha 20 hon
              exact VL (.slice Xo9 t744.length ko9) (hK.out _ _ ⟨PUT ha 23 hb, HM⟩) (hw := wanted_on rfl rfl rfl (e67.trans (by first | rfl | (simp [*]; done))))
             refine SY ?_ ?_
             ·intro b a w ha HM hb hon hoff K hK
              have e4 := PG ha 4
              have e67 := PE ha 20 hon
              exact VL (.int .i64 (wrap64 (1 + t747))) (hK.out _ _ ⟨PUT ha 24 hb, HM⟩) (hw := wanted_on rfl rfl rfl (e67.trans (by first | rfl | (simp [*]; done))))
             refine SY ?_ ?_
             ·intro b a w ha HM hb hon hoff K hK
              have e70 := PE ha 23 hon
              have e71 := PE ha 24 hon
              have e67 := PE ha 20 hon
              refine ST (eC (some 72) rfl #[.slice Xo9 t744.length ko9, .int .i64 (wrap64 (1 + t747))] rfl Try.func12 (impl_BestMisses.calls k2 _ _ t744 (wrap64 (1 + t747)) t766 _ (HM.CR 0 rfl).2.2 (HM.CR 0 rfl).2.1 A32.out) ?_ (hargs := by (simp only [List.map_toArray, List.map_cons, List.map_nil, evc, eval_of e70, eval_of e71]) <;> rfl)) (hw := wanted_on rfl rfl rfl (e67.trans (by first | rfl | (simp [*]; done))))
              rintro e w65 ⟨rfl, hR⟩
              refine ⟨_, rfl, ?_⟩
              replace HM := HM.call hR
              clear hR
              exact hK.out _ _ ⟨PUT ha 25 hb, (HM).pick [0, 1, 2, 3]⟩
             refine SY ?_ ?_
             ·intro b a w ha HM hb hon hoff K hK
              have e69 := PE ha 22 hon
              have e72 := PE ha 25 hon
              have e67 := PE ha 20 hon
              exact VL (.bool (((rd_T33 t748 x38_2).f2) != t766)) (hK.out _ _ ⟨PUT ha 26 hb, HM⟩) (hw := wanted_on rfl rfl rfl (e67.trans (by first | rfl | (simp [*]; done))))
             refine SY ?_ ?_
             ·intro b a w ha HM hb hon hoff K hK
              have e67 := PE ha 20 hon
              have e73 := PE ha 26 hon
              exact VL (.bool (((rd_T33 t748 x38_2).f2) != t766)) (hK.out _ _ ⟨PUT ha 27 hb, HM⟩)
             refine SY ?_ ?_
             ·intro b a w ha HM hb hon hoff K hK
              have e74 := PE ha 27 hon
              exact VL (.bool (((rd_T33 t748 x38_2).f2) != t766)) (hK.out _ _ ⟨PUT ha 28 hb, HM⟩)
             refine SY ?_ ?_
             ·intro b a w ha HM hb hon hoff K hK
              have e9 := PG ha 9
              have e75 := PE ha 28 hon
              exact VL (.pointer (some ⟨gb760, 3, none⟩)) (hK.out _ _ ⟨PUT ha 29 hb, HM⟩) (hw := wanted_on rfl rfl rfl (e75.trans (by first | rfl | (simp [*]; done))))
             refine SY ?_ ?_
             ·intro b a w ha HM hb hon hoff K hK
              obtain ⟨z66_0, z66_1, z66_2, z66_3, z66_4, Z66_0, Z66_1, Z66_2, Z66_3, Z66_4⟩ := bk5 (HM.bx 2 rfl)
              have e76 := PE ha 29 hon
              have e75 := PE ha 28 hon
              exact VL (.int .i64 ((rd_T33 t748 x38_2).f1)) (hK.out _ _ ⟨PUT ha 30 hb, HM⟩) (hw := wanted_on rfl rfl rfl (e75.trans (by first | rfl | (simp [*]; done))))
             refine SY ?_ ?_
             ·intro b a w ha HM hb hon hoff K hK
              have e5 := PG ha 5
              have e75 := PE ha 28 hon
              exact VL (.slice (some ad759) t748.length ko10) (hK.out _ _ ⟨PUT ha 31 hb, HM⟩) (hw := wanted_on rfl rfl rfl (e75.trans (by first | rfl | (simp [*]; done))))
             refine SY ?_ ?_
             ·intro b a w ha HM hb hon hoff K hK
              have e6 := PG ha 6
              have e75 := PE ha 28 hon
              exact VL (.int .i64 t751) (hK.out _ _ ⟨PUT ha 32 hb, HM⟩) (hw := wanted_on rfl rfl rfl (e75.trans (by first | rfl | (simp [*]; done))))
             refine SY ?_ ?_
             ·intro b a w ha HM hb hon hoff K hK
              have p767 : 0 ≤ (t751 : Int) := of_decide_eq_true AS
              have q767 : (t751 : Int) < (t748.length : Int) := of_decide_eq_true AS
              obtain ⟨ad767, e767, hx767_0, hx767_1, hx767_2, hx767_3, hx767_4⟩ := at_T33 (HM.CR 1 rfl).2.2 t751 p767 q767
              obtain rfl := Option.some.inj e767
              replace p767 := eq_true p767
              replace q767 := eq_true q767
              have e78 := PE ha 31 hon
              have e79 := PE ha 32 hon
              have e75 := PE ha 28 hon
              exact VL (.pointer (some (ad759.add ((t751).toNat * 5)))) (hK.out _ _ ⟨PUT ha 33 hb, HM⟩) (hw := wanted_on rfl rfl rfl (e75.trans (by first | rfl | (simp [*]; done))))
             refine SY ?_ ?_
             ·intro b a w ha HM hb hon hoff K hK
              have e80 := PE ha 33 hon
              have e75 := PE ha 28 hon
              exact VL (.pointer (some ⟨(ad759.add ((t751).toNat * 5)).block, (ad759.add ((t751).toNat * 5)).off + 3, none⟩)) (hK.out _ _ ⟨PUT ha 34 hb, HM⟩) (hw := wanted_on rfl rfl rfl (e75.trans (by first | rfl | (simp [*]; done))))
             refine SY ?_ ?_
             ·intro b a w ha HM hb hon hoff K hK
              have p767 : 0 ≤ (t751 : Int) := of_decide_eq_true AS
              have q767 : (t751 : Int) < (t748.length : Int) := of_decide_eq_true AS
              obtain ⟨ad767, e767, hx767_0, hx767_1, hx767_2, hx767_3, hx767_4⟩ := at_T33 (HM.CR 1 rfl).2.2 t751 p767 q767
              obtain rfl := Option.some.inj e767
              replace p767 := eq_true p767
              replace q767 := eq_true q767
              have e81 := PE ha 34 hon
              have e75 := PE ha 28 hon
              exact VL (.int .i64 ((rd_T33 t748 t751).f1)) (hK.out _ _ ⟨PUT ha 35 hb, HM⟩) (hw := wanted_on rfl rfl rfl (e75.trans (by first | rfl | (simp [*]; done))))
             refine SY ?_ ?_
             ·intro b a w ha HM hb hon hoff K hK
              have e77 := PE ha 30 hon
              have e82 := PE ha 35 hon
              have e75 := PE ha 28 hon
              exact VL (.bool (decide (((rd_T33 t748 x38_2).f1) < ((rd_T33 t748 t751).f1)))) (hK.out _ _ ⟨PUT ha 36 hb, HM⟩) (hw := wanted_on rfl rfl rfl (e75.trans (by first | rfl | (simp [*]; done))))
             refine SY ?_ ?_
             ·intro b a w ha HM hb hon hoff K hK
              have e75 := PE ha 28 hon
              have e83 := PE ha 36 hon
              exact VL (.bool (decide (((rd_T33 t748 x38_2).f1) < ((rd_T33 t748 t751).f1)))) (hK.out _ _ ⟨PUT ha 37 hb, HM⟩)
             refine SY ?_ ?_
             ·intro b a w ha HM hb hon hoff K hK
              have e84 := PE ha 37 hon
              exact VL (.bool (decide (((rd_T33 t748 x38_2).f1) < ((rd_T33 t748 t751).f1)))) (hK.out _ _ ⟨PUT ha 38 hb, HM⟩)
             refine SY ?_ ?_
             ·intro b a w ha HM hb hon hoff K hK
              have e5 := PG ha 5
              have e85 := PE ha 38 hon
              exact VL (.slice (some ad759) t748.length ko10) (hK.out _ _ ⟨PUT ha 39 hb, HM⟩) (hw := wanted_on rfl rfl rfl (e85.trans (by first | rfl | (simp [*]; done))))
             refine SY ?_ ?_
             ·intro b a w ha HM hb hon hoff K hK
              have e6 := PG ha 6
              have e85 := PE ha 38 hon
              exact VL (.int .i64 t751) (hK.out _ _ ⟨PUT ha 40 hb, HM⟩) (hw := wanted_on rfl rfl rfl (e85.trans (by first | rfl | (simp [*]; done))))
             refine SY ?_ ?_
             ·intro b a w ha HM hb hon hoff K hK
              have p768 : 0 ≤ (t751 : Int) := of_decide_eq_true AS
              have q768 : (t751 : Int) < (t748.length : Int) := of_decide_eq_true AS
              obtain ⟨ad768, e768, hx768_0, hx768_1, hx768_2, hx768_3, hx768_4⟩ := at_T33 (HM.CR 1 rfl).2.2 t751 p768 q768
              obtain rfl := Option.some.inj e768
              replace p768 := eq_true p768
              replace q768 := eq_true q768
              have e86 := PE ha 39 hon
              have e87 := PE ha 40 hon
              have e85 := PE ha 38 hon
              exact VL (.pointer (some (ad759.add ((t751).toNat * 5)))) (hK.out _ _ ⟨PUT ha 41 hb, HM⟩) (hw := wanted_on rfl rfl rfl (e85.trans (by first | rfl | (simp [*]; done))))
             refine SY ?_ ?_
             ·intro b a w ha HM hb hon hoff K hK
              have e88 := PE ha 41 hon
              have e85 := PE ha 38 hon
              exact VL (.pointer (some ⟨(ad759.add ((t751).toNat * 5)).block, (ad759.add ((t751).toNat * 5)).off + 3, none⟩)) (hK.out _ _ ⟨PUT ha 42 hb, HM⟩) (hw := wanted_on rfl rfl rfl (e85.trans (by first | rfl | (simp [*]; done))))
             refine SY ?_ ?_
             ·intro b a w ha HM hb hon hoff K hK
              have p768 : 0 ≤ (t751 : Int) := of_decide_eq_true AS
              have q768 : (t751 : Int) < (t748.length : Int) := of_decide_eq_true AS
              obtain ⟨ad768, e768, hx768_0, hx768_1, hx768_2, hx768_3, hx768_4⟩ := at_T33 (HM.CR 1 rfl).2.2 t751 p768 q768
              obtain rfl := Option.some.inj e768
              replace p768 := eq_true p768
              replace q768 := eq_true q768
              have e89 := PE ha 42 hon
              have e85 := PE ha 38 hon
              exact VL (.int .i64 ((rd_T33 t748 t751).f1)) (hK.out _ _ ⟨PUT ha 43 hb, HM⟩) (hw := wanted_on rfl rfl rfl (e85.trans (by first | rfl | (simp [*]; done))))
             refine SY ?_ ?_
             ·intro b a w ha HM hb hon hoff K hK
              have e9 := PG ha 9
              have e85 := PE ha 38 hon
              exact VL (.pointer (some ⟨gb760, 4, none⟩)) (hK.out _ _ ⟨PUT ha 44 hb, HM⟩) (hw := wanted_on rfl rfl rfl (e85.trans (by first | rfl | (simp [*]; done))))
             refine SY ?_ ?_
             ·intro b a w ha HM hb hon hoff K hK
              obtain ⟨z67_0, z67_1, z67_2, z67_3, z67_4, Z67_0, Z67_1, Z67_2, Z67_3, Z67_4⟩ := bk5 (HM.bx 2 rfl)
              have e91 := PE ha 44 hon
              have e85 := PE ha 38 hon
              exact VL (.int .i64 ((rd_T33 t748 x38_2).f2)) (hK.out _ _ ⟨PUT ha 45 hb, HM⟩) (hw := wanted_on rfl rfl rfl (e85.trans (by first | rfl | (simp [*]; done))))
             refine SY ?_ ?_
             ·intro b a w ha HM hb hon hoff K hK
              have e90 := PE ha 43 hon
              have e92 := PE ha 45 hon
              have e85 := PE ha 38 hon
              exact VL (.bool (decide (((rd_T33 t748 t751).f1) < ((rd_T33 t748 x38_2).f2)))) (hK.out _ _ ⟨PUT ha 46 hb, HM⟩) (hw := wanted_on rfl rfl rfl (e85.trans (by first | rfl | (simp [*]; done))))
             refine SY ?_ ?_
             ·intro b a w ha HM hb hon hoff K hK
              have e85 := PE ha 38 hon
              have e93 := PE ha 46 hon
              exact VL (.bool (decide (((rd_T33 t748 t751).f1) < ((rd_T33 t748 x38_2).f2)))) (hK.out _ _ ⟨PUT ha 47 hb, HM⟩)
             exact steps_nil
            rintro _ w68 ⟨rfl, HM⟩
            simp only [putSel, if_true, Act.put, List.setIfInBounds_toArray, List.set_cons_zero, List.set_cons_succ, gt_iff_lt, ge_iff_le]
            replace H := GN H; obtain ⟨c69, H⟩ := H
            have c69b0 : decide (((rd_T33 t748 t751).f1) < ((rd_T33 t748 x38_2).f2)) = false := decide_eq_false c69
            clear c69
            (first | rw [c69b0] | skip)
            replace H := GD H; obtain ⟨c70, H⟩ := H
            have c70b0 := eq_true c70
            have c70b1 : decide (x7_2.size + 1 ≤ 9223372036854775807) = true := decide_eq_true c70
            try have c70b2 : (9223372036854775807 < x7_2.size + 1) = False := eq_false (Nat.not_lt.2 c70)
            replace H := BN H; obtain ⟨t769, A72, H⟩ := H
            replace H := GD H; obtain ⟨c74, H⟩ := H
            have c74b0 := eq_true c74
            have c74b1 : decide (x7_2.size + 1 + t769.size ≤ 9223372036854775807) = true := decide_eq_true c74
            try have c74b2 : (9223372036854775807 < x7_2.size + 1 + t769.size) = False := eq_false (Nat.not_lt.2 c74)
            have H' := Aside0.mk H
            clear H
            obtain ⟨z71_0, z71_1, z71_2, z71_3, z71_4, Z71_0, Z71_1, Z71_2, Z71_3, Z71_4⟩ := bk5 (HM.bx 2 rfl)
            go_wp2_with (first | ((with_reducible refine gC 10 rfl ?_); refine pC (some 99) rfl #[.int .i64 ((rd_T33 t748 x38_2).f1)] rfl Try.func10 (impl_NumText.calls k2 ((rd_T33 t748 x38_2).f1) t769 _ A72.out) ?_; rintro e w73 ⟨rfl, hR⟩; refine ⟨_, rfl, ?_⟩; replace HM := HM.call hR; clear hR))
            go_roundg k2
            case measure => have := HJ13.out; have := HK2.out; omega
            case rel => exact ⟨((x7_2 ++ (⟨#[32]⟩ : ByteArray)) ++ t769), (wrap64 (x38_2 + 1)), RS, RS, H', ⟨by have := HJ13.out; have := HK2.out; omega⟩, (MD HM).pick [0, 1]⟩
          ·have c33b0 : (((rd_T33 t748 x38_2).f2) == t766) = false := beq_eq_false_iff_ne.mpr c33
           have c33b1 : (((rd_T33 t748 x38_2).f2) != t766) = true := bne_iff_ne.mpr c33
           refine RGN 48 [0, 1, 2, 3, 4, 5, 6, 7, 8, 9, 10, 11, 12, 13, 14, 15, 16, 17, 18, 19, 20, 21, 22, 23, 24, 25, 26, 27, 28, 29, 30, 31, 32, 33, 34, 35, 36, 37, 38, 39, 40, 41, 42, 43, 44, 45, 46, 47] (fun a0 b a w' => a = putSel a0 b [(0, 47, .pointer (some ⟨gb760, 0, none⟩)), (1, 48, .pointer (some ⟨gb760, 0, none⟩)), (2, 49, .int .i64 ((rd_T33 t748 x38_2).f0.f0)), (3, 50, .int .i64 x38_2), (4, 51, .int .i64 (wrap64 (x38_2 + 1))), (5, 52, .bool (((rd_T33 t748 x38_2).f0.f0) != (wrap64 (x38_2 + 1)))), (6, 53, .bool (((rd_T33 t748 x38_2).f0.f0) != (wrap64 (x38_2 + 1)))), (7, 54, .pointer (some ⟨gb760, 3, none⟩)), (8, 55, .int .i64 ((rd_T33 t748 x38_2).f1)), (9, 56, .pointer (some ⟨gb765, 2, none⟩)), (10, 57, .int .i64 t763), (11, 58, .bool (((rd_T33 t748 x38_2).f1) != t763)), (12, 59, .bool (((rd_T33 t748 x38_2).f1) != t763)), (13, 60, .bool (((rd_T33 t748 x38_2).f1) != t763)), (14, 61, .pointer (some ⟨gb765, 0, none⟩)), (15, 62, .int .i64 t761), (16, 63, .slice Xo9 t744.length ko9), (17, 64, .int .i64 (t744.length : Int)), (18, 65, .bool (t761 != (t744.length : Int))), (19, 66, .bool (t761 != (t744.length : Int))), (20, 67, .bool (t761 != (t744.length : Int))), (21, 68, .pointer (some ⟨gb760, 4, none⟩)), (22, 69, .int .i64 ((rd_T33 t748 x38_2).f2)), (23, 70, .slice Xo9 t744.length ko9), (24, 71, .int .i64 (wrap64 (1 + t747))), (25, 72, .int .i64 t766), (26, 73, .bool (((rd_T33 t748 x38_2).f2) != t766)), (27, 74, .bool (((rd_T33 t748 x38_2).f2) != t766)), (28, 75, .bool (((rd_T33 t748 x38_2).f2) != t766)), (29, 76, undef), (30, 77, undef), (31, 78, undef), (32, 79, undef), (33, 80, undef), (34, 81, undef), (35, 82, undef), (36, 83, undef), (37, 84, .bool true), (38, 85, .bool true), (39, 86, undef), (40, 87, undef), (41, 88, undef), (42, 89, undef), (43, 90, undef), (44, 91, undef), (45, 92, undef), (46, 93, undef), (47, 94, .bool true)] ∧ Mem w [] w' [rowR Kd.string 9 (.slice Xo9 t744.length ko9) t744, rowR k33 33 (.slice (some ad759) t748.length ko10) t748, box 33 gb760 [.int .i64 ((rd_T33 t748 x38_2).f0.f0), .int .i64 ((rd_T33 t748 x38_2).f0.f1), .int .i64 ((rd_T33 t748 x38_2).f0.f2), .int .i64 ((rd_T33 t748 x38_2).f1), .int .i64 ((rd_T33 t748 x38_2).f2)], box 35 gb765 [.int .i64 t761, .int .i64 t762, .int .i64 t763, .int .i64 t764]]) laws_FnLab.tab16 laws_FnLab.bits16 ?_ ?_ ?_
           ·exact ⟨PS0' rfl _, (HM.drew).pick [0, 1, 2, 3]⟩
           ·clear HM
            refine SY ?_ ?_
            ·intro b a w ha HM hb hon hoff K hK
             have e9 := PG ha 9
             exact VL (.pointer (some ⟨gb760, 0, none⟩)) (hK.out _ _ ⟨PUT ha 0 hb, HM⟩)
            refine SY ?_ ?_
            ·intro b a w ha HM hb hon hoff K hK
             have e47 := PE ha 0 hon
             exact VL (.pointer (some ⟨gb760, 0, none⟩)) (hK.out _ _ ⟨PUT ha 1 hb, HM⟩)
            refine SY ?_ ?_
            ·intro b a w ha HM hb hon hoff K hK
             obtain ⟨z81_0, z81_1, z81_2, z81_3, z81_4, Z81_0, Z81_1, Z81_2, Z81_3, Z81_4⟩ := bk5 (HM.bx 2 rfl)
             have e48 := PE ha 1 hon
             exact VL (.int .i64 ((rd_T33 t748 x38_2).f0.f0)) (hK.out _ _ ⟨PUT ha 2 hb, HM⟩)
            refine SY ?_ ?_
            ·intro b a w ha HM hb hon hoff K hK
             have e8 := PG ha 8
             exact VL (.int .i64 x38_2) (hK.out _ _ ⟨PUT ha 3 hb, HM⟩)
            refine SY ?_ ?_
            ·intro b a w ha HM hb hon hoff K hK
             have e50 := PE ha 3 hon
             exact VL (.int .i64 (wrap64 (x38_2 + 1))) (hK.out _ _ ⟨PUT ha 4 hb, HM⟩)
            refine SY ?_ ?_
            ·intro b a w ha HM hb hon hoff K hK
             have e49 := PE ha 2 hon
             have e51 := PE ha 4 hon
             exact VL (.bool (((rd_T33 t748 x38_2).f0.f0) != (wrap64 (x38_2 + 1)))) (hK.out _ _ ⟨PUT ha 5 hb, HM⟩)
            refine SY ?_ ?_
            ·intro b a w ha HM hb hon hoff K hK
             have e52 := PE ha 5 hon
             exact VL (.bool (((rd_T33 t748 x38_2).f0.f0) != (wrap64 (x38_2 + 1)))) (hK.out _ _ ⟨PUT ha 6 hb, HM⟩)
            refine SY ?_ ?_
            ·intro b a w ha HM hb hon hoff K hK
             have e9 := PG ha 9
             have e53 := PE ha 6 hon
             exact VL (.pointer (some ⟨gb760, 3, none⟩)) (hK.out _ _ ⟨PUT ha 7 hb, HM⟩) (hw := wanted_on rfl rfl rfl (e53.trans (by first | rfl | (simp [*]; done))))
            refine SY ?_ ?_
            ·intro b a w ha HM hb hon hoff K hK
             obtain ⟨z82_0, z82_1, z82_2, z82_3, z82_4, Z82_0, Z82_1, Z82_2, Z82_3, Z82_4⟩ := bk5 (HM.bx 2 rfl)
             have e54 := PE ha 7 hon
             have e53 := PE ha 6 hon
             exact VL (.int .i64 ((rd_T33 t748 x38_2).f1)) (hK.out _ _ ⟨PUT ha 8 hb, HM⟩) (hw := wanted_on rfl rfl rfl (e53.trans (by first | rfl | (simp [*]; done))))
            refine SY ?_ ?_
            ·intro b a w ha HM hb hon hoff K hK
             have e10 := PG ha 10
             have e53 := PE ha 6 hon
             exact VL (.pointer (some ⟨gb765, 2, none⟩)) (hK.out _ _ ⟨PUT ha 9 hb, HM⟩) (hw := wanted_on rfl rfl rfl (e53.trans (by first | rfl | (simp [*]; done))))
            refine SY ?_ ?_
            ·intro b a w ha HM hb hon hoff K hK
             obtain ⟨z83_0, z83_1, z83_2, z83_3, Z83_0, Z83_1, Z83_2, Z83_3⟩ := bk4 (HM.bx 3 rfl)
             have e56 := PE ha 9 hon
             have e53 := PE ha 6 hon
             exact VL (.int .i64 t763) (hK.out _ _ ⟨PUT ha 10 hb, HM⟩) (hw := wanted_on rfl rfl rfl (e53.trans (by first | rfl | (simp [*]; done))))
            refine SY ?_ ?_
            ·intro b a w ha HM hb hon hoff K hK
             have e55 := PE ha 8 hon
             have e57 := PE ha 10 hon
             have e53 := PE ha 6 hon
             exact VL (.bool (((rd_T33 t748 x38_2).f1) != t763)) (hK.out _ _ ⟨PUT ha 11 hb, HM⟩) (hw := wanted_on rfl rfl rfl (e53.trans (by first | rfl | (simp [*]; done))))
            refine SY ?_ ?_
            ·intro b a w ha HM hb hon hoff K hK
             have e53 := PE ha 6 hon
             have e58 := PE ha 11 hon
             exact VL (.bool (((rd_T33 t748 x38_2).f1) != t763)) (hK.out _ _ ⟨PUT ha 12 hb, HM⟩)
            refine SY ?_ ?_
            ·intro b a w ha HM hb hon hoff K hK
             have e59 := PE ha 12 hon
             exact VL (.bool (((rd_T33 t748 x38_2).f1) != t763)) (hK.out _ _ ⟨PUT ha 13 hb, HM⟩)
            refine SY ?_ ?_
            ·intro b a w ha HM hb hon hoff K hK
             have e10 := PG ha 10
             have e60 := PE ha 13 hon
             exact VL (.pointer (some ⟨gb765, 0, none⟩)) (hK.out _ _ ⟨PUT ha 14 hb, HM⟩) (hw := wanted_on rfl rfl rfl (e60.trans (by first | rfl | (simp [*]; done))))
            refine SY ?_ ?_
            ·intro b a w ha HM hb hon hoff K hK
             obtain ⟨z84_0, z84_1, z84_2, z84_3, Z84_0, Z84_1, Z84_2, Z84_3⟩ := bk4 (HM.bx 3 rfl)
             have e61 := PE ha 14 hon
             have e60 := PE ha 13 hon
             exact VL (.int .i64 t761) (hK.out _ _ ⟨PUT ha 15 hb, HM⟩) (hw := wanted_on rfl rfl rfl (e60.trans (by first | rfl | (simp [*]; done))))
            refine SY ?_ ?_
            ·intro b a w ha HM hb hon hoff K hK
             have e3 := PG ha 3
             have e60 := PE ha 13 hon
             exact VL (.slice Xo9 t744.length ko9) (hK.out _ _ ⟨PUT ha 16 hb, HM⟩) (hw := wanted_on rfl rfl rfl (e60.trans (by first | rfl | (simp [*]; done))))
            refine SY ?_ ?_
            ·intro b a w ha HM hb hon hoff K hK
             have e63 := PE ha 16 hon
             have e60 := PE ha 13 hon
             exact VL (.int .i64 (t744.length : Int)) (hK.out _ _ ⟨PUT ha 17 hb, HM⟩) (hw := wanted_on rfl rfl rfl (e60.trans (by first | rfl | (simp [*]; done))))
            refine SY ?_ ?_
            ·intro b a w ha HM hb hon hoff K hK
             have e62 := PE ha 15 hon
             have e64 := PE ha 17 hon
             have e60 := PE ha 13 hon
             exact VL (.bool (t761 != (t744.length : Int))) (hK.out _ _ ⟨PUT ha 18 hb, HM⟩) (hw := wanted_on rfl rfl rfl (e60.trans (by first | rfl | (simp [*]; done))))
            refine SY ?_ ?_
            ·intro b a w ha HM hb hon hoff K hK
             have e60 := PE ha 13 hon
             have e65 := PE ha 18 hon
             exact VL (.bool (t761 != (t744.length : Int))) (hK.out _ _ ⟨PUT ha 19 hb, HM⟩)
            refine SY ?_ ?_
            ·intro b a w ha HM hb hon hoff K hK
             have e66 := PE ha 19 hon
             exact VL (.bool (t761 != (t744.length : Int))) (hK.out _ _ ⟨PUT ha 20 hb, HM⟩)
            refine SY ?_ ?_
            ·intro b a w ha HM hb hon hoff K hK
             have e9 := PG ha 9
             have e67 := PE ha 20 hon
             exact VL (.pointer (some ⟨gb760, 4, none⟩)) (hK.out _ _ ⟨PUT ha 21 hb, HM⟩) (hw := wanted_on rfl rfl rfl (e67.trans (by first | rfl | (simp [*]; done))))
            refine SY ?_ ?_
            ·intro b a w ha HM hb hon hoff K hK
             obtain ⟨z85_0, z85_1, z85_2, z85_3, z85_4, Z85_0, Z85_1, Z85_2, Z85_3, Z85_4⟩ := bk5 (HM.bx 2 rfl)
             have e68 := PE ha 21 hon
             have e67 := PE ha 20 hon
             exact VL (.int .i64 ((rd_T33 t748 x38_2).f2)) (hK.out _ _ ⟨PUT ha 22 hb, HM⟩) (hw := wanted_on rfl rfl rfl (e67.trans (by first | rfl | (simp [*]; done))))
            refine SY ?_ ?_
            ·intro b a w ha HM hb hon hoff K hK
             have e3 := PG ha 3
             have e67 := PE ha 20 hon
             exact VL (.slice Xo9 t744.length ko9) (hK.out _ _ ⟨PUT ha 23 hb, HM⟩) (hw := wanted_on rfl rfl rfl (e67.trans (by first | rfl | (simp [*]; done))))
            refine SY ?_ ?_
            ·intro b a w ha HM hb hon hoff K hK
             have e4 := PG ha 4
             have e67 := PE ha 20 hon
             exact VL (.int .i64 (wrap64 (1 + t747))) (hK.out _ _ ⟨PUT ha 24 hb, HM⟩) (hw := wanted_on rfl rfl rfl (e67.trans (by first | rfl | (simp [*]; done))))
            refine SY ?_ ?_
            ·intro b a w ha HM hb hon hoff K hK
             have e70 := PE ha 23 hon
             have e71 := PE ha 24 hon
             have e67 := PE ha 20 hon
             refine ST (eC (some 72) rfl #[.slice Xo9 t744.length ko9, .int .i64 (wrap64 (1 + t747))] rfl Try.func12 (impl_BestMisses.calls k2 _ _ t744 (wrap64 (1 + t747)) t766 _ (HM.CR 0 rfl).2.2 (HM.CR 0 rfl).2.1 A32.out) ?_ (hargs := by (simp only [List.map_toArray, List.map_cons, List.map_nil, evc, eval_of e70, eval_of e71]) <;> rfl)) (hw := wanted_on rfl rfl rfl (e67.trans (by first | rfl | (simp [*]; done))))
             rintro e w86 ⟨rfl, hR⟩
             refine ⟨_, rfl, ?_⟩
             replace HM := HM.call hR
             clear hR
             exact hK.out _ _ ⟨PUT ha 25 hb, (HM).pick [0, 1, 2, 3]⟩
            refine SY ?_ ?_
            ·intro b a w ha HM hb hon hoff K hK
             have e69 := PE ha 22 hon
             have e72 := PE ha 25 hon
             have e67 := PE ha 20 hon
             exact VL (.bool (((rd_T33 t748 x38_2).f2) != t766)) (hK.out _ _ ⟨PUT ha 26 hb, HM⟩) (hw := wanted_on rfl rfl rfl (e67.trans (by first | rfl | (simp [*]; done))))
            refine SY ?_ ?_
            ·intro b a w ha HM hb hon hoff K hK
             have e67 := PE ha 20 hon
             have e73 := PE ha 26 hon
             exact VL (.bool (((rd_T33 t748 x38_2).f2) != t766)) (hK.out _ _ ⟨PUT ha 27 hb, HM⟩)
            refine SY ?_ ?_
            ·intro b a w ha HM hb hon hoff K hK
             have e74 := PE ha 27 hon
             exact VL (.bool (((rd_T33 t748 x38_2).f2) != t766)) (hK.out _ _ ⟨PUT ha 28 hb, HM⟩)
            refine SY ?_ ?_
            ·intro b a w ha HM hb hon hoff K hK
             have e75 := PE ha 28 hon
             exact VN ( wanted_off rfl rfl rfl (e75.trans (by first | rfl | (simp [*]; done)))) (hK.out _ _ ⟨PUT ha 29 hb, HM⟩)
            refine SY ?_ ?_
            ·intro b a w ha HM hb hon hoff K hK
             have e75 := PE ha 28 hon
             exact VN ( wanted_off rfl rfl rfl (e75.trans (by first | rfl | (simp [*]; done)))) (hK.out _ _ ⟨PUT ha 30 hb, HM⟩)
            refine SY ?_ ?_
            ·intro b a w ha HM hb hon hoff K hK
             have e75 := PE ha 28 hon
             exact VN ( wanted_off rfl rfl rfl (e75.trans (by first | rfl | (simp [*]; done)))) (hK.out _ _ ⟨PUT ha 31 hb, HM⟩)
            refine SY ?_ ?_
            ·intro b a w ha HM hb hon hoff K hK
             have e75 := PE ha 28 hon
             exact VN ( wanted_off rfl rfl rfl (e75.trans (by first | rfl | (simp [*]; done)))) (hK.out _ _ ⟨PUT ha 32 hb, HM⟩)
            refine SY ?_ ?_
            ·intro b a w ha HM hb hon hoff K hK
             have e75 := PE ha 28 hon
             exact VN ( wanted_off rfl rfl rfl (e75.trans (by first | rfl | (simp [*]; done)))) (hK.out _ _ ⟨PUT ha 33 hb, HM⟩)
            refine SY ?_ ?_
            ·intro b a w ha HM hb hon hoff K hK
             have e75 := PE ha 28 hon
             exact VN ( wanted_off rfl rfl rfl (e75.trans (by first | rfl | (simp [*]; done)))) (hK.out _ _ ⟨PUT ha 34 hb, HM⟩)
            refine SY ?_ ?_
            ·intro b a w ha HM hb hon hoff K hK
             have e75 := PE ha 28 hon
             exact VN ( wanted_off rfl rfl rfl (e75.trans (by first | rfl | (simp [*]; done)))) (hK.out _ _ ⟨PUT ha 35 hb, HM⟩)
            refine SY ?_ ?_
            ·intro b a w ha HM hb hon hoff K hK
             have e75 := PE ha 28 hon
             exact VN ( wanted_off rfl rfl rfl (e75.trans (by first | rfl | (simp [*]; done)))) (hK.out _ _ ⟨PUT ha 36 hb, HM⟩)
            refine SY ?_ ?_
            ·intro b a w ha HM hb hon hoff K hK
             have e75 := PE ha 28 hon
             have e83 := PE ha 36 hon
             exact VL (.bool true) (hK.out _ _ ⟨PUT ha 37 hb, HM⟩)
            refine SY ?_ ?_
            ·intro b a w ha HM hb hon hoff K hK
             have e84 := PE ha 37 hon
             exact VL (.bool true) (hK.out _ _ ⟨PUT ha 38 hb, HM⟩)
            refine SY ?_ ?_
            ·intro b a w ha HM hb hon hoff K hK
             have e85 := PE ha 38 hon
             exact VN ( wanted_off rfl rfl rfl (e85.trans (by first | rfl | (simp [*]; done)))) (hK.out _ _ ⟨PUT ha 39 hb, HM⟩)
            refine SY ?_ ?_
            ·intro b a w ha HM hb hon hoff K hK
             have e85 := PE ha 38 hon
             exact VN ( wanted_off rfl rfl rfl (e85.trans (by first | rfl | (simp [*]; done)))) (hK.out _ _ ⟨PUT ha 40 hb, HM⟩)
            refine SY ?_ ?_
            ·intro b a w ha HM hb hon hoff K hK
             have e85 := PE ha 38 hon
             exact VN ( wanted_off rfl rfl rfl (e85.trans (by first | rfl | (simp [*]; done)))) (hK.out _ _ ⟨PUT ha 41 hb, HM⟩)
            refine SY ?_ ?_
            ·intro b a w ha HM hb hon hoff K hK
             have e85 := PE ha 38 hon
             exact VN ( wanted_off rfl rfl rfl (e85.trans (by first | rfl | (simp [*]; done)))) (hK.out _ _ ⟨PUT ha 42 hb, HM⟩)
            refine SY ?_ ?_
            ·intro b a w ha HM hb hon hoff K hK
             have e85 := PE ha 38 hon
             exact VN ( wanted_off rfl rfl rfl (e85.trans (by first | rfl | (simp [*]; done)))) (hK.out _ _ ⟨PUT ha 43 hb, HM⟩)
            refine SY ?_ ?_
            ·intro b a w ha HM hb hon hoff K hK
             have e85 := PE ha 38 hon
             exact VN ( wanted_off rfl rfl rfl (e85.trans (by first | rfl | (simp [*]; done)))) (hK.out _ _ ⟨PUT ha 44 hb, HM⟩)
            refine SY ?_ ?_
            ·intro b a w ha HM hb hon hoff K hK
             have e85 := PE ha 38 hon
             exact VN ( wanted_off rfl rfl rfl (e85.trans (by first | rfl | (simp [*]; done)))) (hK.out _ _ ⟨PUT ha 45 hb, HM⟩)
            refine SY ?_ ?_
            ·intro b a w ha HM hb hon hoff K hK
             have e85 := PE ha 38 hon
             exact VN ( wanted_off rfl rfl rfl (e85.trans (by first | rfl | (simp [*]; done)))) (hK.out _ _ ⟨PUT ha 46 hb, HM⟩)
            refine SY ?_ ?_
            ·intro b a w ha HM hb hon hoff K hK
             have e85 := PE ha 38 hon
             have e93 := PE ha 46 hon
             exact VL (.bool true) (hK.out _ _ ⟨PUT ha 47 hb, HM⟩)
            exact steps_nil
           rintro _ w87 ⟨rfl, HM⟩
           simp only [putSel, if_true, Act.put, List.setIfInBounds_toArray, List.set_cons_zero, List.set_cons_succ, gt_iff_lt, ge_iff_le]
           exact absurd H (by simp)
         ·have c31b0 : (t761 == (t744.length : Int)) = false := beq_eq_false_iff_ne.mpr c31
          have c31b1 : (t761 != (t744.length : Int)) = true := bne_iff_ne.mpr c31
          refine RGN 48 [0, 1, 2, 3, 4, 5, 6, 7, 8, 9, 10, 11, 12, 13, 14, 15, 16, 17, 18, 19, 20, 21, 22, 23, 24, 25, 26, 27, 28, 29, 30, 31, 32, 33, 34, 35, 36, 37, 38, 39, 40, 41, 42, 43, 44, 45, 46, 47] (fun a0 b a w' => a = putSel a0 b [(0, 47, .pointer (some ⟨gb760, 0, none⟩)), (1, 48, .pointer (some ⟨gb760, 0, none⟩)), (2, 49, .int .i64 ((rd_T33 t748 x38_2).f0.f0)), (3, 50, .int .i64 x38_2), (4, 51, .int .i64 (wrap64 (x38_2 + 1))), (5, 52, .bool (((rd_T33 t748 x38_2).f0.f0) != (wrap64 (x38_2 + 1)))), (6, 53, .bool (((rd_T33 t748 x38_2).f0.f0) != (wrap64 (x38_2 + 1)))), (7, 54, .pointer (some ⟨gb760, 3, none⟩)), (8, 55, .int .i64 ((rd_T33 t748 x38_2).f1)), (9, 56, .pointer (some ⟨gb765, 2, none⟩)), (10, 57, .int .i64 t763), (11, 58, .bool (((rd_T33 t748 x38_2).f1) != t763)), (12, 59, .bool (((rd_T33 t748 x38_2).f1) != t763)), (13, 60, .bool (((rd_T33 t748 x38_2).f1) != t763)), (14, 61, .pointer (some ⟨gb765, 0, none⟩)), (15, 62, .int .i64 t761), (16, 63, .slice Xo9 t744.length ko9), (17, 64, .int .i64 (t744.length : Int)), (18, 65, .bool (t761 != (t744.length : Int))), (19, 66, .bool (t761 != (t744.length : Int))), (20, 67, .bool (t761 != (t744.length : Int))), (21, 68, undef), (22, 69, undef), (23, 70, undef), (24, 71, undef), (25, 72, undef), (26, 73, undef), (27, 74, .bool true), (28, 75, .bool true), (29, 76, undef), (30, 77, undef), (31, 78, undef), (32, 79, undef), (33, 80, undef), (34, 81, undef), (35, 82, undef), (36, 83, undef), (37, 84, .bool true), (38, 85, .bool true), (39, 86, undef), (40, 87, undef), (41, 88, undef), (42, 89, undef), (43, 90, undef), (44, 91, undef), (45, 92, undef), (46, 93, undef), (47, 94, .bool true)] ∧ Mem w [] w' [rowR Kd.string 9 (.slice Xo9 t744.length ko9) t744, rowR k33 33 (.slice (some ad759) t748.length ko10) t748, box 33 gb760 [.int .i64 ((rd_T33 t748 x38_2).f0.f0), .int .i64 ((rd_T33 t748 x38_2).f0.f1), .int .i64 ((rd_T33 t748 x38_2).f0.f2), .int .i64 ((rd_T33 t748 x38_2).f1), .int .i64 ((rd_T33 t748 x38_2).f2)], box 35 gb765 [.int .i64 t761, .int .i64 t762, .int .i64 t763, .int .i64 t764]]) laws_FnLab.tab16 laws_FnLab.bits16 ?_ ?_ ?_
          ·exact ⟨PS0' rfl _, (HM.drew).pick [0, 1, 2, 3]⟩
          ·clear HM
           refine SY ?_ ?_
           ·intro b a w ha HM hb hon hoff K hK
            have e9 := PG ha 9
            exact VL (.pointer (some ⟨gb760, 0, none⟩)) (hK.out _ _ ⟨PUT ha 0 hb, HM⟩)
           refine SY ?_ ?_
           ·intro b a w ha HM hb hon hoff K hK
            have e47 := PE ha 0 hon
            exact VL (.pointer (some ⟨gb760, 0, none⟩)) (hK.out _ _ ⟨PUT ha 1 hb, HM⟩)
           refine SY ?_ ?_
           ·intro b a w ha HM hb hon hoff K hK
            obtain ⟨z92_0, z92_1, z92_2, z92_3, z92_4, Z92_0, Z92_1, Z92_2, Z92_3, Z92_4⟩ := bk5 (HM.bx 2 rfl)
            have e48 := PE ha 1 hon
            exact VL (.int .i64 ((rd_T33 t748 x38_2).f0.f0)) (hK.out _ _ ⟨PUT ha 2 hb, HM⟩)
           refine SY ?_ ?_
           ·intro b a w ha HM hb hon hoff K hK
            have e8 := PG ha 8
            exact VL (.int .i64 x38_2) (hK.out _ _ ⟨PUT ha 3 hb, HM⟩)
           refine SY ?_ ?_
           ·intro b a w ha HM hb hon hoff K hK
            have e50 := PE ha 3 hon
            exact VL (.int .i64 (wrap64 (x38_2 + 1))) (hK.out _ _ ⟨PUT ha 4 hb, HM⟩)
           refine SY ?_ ?_
           ·intro b a w ha HM hb hon hoff K hK
            have e49 := PE ha 2 hon
            have e51 := PE ha 4 hon
            exact VL (.bool (((rd_T33 t748 x38_2).f0.f0) != (wrap64 (x38_2 + 1)))) (hK.out _ _ ⟨PUT ha 5 hb, HM⟩)
           refine SY ?_ ?_
           ·intro b a w ha HM hb hon hoff K hK
            have e52 := PE ha 5 hon
            exact VL (.bool (((rd_T33 t748 x38_2).f0.f0) != (wrap64 (x38_2 + 1)))) (hK.out _ _ ⟨PUT ha 6 hb, HM⟩)
           refine SY ?_ ?_
           ·intro b a w ha HM hb hon hoff K hK
            have e9 := PG ha 9
            have e53 := PE ha 6 hon
            exact VL (.pointer (some ⟨gb760, 3, none⟩)) (hK.out _ _ ⟨PUT ha 7 hb, HM⟩) (hw := wanted_on rfl rfl rfl (e53.trans (by first | rfl | (simp [*]; done))))
           refine SY ?_ ?_
           ·intro b a w ha HM hb hon hoff K hK
            obtain ⟨z93_0, z93_1, z93_2, z93_3, z93_4, Z93_0, Z93_1, Z93_2, Z93_3, Z93_4⟩ := bk5 (HM.bx 2 rfl)
            have e54 := PE ha 7 hon
            have e53 := PE ha 6 hon
            exact VL (.int .i64 ((rd_T33 t748 x38_2).f1)) (hK.out _ _ ⟨PUT ha 8 hb, HM⟩) (hw := wanted_on rfl rfl rfl (e53.trans (by first | rfl | (simp [*]; done))))
           refine SY ?_ ?_
           ·intro b a w ha HM hb hon hoff K hK
            have e10 := PG ha 10
            have e53 := PE ha 6 hon
            exact VL (.pointer (some ⟨gb765, 2, none⟩)) (hK.out _ _ ⟨PUT ha 9 hb, HM⟩) (hw := wanted_on rfl rfl rfl (e53.trans (by first | rfl | (simp [*]; done))))
           refine SY ?_ ?_
           ·intro b a w ha HM hb hon hoff K hK
            obtain ⟨z94_0, z94_1, z94_2, z94_3, Z94_0, Z94_1, Z94_2, Z94_3⟩ := bk4 (HM.bx 3 rfl)
            have e56 := PE ha 9 hon
            have e53 := PE ha 6 hon
            exact VL (.int .i64 t763) (hK.out _ _ ⟨PUT ha 10 hb, HM⟩) (hw := wanted_on rfl rfl rfl (e53.trans (by first | rfl | (simp [*]; done))))
           refine SY ?_ ?_
           ·intro b a w ha HM hb hon hoff K hK
            have e55 := PE ha 8 hon
            have e57 := PE ha 10 hon
            have e53 := PE ha 6 hon
            exact VL (.bool (((rd_T33 t748 x38_2).f1) != t763)) (hK.out _ _ ⟨PUT ha 11 hb, HM⟩) (hw := wanted_on rfl rfl rfl (e53.trans (by first | rfl | (simp [*]; done))))
           refine SY ?_ ?_
           ·intro b a w ha HM hb hon hoff K hK
            have e53 := PE ha 6 hon
            have e58 := PE ha 11 hon
            exact VL (.bool (((rd_T33 t748 x38_2).f1) != t763)) (hK.out _ _ ⟨PUT ha 12 hb, HM⟩)
           refine SY ?_ ?_
           ·intro b a w ha HM hb hon hoff K hK
            have e59 := PE ha 12 hon
            exact VL (.bool (((rd_T33 t748 x38_2).f1) != t763)) (hK.out _ _ ⟨PUT ha 13 hb, HM⟩)
           refine SY ?_ ?_
           ·intro b a w ha HM hb hon hoff K hK
            have e10 := PG ha 10
            have e60 := PE ha 13 hon
            exact VL (.pointer (some ⟨gb765, 0, none⟩)) (hK.out _ _ ⟨PUT ha 14 hb, HM⟩) (hw := wanted_on rfl rfl rfl (e60.trans (by first | rfl | (simp [*]; done))))
           refine SY ?_ ?_
           ·intro b a w ha HM hb hon hoff K hK
            obtain ⟨z95_0, z95_1, z95_2, z95_3, Z95_0, Z95_1, Z95_2, Z95_3⟩ := bk4 (HM.bx 3 rfl)
            have e61 := PE ha 14 hon
            have e60 := PE ha 13 hon
            exact VL (.int .i64 t761) (hK.out _ _ ⟨PUT ha 15 hb, HM⟩) (hw := wanted_on rfl rfl rfl (e60.trans (by first | rfl | (simp [*]; done))))
           refine SY ?_ ?_
           ·intro b a w ha HM hb hon hoff K hK
            have e3 := PG ha 3
            have e60 := PE ha 13 hon
            exact VL (.slice Xo9 t744.length ko9) (hK.out _ _ ⟨PUT ha 16 hb, HM⟩) (hw := wanted_on rfl rfl rfl (e60.trans (by first | rfl | (simp [*]; done))))
           refine SY ?_ ?_
           ·intro b a w ha HM hb hon hoff K hK
            have e63 := PE ha 16 hon
            have e60 := PE ha 13 hon
            exact VL (.int .i64 (t744.length : Int)) (hK.out _ _ ⟨PUT ha 17 hb, HM⟩) (hw := wanted_on rfl rfl rfl (e60.trans (by first | rfl | (simp [*]; done))))
           refine SY ?_ ?_
           ·intro b a w ha HM hb hon hoff K hK
            have e62 := PE ha 15 hon
            have e64 := PE ha 17 hon
            have e60 := PE ha 13 hon
            exact VL (.bool (t761 != (t744.length : Int))) (hK.out _ _ ⟨PUT ha 18 hb, HM⟩) (hw := wanted_on rfl rfl rfl (e60.trans (by first | rfl | (simp [*]; done))))
           refine SY ?_ ?_
           ·intro b a w ha HM hb hon hoff K hK
            have e60 := PE ha 13 hon
            have e65 := PE ha 18 hon
            exact VL (.bool (t761 != (t744.length : Int))) (hK.out _ _ ⟨PUT ha 19 hb, HM⟩)
           refine SY ?_ ?_
           ·intro b a w ha HM hb hon hoff K hK
            have e66 := PE ha 19 hon
            exact VL (.bool (t761 != (t744.length : Int))) (hK.out _ _ ⟨PUT ha 20 hb, HM⟩)
           refine SY ?_ ?_
           ·intro b a w ha HM hb hon hoff K hK
            have e67 := PE ha 20 hon
            exact VN ( wanted_off rfl rfl rfl (e67.trans (by first | rfl | (simp [*]; done)))) (hK.out _ _ ⟨PUT ha 21 hb, HM⟩)
           refine SY ?_ ?_
           ·intro b a w ha HM hb hon hoff K hK
            have e67 := PE ha 20 hon
            exact VN ( wanted_off rfl rfl rfl (e67.trans (by first | rfl | (simp [*]; done)))) (hK.out _ _ ⟨PUT ha 22 hb, HM⟩)
           refine SY ?_ ?_
           ·intro b a w ha HM hb hon hoff K hK
            have e67 := PE ha 20 hon
            exact VN ( wanted_off rfl rfl rfl (e67.trans (by first | rfl | (simp [*]; done)))) (hK.out _ _ ⟨PUT ha 23 hb, HM⟩)
           refine SY ?_ ?_
           ·intro b a w ha HM hb hon hoff K hK
            have e67 := PE ha 20 hon
            exact VN ( wanted_off rfl rfl rfl (e67.trans (by first | rfl | (simp [*]; done)))) (hK.out _ _ ⟨PUT ha 24 hb, HM⟩)
           refine SY ?_ ?_
           ·intro b a w ha HM hb hon hoff K hK
            have e67 := PE ha 20 hon
            exact VN ( wanted_off rfl rfl rfl (e67.trans (by first | rfl | (simp [*]; done)))) (hK.out _ _ ⟨PUT ha 25 hb, HM⟩)
           refine SY ?_ ?_
           ·intro b a w ha HM hb hon hoff K hK
            have e67 := PE ha 20 hon
            exact VN ( wanted_off rfl rfl rfl (e67.trans (by first | rfl | (simp [*]; done)))) (hK.out _ _ ⟨PUT ha 26 hb, HM⟩)
           refine SY ?_ ?_
           ·intro b a w ha HM hb hon hoff K hK
            have e67 := PE ha 20 hon
            have e73 := PE ha 26 hon
            exact VL (.bool true) (hK.out _ _ ⟨PUT ha 27 hb, HM⟩)
           refine SY ?_ ?_
           ·intro b a w ha HM hb hon hoff K hK
            have e74 := PE ha 27 hon
            exact VL (.bool true) (hK.out _ _ ⟨PUT ha 28 hb, HM⟩)
           refine SY ?_ ?_
           ·intro b a w ha HM hb hon hoff K hK
            have e75 := PE ha 28 hon
            exact VN ( wanted_off rfl rfl rfl (e75.trans (by first | rfl | (simp [*]; done)))) (hK.out _ _ ⟨PUT ha 29 hb, HM⟩)
           refine SY ?_ ?_
           ·intro b a w ha HM hb hon hoff K hK
            have e75 := PE ha 28 hon
            exact VN ( wanted_off rfl rfl rfl (e75.trans (by first | rfl | (simp [*]; done)))) (hK.out _ _ ⟨PUT ha 30 hb, HM⟩)
           refine SY ?_ ?_
           ·intro b a w ha HM hb hon hoff K hK
            have e75 := PE ha 28 hon
            exact VN ( wanted_off rfl rfl rfl (e75.trans (by first | rfl | (simp [*]; done)))) (hK.out _ _ ⟨PUT ha 31 hb, HM⟩)
           refine SY ?_ ?_
           ·intro b a w ha HM hb hon hoff K hK
            have e75 := PE ha 28 hon
            exact VN ( wanted_off rfl rfl rfl (e75.trans (by first | rfl | (simp [*]; done)))) (hK.out _ _ ⟨PUT ha 32 hb, HM⟩)
           refine SY ?_ ?_
           ·intro b a w ha HM hb hon hoff K hK
            have e75 := PE ha 28 hon
            exact VN ( wanted_off rfl rfl rfl (e75.trans (by first | rfl | (simp [*]; done)))) (hK.out _ _ ⟨PUT ha 33 hb, HM⟩)
           refine SY ?_ ?_
           ·intro b a w ha HM hb hon hoff K hK
            have e75 := PE ha 28 hon
            exact VN ( wanted_off rfl rfl rfl (e75.trans (by first | rfl | (simp [*]; done)))) (hK.out _ _ ⟨PUT ha 34 hb, HM⟩)
           refine SY ?_ ?_
           ·intro b a w ha HM hb hon hoff K hK
            have e75 := PE ha 28 hon
            exact VN ( wanted_off rfl rfl rfl (e75.trans (by first | rfl | (simp [*]; done)))) (hK.out _ _ ⟨PUT ha 35 hb, HM⟩)
           refine SY ?_ ?_
           ·intro b a w ha HM hb hon hoff K hK
            have e75 := PE ha 28 hon
            exact VN ( wanted_off rfl rfl rfl (e75.trans (by first | rfl | (simp [*]; done)))) (hK.out _ _ ⟨PUT ha 36 hb, HM⟩)
           refine SY ?_ ?_
           ·intro b a w ha HM hb hon hoff K hK
            have e75 := PE ha 28 hon
            have e83 := PE ha 36 hon
            exact VL (.bool true) (hK.out _ _ ⟨PUT ha 37 hb, HM⟩)
           refine SY ?_ ?_
           ·intro b a w ha HM hb hon hoff K hK
            have e84 := PE ha 37 hon
            exact VL (.bool true) (hK.out _ _ ⟨PUT ha 38 hb, HM⟩)
           refine SY ?_ ?_
           ·intro b a w ha HM hb hon hoff K hK
            have e85 := PE ha 38 hon
            exact VN ( wanted_off rfl rfl rfl (e85.trans (by first | rfl | (simp [*]; done)))) (hK.out _ _ ⟨PUT ha 39 hb, HM⟩)
           refine SY ?_ ?_
           ·intro b a w ha HM hb hon hoff K hK
            have e85 := PE ha 38 hon
            exact VN ( wanted_off rfl rfl rfl (e85.trans (by first | rfl | (simp [*]; done)))) (hK.out _ _ ⟨PUT ha 40 hb, HM⟩)
           refine SY ?_ ?_
           ·intro b a w ha HM hb hon hoff K hK
            have e85 := PE ha 38 hon
            exact VN ( wanted_off rfl rfl rfl (e85.trans (by first | rfl | (simp [*]; done)))) (hK.out _ _ ⟨PUT ha 41 hb, HM⟩)
           refine SY ?_ ?_
           ·intro b a w ha HM hb hon hoff K hK
            have e85 := PE ha 38 hon
            exact VN ( wanted_off rfl rfl rfl (e85.trans (by first | rfl | (simp [*]; done)))) (hK.out _ _ ⟨PUT ha 42 hb, HM⟩)
           refine SY ?_ ?_
           ·intro b a w ha HM hb hon hoff K hK
            have e85 := PE ha 38 hon
            exact VN ( wanted_off rfl rfl rfl (e85.trans (by first | rfl | (simp [*]; done)))) (hK.out _ _ ⟨PUT ha 43 hb, HM⟩)
           refine SY ?_ ?_
           ·intro b a w ha HM hb hon hoff K hK
            have e85 := PE ha 38 hon
            exact VN ( wanted_off rfl rfl rfl (e85.trans (by first | rfl | (simp [*]; done)))) (hK.out _ _ ⟨PUT ha 44 hb, HM⟩)
           refine SY ?_ ?_
           ·intro b a w ha HM hb hon hoff K hK
            have e85 := PE ha 38 hon
            exact VN ( wanted_off rfl rfl rfl (e85.trans (by first | rfl | (simp [*]; done)))) (hK.out _ _ ⟨PUT ha 45 hb, HM⟩)
           refine SY ?_ ?_
           ·intro b a w ha HM hb hon hoff K hK
            have e85 := PE ha 38 hon
            exact VN ( wanted_off rfl rfl rfl (e85.trans (by first | rfl | (simp [*]; done)))) (hK.out _ _ ⟨PUT ha 46 hb, HM⟩)
           refine SY ?_ ?_
           ·intro b a w ha HM hb hon hoff K hK
            have e85 := PE ha 38 hon
            have e93 := PE ha 46 hon
            exact VL (.bool true) (hK.out _ _ ⟨PUT ha 47 hb, HM⟩)
           exact steps_nil
          rintro _ w96 ⟨rfl, HM⟩
          simp only [putSel, if_true, Act.put, List.setIfInBounds_toArray, List.set_cons_zero, List.set_cons_succ, gt_iff_lt, ge_iff_le]
          exact absurd H (by simp)
        ·have c30b0 : (((rd_T33 t748 x38_2).f1) == t763) = false := beq_eq_false_iff_ne.mpr c30
         have c30b1 : (((rd_T33 t748 x38_2).f1) != t763) = true := bne_iff_ne.mpr c30
         refine RGN 48 [0, 1, 2, 3, 4, 5, 6, 7, 8, 9, 10, 11, 12, 13, 14, 15, 16, 17, 18, 19, 20, 21, 22, 23, 24, 25, 26, 27, 28, 29, 30, 31, 32, 33, 34, 35, 36, 37, 38, 39, 40, 41, 42, 43, 44, 45, 46, 47] (fun a0 b a w' => a = putSel a0 b [(0, 47, .pointer (some ⟨gb760, 0, none⟩)), (1, 48, .pointer (some ⟨gb760, 0, none⟩)), (2, 49, .int .i64 ((rd_T33 t748 x38_2).f0.f0)), (3, 50, .int .i64 x38_2), (4, 51, .int .i64 (wrap64 (x38_2 + 1))), (5, 52, .bool (((rd_T33 t748 x38_2).f0.f0) != (wrap64 (x38_2 + 1)))), (6, 53, .bool (((rd_T33 t748 x38_2).f0.f0) != (wrap64 (x38_2 + 1)))), (7, 54, .pointer (some ⟨gb760, 3, none⟩)), (8, 55, .int .i64 ((rd_T33 t748 x38_2).f1)), (9, 56, .pointer (some ⟨gb765, 2, none⟩)), (10, 57, .int .i64 t763), (11, 58, .bool (((rd_T33 t748 x38_2).f1) != t763)), (12, 59, .bool (((rd_T33 t748 x38_2).f1) != t763)), (13, 60, .bool (((rd_T33 t748 x38_2).f1) != t763)), (14, 61, undef), (15, 62, undef), (16, 63, undef), (17, 64, undef), (18, 65, undef), (19, 66, .bool true), (20, 67, .bool true), (21, 68, undef), (22, 69, undef), (23, 70, undef), (24, 71, undef), (25, 72, undef), (26, 73, undef), (27, 74, .bool true), (28, 75, .bool true), (29, 76, undef), (30, 77, undef), (31, 78, undef), (32, 79, undef), (33, 80, undef), (34, 81, undef), (35, 82, undef), (36, 83, undef), (37, 84, .bool true), (38, 85, .bool true), (39, 86, undef), (40, 87, undef), (41, 88, undef), (42, 89, undef), (43, 90, undef), (44, 91, undef), (45, 92, undef), (46, 93, undef), (47, 94, .bool true)] ∧ Mem w [] w' [rowR Kd.string 9 (.slice Xo9 t744.length ko9) t744, rowR k33 33 (.slice (some ad759) t748.length ko10) t748, box 33 gb760 [.int .i64 ((rd_T33 t748 x38_2).f0.f0), .int .i64 ((rd_T33 t748 x38_2).f0.f1), .int .i64 ((rd_T33 t748 x38_2).f0.f2), .int .i64 ((rd_T33 t748 x38_2).f1), .int .i64 ((rd_T33 t748 x38_2).f2)], box 35 gb765 [.int .i64 t761, .int .i64 t762, .int .i64 t763, .int .i64 t764]]) laws_FnLab.tab16 laws_FnLab.bits16 ?_ ?_ ?_
         ·exact ⟨PS0' rfl _, (HM.drew).pick [0, 1, 2, 3]⟩
         ·clear HM
          refine SY ?_ ?_
          ·intro b a w ha HM hb hon hoff K hK
           have e9 := PG ha 9
           exact VL (.pointer (some ⟨gb760, 0, none⟩)) (hK.out _ _ ⟨PUT ha 0 hb, HM⟩)
          refine SY ?_ ?_
          ·intro b a w ha HM hb hon hoff K hK
           have e47 := PE ha 0 hon
           exact VL (.pointer (some ⟨gb760, 0, none⟩)) (hK.out _ _ ⟨PUT ha 1 hb, HM⟩)
          refine SY ?_ ?_
          ·intro b a w ha HM hb hon hoff K hK
           obtain ⟨z100_0, z100_1, z100_2, z100_3, z100_4, Z100_0, Z100_1, Z100_2, Z100_3, Z100_4⟩ := bk5 (HM.bx 2 rfl)
           have e48 := PE ha 1 hon
           exact VL (.int .i64 ((rd_T33 t748 x38_2).f0.f0)) (hK.out _ _ ⟨PUT ha 2 hb, HM⟩)
          refine SY ?_ ?_
          ·intro b a w ha HM hb hon hoff K hK
           have e8 := PG ha 8
           exact VL (.int .i64 x38_2) (hK.out _ _ ⟨PUT ha 3 hb, HM⟩)
          refine SY ?_ ?_
          ·intro b a w ha HM hb hon hoff K hK
           have e50 := PE ha 3 hon
           exact VL (.int .i64 (wrap64 (x38_2 + 1))) (hK.out _ _ ⟨PUT ha 4 hb, HM⟩)
          refine SY ?_ ?_
          ·intro b a w ha HM hb hon hoff K hK
           have e49 := PE ha 2 hon
           have e51 := PE ha 4 hon
           exact VL (.bool (((rd_T33 t748 x38_2).f0.f0) != (wrap64 (x38_2 + 1)))) (hK.out _ _ ⟨PUT ha 5 hb, HM⟩)
          refine SY ?_ ?_
          ·intro b a w ha HM hb hon hoff K hK
           have e52 := PE ha 5 hon
           exact VL (.bool (((rd_T33 t748 x38_2).f0.f0) != (wrap64 (x38_2 + 1)))) (hK.out _ _ ⟨PUT ha 6 hb, HM⟩)
          refine SY ?_ ?_
          ·intro b a w ha HM hb hon hoff K hK
           have e9 := PG ha 9
           have e53 := PE ha 6 hon
           exact VL (.pointer (some ⟨gb760, 3, none⟩)) (hK.out _ _ ⟨PUT ha 7 hb, HM⟩) (hw := wanted_on rfl rfl rfl (e53.trans (by first | rfl | (simp [*]; done))))
          refine SY ?_ ?_
          ·intro b a w ha HM hb hon hoff K hK
           obtain ⟨z101_0, z101_1, z101_2, z101_3, z101_4, Z101_0, Z101_1, Z101_2, Z101_3, Z101_4⟩ := bk5 (HM.bx 2 rfl)
           have e54 := PE ha 7 hon
           have e53 := PE ha 6 hon
           exact VL (.int .i64 ((rd_T33 t748 x38_2).f1)) (hK.out _ _ ⟨PUT ha 8 hb, HM⟩) (hw := wanted_on rfl rfl rfl (e53.trans (by first | rfl | (simp [*]; done))))
          refine SY ?_ ?_
          ·intro b a w ha HM hb hon hoff K hK
           have e10 := PG ha 10
           have e53 := PE ha 6 hon
           exact VL (.pointer (some ⟨gb765, 2, none⟩)) (hK.out _ _ ⟨PUT ha 9 hb, HM⟩) (hw := wanted_on rfl rfl rfl (e53.trans (by first | rfl | (simp [*]; done))))
          refine SY ?_ ?_
          ·intro b a w ha HM hb hon hoff K hK
           obtain ⟨z102_0, z102_1, z102_2, z102_3, Z102_0, Z102_1, Z102_2, Z102_3⟩ := bk4 (HM.bx 3 rfl)
           have e56 := PE ha 9 hon
           have e53 := PE ha 6 hon
           exact VL (.int .i64 t763) (hK.out _ _ ⟨PUT ha 10 hb, HM⟩) (hw := wanted_on rfl rfl rfl (e53.trans (by first | rfl | (simp [*]; done))))
          refine SY ?_ ?_
          ·intro b a w ha HM hb hon hoff K hK
           have e55 := PE ha 8 hon
           have e57 := PE ha 10 hon
           have e53 := PE ha 6 hon
           exact VL (.bool (((rd_T33 t748 x38_2).f1) != t763)) (hK.out _ _ ⟨PUT ha 11 hb, HM⟩) (hw := wanted_on rfl rfl rfl (e53.trans (by first | rfl | (simp [*]; done))))
          refine SY ?_ ?_
          ·intro b a w ha HM hb hon hoff K hK
           have e53 := PE ha 6 hon
           have e58 := PE ha 11 hon
           exact VL (.bool (((rd_T33 t748 x38_2).f1) != t763)) (hK.out _ _ ⟨PUT ha 12 hb, HM⟩)
          refine SY ?_ ?_
          ·intro b a w ha HM hb hon hoff K hK
           have e59 := PE ha 12 hon
           exact VL (.bool (((rd_T33 t748 x38_2).f1) != t763)) (hK.out _ _ ⟨PUT ha 13 hb, HM⟩)
          refine SY ?_ ?_
          ·intro b a w ha HM hb hon hoff K hK
           have e60 := PE ha 13 hon
           exact VN ( wanted_off rfl rfl rfl (e60.trans (by first | rfl | (simp [*]; done)))) (hK.out _ _ ⟨PUT ha 14 hb, HM⟩)
          refine SY ?_ ?_
          ·intro b a w ha HM hb hon hoff K hK
           have e60 := PE ha 13 hon
           exact VN ( wanted_off rfl rfl rfl (e60.trans (by first | rfl | (simp [*]; done)))) (hK.out _ _ ⟨PUT ha 15 hb, HM⟩)
          refine SY ?_ ?_
          ·intro b a w ha HM hb hon hoff K hK
           have e60 := PE ha 13 hon
           exact VN ( wanted_off rfl rfl rfl (e60.trans (by first | rfl | (simp [*]; done)))) (hK.out _ _ ⟨PUT ha 16 hb, HM⟩)
          refine SY ?_ ?_
          ·intro b a w ha HM hb hon hoff K hK
           have e60 := PE ha 13 hon
           exact VN ( wanted_off rfl rfl rfl (e60.trans (by first | rfl | (simp [*]; done)))) (hK.out _ _ ⟨PUT ha 17 hb, HM⟩)
          refine SY ?_ ?_
          ·intro b a w ha HM hb hon hoff K hK
           have e60 := PE ha 13 hon
           exact VN ( wanted_off rfl rfl rfl (e60.trans (by first | rfl | (simp [*]; done)))) (hK.out _ _ ⟨PUT ha 18 hb, HM⟩)
          refine SY ?_ ?_
          ·intro b a w ha HM hb hon hoff K hK
           have e60 := PE ha 13 hon
           have e65 := PE ha 18 hon
           exact VL (.bool true) (hK.out _ _ ⟨PUT ha 19 hb, HM⟩)
          refine SY ?_ ?_
          ·intro b a w ha HM hb hon hoff K hK
           have e66 := PE ha 19 hon
           exact VL (.bool true) (hK.out _ _ ⟨PUT ha 20 hb, HM⟩)
          refine SY ?_ ?_
          ·intro b a w ha HM hb hon hoff K hK
           have e67 := PE ha 20 hon
           exact VN ( wanted_off rfl rfl rfl (e67.trans (by first | rfl | (simp [*]; done)))) (hK.out _ _ ⟨PUT ha 21 hb, HM⟩)
          refine SY ?_ ?_
          ·intro b a w ha HM hb hon hoff K hK
           have e67 := PE ha 20 hon
           exact VN ( wanted_off rfl rfl rfl (e67.trans (by first | rfl | (simp [*]; done)))) (hK.out _ _ ⟨PUT ha 22 hb, HM⟩)
          refine SY ?_ ?_
          ·intro b a w ha HM hb hon hoff K hK
           have e67 := PE ha 20 hon
           exact VN ( wanted_off rfl rfl rfl (e67.trans (by first | rfl | (simp [*]; done)))) (hK.out _ _ ⟨PUT ha 23 hb, HM⟩)
          refine SY ?_ ?_
          ·intro b a w ha HM hb hon hoff K hK
           have e67 := PE ha 20 hon
           exact VN ( wanted_off rfl rfl rfl (e67.trans (by first | rfl | (simp [*]; done)))) (hK.out _ _ ⟨PUT ha 24 hb, HM⟩)
          refine SY ?_ ?_
          ·intro b a w ha HM hb hon hoff K hK
           have e67 := PE ha 20 hon
           exact VN ( wanted_off rfl rfl rfl (e67.trans (by first | rfl | (simp [*]; done)))) (hK.out _ _ ⟨PUT ha 25 hb, HM⟩)
          refine SY ?_ ?_
          ·intro b a w ha HM hb hon hoff K hK
           have e67 := PE ha 20 hon
           exact VN ( wanted_off rfl rfl rfl (e67.trans (by first | rfl | (simp [*]; done)))) (hK.out _ _ ⟨PUT ha 26 hb, HM⟩)
          refine SY ?_ ?_
          ·intro b a w ha HM hb hon hoff K hK
           have e67 := PE ha 20 hon
           have e73 := PE ha 26 hon
           exact VL (.bool true) (hK.out _ _ ⟨PUT ha 27 hb, HM⟩)
          refine SY ?_ ?_
          ·intro b a w ha HM hb hon hoff K hK
           have e74 := PE ha 27 hon
           exact VL (.bool true) (hK.out _ _ ⟨PUT ha 28 hb, HM⟩)
          refine SY ?_ ?_
          ·intro b a w ha HM hb hon hoff K hK
           have e75 := PE ha 28 hon
           exact VN ( wanted_off rfl rfl rfl (e75.trans (by first | rfl | (simp [*]; done)))) (hK.out _ _ ⟨PUT ha 29 hb, HM⟩)
          refine SY ?_ ?_
          ·intro b a w ha HM hb hon hoff K hK
           have e75 := PE ha 28 hon
           exact VN ( wanted_off rfl rfl rfl (e75.trans (by first | rfl | (simp [*]; done)))) (hK.out _ _ ⟨PUT ha 30 hb, HM⟩)
          refine SY ?_ ?_
          ·intro b a w ha HM hb hon hoff K hK
           have e75 := PE ha 28 hon
           exact VN ( wanted_off rfl rfl rfl (e75.trans (by first | rfl | (simp [*]; done)))) (hK.out _ _ ⟨PUT ha 31 hb, HM⟩)
          refine SY ?_ ?_
          ·intro b a w ha HM hb hon hoff K hK
           have e75 := PE ha 28 hon
           exact VN ( wanted_off rfl rfl rfl (e75.trans (by first | rfl | (simp [*]; done)))) (hK.out _ _ ⟨PUT ha 32 hb, HM⟩)
          refine SY ?_ ?_
          ·intro b a w ha HM hb hon hoff K hK
           have e75 := PE ha 28 hon
           exact VN ( wanted_off rfl rfl rfl (e75.trans (by first | rfl | (simp [*]; done)))) (hK.out _ _ ⟨PUT ha 33 hb, HM⟩)
          refine SY ?_ ?_
          ·intro b a w ha HM hb hon hoff K hK
           have e75 := PE ha 28 hon
           exact VN ( wanted_off rfl rfl rfl (e75.trans (by first | rfl | (simp [*]; done)))) (hK.out _ _ ⟨PUT ha 34 hb, HM⟩)
          refine SY ?_ ?_
          ·intro b a w ha HM hb hon hoff K hK
           have e75 := PE ha 28 hon
           exact VN ( wanted_off rfl rfl rfl (e75.trans (by first | rfl | (simp [*]; done)))) (hK.out _ _ ⟨PUT ha 35 hb, HM⟩)
          refine SY ?_ ?_
          ·intro b a w ha HM hb hon hoff K hK
           have e75 := PE ha 28 hon
           exact VN ( wanted_off rfl rfl rfl (e75.trans (by first | rfl | (simp [*]; done)))) (hK.out _ _ ⟨PUT ha 36 hb, HM⟩)
          refine SY ?_ ?_
          ·intro b a w ha HM hb hon hoff K hK
           have e75 := PE ha 28 hon
           have e83 := PE ha 36 hon
           exact VL (.bool true) (hK.out _ _ ⟨PUT ha 37 hb, HM⟩)
          refine SY ?_ ?_
          ·intro b a w ha HM hb hon hoff K hK
           have e84 := PE ha 37 hon
           exact VL (.bool true) (hK.out _ _ ⟨PUT ha 38 hb, HM⟩)
          refine SY ?_ ?_
          ·intro b a w ha HM hb hon hoff K hK
           have e85 := PE ha 38 hon
           exact VN ( wanted_off rfl rfl rfl (e85.trans (by first | rfl | (simp [*]; done)))) (hK.out _ _ ⟨PUT ha 39 hb, HM⟩)
          refine SY ?_ ?_
          ·intro b a w ha HM hb hon hoff K hK
           have e85 := PE ha 38 hon
           exact VN ( wanted_off rfl rfl rfl (e85.trans (by first | rfl | (simp [*]; done)))) (hK.out _ _ ⟨PUT ha 40 hb, HM⟩)
          refine SY ?_ ?_
          ·intro b a w ha HM hb hon hoff K hK
           have e85 := PE ha 38 hon
           exact VN ( wanted_off rfl rfl rfl (e85.trans (by first | rfl | (simp [*]; done)))) (hK.out _ _ ⟨PUT ha 41 hb, HM⟩)
          refine SY ?_ ?_
          ·intro b a w ha HM hb hon hoff K hK
           have e85 := PE ha 38 hon
           exact VN ( wanted_off rfl rfl rfl (e85.trans (by first | rfl | (simp [*]; done)))) (hK.out _ _ ⟨PUT ha 42 hb, HM⟩)
          refine SY ?_ ?_
          ·intro b a w ha HM hb hon hoff K hK
           have e85 := PE ha 38 hon
           exact VN ( wanted_off rfl rfl rfl (e85.trans (by first | rfl | (simp [*]; done)))) (hK.out _ _ ⟨PUT ha 43 hb, HM⟩)
          refine SY ?_ ?_
          ·intro b a w ha HM hb hon hoff K hK
           have e85 := PE ha 38 hon
           exact VN ( wanted_off rfl rfl rfl (e85.trans (by first | rfl | (simp [*]; done)))) (hK.out _ _ ⟨PUT ha 44 hb, HM⟩)
          refine SY ?_ ?_
          ·intro b a w ha HM hb hon hoff K hK
           have e85 := PE ha 38 hon
           exact VN ( wanted_off rfl rfl rfl (e85.trans (by first | rfl | (simp [*]; done)))) (hK.out _ _ ⟨PUT ha 45 hb, HM⟩)
          refine SY ?_ ?_
          ·intro b a w ha HM hb hon hoff K hK
           have e85 := PE ha 38 hon
           exact VN ( wanted_off rfl rfl rfl (e85.trans (by first | rfl | (simp [*]; done)))) (hK.out _ _ ⟨PUT ha 46 hb, HM⟩)
          refine SY ?_ ?_
          ·intro b a w ha HM hb hon hoff K hK
           have e85 := PE ha 38 hon
           have e93 := PE ha 46 hon
           exact VL (.bool true) (hK.out _ _ ⟨PUT ha 47 hb, HM⟩)
          exact steps_nil
         rintro _ w103 ⟨rfl, HM⟩
         simp only [putSel, if_true, Act.put, List.setIfInBounds_toArray, List.set_cons_zero, List.set_cons_succ, gt_iff_lt, ge_iff_le]
         exact absurd H (by simp)
       ·have c29b0 : (((rd_T33 t748 x38_2).f0.f0) == (wrap64 (x38_2 + 1))) = false := beq_eq_false_iff_ne.mpr c29
        have c29b1 : (((rd_T33 t748 x38_2).f0.f0) != (wrap64 (x38_2 + 1))) = true := bne_iff_ne.mpr c29
        refine RGN 48 [0, 1, 2, 3, 4, 5, 6, 7, 8, 9, 10, 11, 12, 13, 14, 15, 16, 17, 18, 19, 20, 21, 22, 23, 24, 25, 26, 27, 28, 29, 30, 31, 32, 33, 34, 35, 36, 37, 38, 39, 40, 41, 42, 43, 44, 45, 46, 47] (fun a0 b a w' => a = putSel a0 b [(0, 47, .pointer (some ⟨gb760, 0, none⟩)), (1, 48, .pointer (some ⟨gb760, 0, none⟩)), (2, 49, .int .i64 ((rd_T33 t748 x38_2).f0.f0)), (3, 50, .int .i64 x38_2), (4, 51, .int .i64 (wrap64 (x38_2 + 1))), (5, 52, .bool (((rd_T33 t748 x38_2).f0.f0) != (wrap64 (x38_2 + 1)))), (6, 53, .bool (((rd_T33 t748 x38_2).f0.f0) != (wrap64 (x38_2 + 1)))), (7, 54, undef), (8, 55, undef), (9, 56, undef), (10, 57, undef), (11, 58, undef), (12, 59, .bool true), (13, 60, .bool true), (14, 61, undef), (15, 62, undef), (16, 63, undef), (17, 64, undef), (18, 65, undef), (19, 66, .bool true), (20, 67, .bool true), (21, 68, undef), (22, 69, undef), (23, 70, undef), (24, 71, undef), (25, 72, undef), (26, 73, undef), (27, 74, .bool true), (28, 75, .bool true), (29, 76, undef), (30, 77, undef), (31, 78, undef), (32, 79, undef), (33, 80, undef), (34, 81, undef), (35, 82, undef), (36, 83, undef), (37, 84, .bool true), (38, 85, .bool true), (39, 86, undef), (40, 87, undef), (41, 88, undef), (42, 89, undef), (43, 90, undef), (44, 91, undef), (45, 92, undef), (46, 93, undef), (47, 94, .bool true)] ∧ Mem w [] w' [rowR Kd.string 9 (.slice Xo9 t744.length ko9) t744, rowR k33 33 (.slice (some ad759) t748.length ko10) t748, box 33 gb760 [.int .i64 ((rd_T33 t748 x38_2).f0.f0), .int .i64 ((rd_T33 t748 x38_2).f0.f1), .int .i64 ((rd_T33 t748 x38_2).f0.f2), .int .i64 ((rd_T33 t748 x38_2).f1), .int .i64 ((rd_T33 t748 x38_2).f2)], box 35 gb765 [.int .i64 t761, .int .i64 t762, .int .i64 t763, .int .i64 t764]]) laws_FnLab.tab16 laws_FnLab.bits16 ?_ ?_ ?_
        ·exact ⟨PS0' rfl _, (HM.drew).pick [0, 1, 2, 3]⟩
        ·clear HM
         refine SY ?_ ?_
         ·intro b a w ha HM hb hon hoff K hK
          have e9 := PG ha 9
          exact VL (.pointer (some ⟨gb760, 0, none⟩)) (hK.out _ _ ⟨PUT ha 0 hb, HM⟩)
         refine SY ?_ ?_
         ·intro b a w ha HM hb hon hoff K hK
          have e47 := PE ha 0 hon
          exact VL (.pointer (some ⟨gb760, 0, none⟩)) (hK.out _ _ ⟨PUT ha 1 hb, HM⟩)
         refine SY ?_ ?_
         ·intro b a w ha HM hb hon hoff K hK
          obtain ⟨z105_0, z105_1, z105_2, z105_3, z105_4, Z105_0, Z105_1, Z105_2, Z105_3, Z105_4⟩ := bk5 (HM.bx 2 rfl)
          have e48 := PE ha 1 hon
          exact VL (.int .i64 ((rd_T33 t748 x38_2).f0.f0)) (hK.out _ _ ⟨PUT ha 2 hb, HM⟩)
         refine SY ?_ ?_
         ·intro b a w ha HM hb hon hoff K hK
          have e8 := PG ha 8
          exact VL (.int .i64 x38_2) (hK.out _ _ ⟨PUT ha 3 hb, HM⟩)
         refine SY ?_ ?_
         ·intro b a w ha HM hb hon hoff K hK
          have e50 := PE ha 3 hon
          exact VL (.int .i64 (wrap64 (x38_2 + 1))) (hK.out _ _ ⟨PUT ha 4 hb, HM⟩)
         refine SY ?_ ?_
         ·intro b a w ha HM hb hon hoff K hK
          have e49 := PE ha 2 hon
          have e51 := PE ha 4 hon
          exact VL (.bool (((rd_T33 t748 x38_2).f0.f0) != (wrap64 (x38_2 + 1)))) (hK.out _ _ ⟨PUT ha 5 hb, HM⟩)
         refine SY ?_ ?_
         ·intro b a w ha HM hb hon hoff K hK
          have e52 := PE ha 5 hon
          exact VL (.bool (((rd_T33 t748 x38_2).f0.f0) != (wrap64 (x38_2 + 1)))) (hK.out _ _ ⟨PUT ha 6 hb, HM⟩)
         refine SY ?_ ?_
         ·intro b a w ha HM hb hon hoff K hK
          have e53 := PE ha 6 hon
          exact VN ( wanted_off rfl rfl rfl (e53.trans (by first | rfl | (simp [*]; done)))) (hK.out _ _ ⟨PUT ha 7 hb, HM⟩)
         refine SY ?_ ?_
         ·intro b a w ha HM hb hon hoff K hK
          have e53 := PE ha 6 hon
          exact VN ( wanted_off rfl rfl rfl (e53.trans (by first | rfl | (simp [*]; done)))) (hK.out _ _ ⟨PUT ha 8 hb, HM⟩)
         refine SY ?_ ?_
         ·intro b a w ha HM hb hon hoff K hK
          have e53 := PE ha 6 hon
          exact VN ( wanted_off rfl rfl rfl (e53.trans (by first | rfl | (simp [*]; done)))) (hK.out _ _ ⟨PUT ha 9 hb, HM⟩)
         refine SY ?_ ?_
         ·intro b a w ha HM hb hon hoff K hK
          have e53 := PE ha 6 hon
          exact VN ( wanted_off rfl rfl rfl (e53.trans (by first | rfl | (simp [*]; done)))) (hK.out _ _ ⟨PUT ha 10 hb, HM⟩)
         refine SY ?_ ?_
         ·intro b a w ha HM hb hon hoff K hK
          have e53 := PE ha 6 hon
          exact VN ( wanted_off rfl rfl rfl (e53.trans (by first | rfl | (simp [*]; done)))) (hK.out _ _ ⟨PUT ha 11 hb, HM⟩)
         refine SY ?_ ?_
         ·intro b a w ha HM hb hon hoff K hK
          have e53 := PE ha 6 hon
          have e58 := PE ha 11 hon
          exact VL (.bool true) (hK.out _ _ ⟨PUT ha 12 hb, HM⟩)
         refine SY ?_ ?_
         ·intro b a w ha HM hb hon hoff K hK
          have e59 := PE ha 12 hon
          exact VL (.bool true) (hK.out _ _ ⟨PUT ha 13 hb, HM⟩)
         refine SY ?_ ?_
         ·intro b a w ha HM hb hon hoff K hK
          have e60 := PE ha 13 hon
          exact VN ( wanted_off rfl rfl rfl (e60.trans (by first | rfl | (simp [*]; done)))) (hK.out _ _ ⟨PUT ha 14 hb, HM⟩)
         refine SY ?_ ?_
         ·intro b a w ha HM hb hon hoff K hK
          have e60 := PE ha 13 hon
          exact VN ( wanted_off rfl rfl rfl (e60.trans (by first | rfl | (simp [*]; done)))) (hK.out _ _ ⟨PUT ha 15 hb, HM⟩)
         refine SY ?_ ?_
         ·intro b a w ha HM hb hon hoff K hK
          have e60 := PE ha 13 hon
          exact VN ( wanted_off rfl rfl rfl (e60.trans (by first | rfl | (simp [*]; done)))) (hK.out _ _ ⟨PUT ha 16 hb, HM⟩)
         refine SY ?_ ?_
         ·intro b a w ha HM hb hon hoff K hK
          have e60 := PE ha 13 hon
          exact VN ( wanted_off rfl rfl rfl (e60.trans (by first | rfl | (simp [*]; done)))) (hK.out _ _ ⟨PUT ha 17 hb, HM⟩)
         refine SY ?_ ?_
         ·intro b a w ha HM hb hon hoff K hK
          have e60 := PE ha 13 hon
          exact VN ( wanted_off rfl rfl rfl (e60.trans (by first | rfl | (simp [*]; done)))) (hK.out _ _ ⟨PUT ha 18 hb, HM⟩)
         refine SY ?_ ?_
         ·intro b a w ha HM hb hon hoff K hK
          have e60 := PE ha 13 hon
          have e65 := PE ha 18 hon
          exact VL (.bool true) (hK.out _ _ ⟨PUT ha 19 hb, HM⟩)
         refine SY ?_ ?_
         ·intro b a w ha HM hb hon hoff K hK
          have e66 := PE ha 19 hon
          exact VL (.bool true) (hK.out _ _ ⟨PUT ha 20 hb, HM⟩)
         refine SY ?_ ?_
         ·intro b a w ha HM hb hon hoff K hK
          have e67 := PE ha 20 hon
          exact VN ( wanted_off rfl rfl rfl (e67.trans (by first | rfl | (simp [*]; done)))) (hK.out _ _ ⟨PUT ha 21 hb, HM⟩)
         refine SY ?_ ?_
         ·intro b a w ha HM hb hon hoff K hK
          have e67 := PE ha 20 hon
          exact VN ( wanted_off rfl rfl rfl (e67.trans (by first | rfl | (simp [*]; done)))) (hK.out _ _ ⟨PUT ha 22 hb, HM⟩)
         refine SY ?_ ?_
         ·intro b a w ha HM hb hon hoff K hK
          have e67 := PE ha 20 hon
          exact VN ( wanted_off rfl rfl rfl (e67.trans (by first | rfl | (simp [*]; done)))) (hK.out _ _ ⟨PUT ha 23 hb, HM⟩)
         refine SY ?_ ?_
         ·intro b a w ha HM hb hon hoff K hK
          have e67 := PE ha 20 hon
          exact VN ( wanted_off rfl rfl rfl (e67.trans (by first | rfl | (simp [*]; done)))) (hK.out _ _ ⟨PUT ha 24 hb, HM⟩)
         refine SY ?_ ?_
         ·intro b a w ha HM hb hon hoff K hK
          have e67 := PE ha 20 hon
          exact VN ( wanted_off rfl rfl rfl (e67.trans (by first | rfl | (simp [*]; done)))) (hK.out _ _ ⟨PUT ha 25 hb, HM⟩)
         refine SY ?_ ?_
         ·intro b a w ha HM hb hon hoff K hK
          have e67 := PE ha 20 hon
          exact VN ( wanted_off rfl rfl rfl (e67.trans (by first | rfl | (simp [*]; done)))) (hK.out _ _ ⟨PUT ha 26 hb, HM⟩)
         refine SY ?_ ?_
         ·intro b a w ha HM hb hon hoff K hK
          have e67 := PE ha 20 hon
          have e73 := PE ha 26 hon
          exact VL (.bool true) (hK.out _ _ ⟨PUT ha 27 hb, HM⟩)
         refine SY ?_ ?_
         ·intro b a w ha HM hb hon hoff K hK
          have e74 := PE ha 27 hon
          exact VL (.bool true) (hK.out _ _ ⟨PUT ha 28 hb, HM⟩)
         refine SY ?_ ?_
         ·intro b a w ha HM hb hon hoff K hK
          have e75 := PE ha 28 hon
          exact VN ( wanted_off rfl rfl rfl (e75.trans (by first | rfl | (simp [*]; done)))) (hK.out _ _ ⟨PUT ha 29 hb, HM⟩)
         refine SY ?_ ?_
         ·intro b a w ha HM hb hon hoff K hK
          have e75 := PE ha 28 hon
          exact VN ( wanted_off rfl rfl rfl (e75.trans (by first | rfl | (simp [*]; done)))) (hK.out _ _ ⟨PUT ha 30 hb, HM⟩)
         refine SY ?_ ?_
         ·intro b a w ha HM hb hon hoff K hK
          have e75 := PE ha 28 hon
          exact VN ( wanted_off rfl rfl rfl (e75.trans (by first | rfl | (simp [*]; done)))) (hK.out _ _ ⟨PUT ha 31 hb, HM⟩)
         refine SY ?_ ?_
         ·intro b a w ha HM hb hon hoff K hK
          have e75 := PE ha 28 hon
          exact VN ( wanted_off rfl rfl rfl (e75.trans (by first | rfl | (simp [*]; done)))) (hK.out _ _ ⟨PUT ha 32 hb, HM⟩)
         refine SY ?_ ?_
         ·intro b a w ha HM hb hon hoff K hK
          have e75 := PE ha 28 hon
          exact VN ( wanted_off rfl rfl rfl (e75.trans (by first | rfl | (simp [*]; done)))) (hK.out _ _ ⟨PUT ha 33 hb, HM⟩)
         refine SY ?_ ?_
         ·intro b a w ha HM hb hon hoff K hK
          have e75 := PE ha 28 hon
          exact VN ( wanted_off rfl rfl rfl (e75.trans (by first | rfl | (simp [*]; done)))) (hK.out _ _ ⟨PUT ha 34 hb, HM⟩)
         refine SY ?_ ?_
         ·intro b a w ha HM hb hon hoff K hK
          have e75 := PE ha 28 hon
          exact VN ( wanted_off rfl rfl rfl (e75.trans (by first | rfl | (simp [*]; done)))) (hK.out _ _ ⟨PUT ha 35 hb, HM⟩)
         refine SY ?_ ?_
         ·intro b a w ha HM hb hon hoff K hK
          have e75 := PE ha 28 hon
          exact VN ( wanted_off rfl rfl rfl (e75.trans (by first | rfl | (simp [*]; done)))) (hK.out _ _ ⟨PUT ha 36 hb, HM⟩)
         refine SY ?_ ?_
         ·intro b a w ha HM hb hon hoff K hK
          have e75 := PE ha 28 hon
          have e83 := PE ha 36 hon
          exact VL (.bool true) (hK.out _ _ ⟨PUT ha 37 hb, HM⟩)
         refine SY ?_ ?_
         ·intro b a w ha HM hb hon hoff K hK
          have e84 := PE ha 37 hon
          exact VL (.bool true) (hK.out _ _ ⟨PUT ha 38 hb, HM⟩)
         refine SY ?_ ?_
         ·intro b a w ha HM hb hon hoff K hK
          have e85 := PE ha 38 hon
          exact VN ( wanted_off rfl rfl rfl (e85.trans (by first | rfl | (simp [*]; done)))) (hK.out _ _ ⟨PUT ha 39 hb, HM⟩)
         refine SY ?_ ?_
         ·intro b a w ha HM hb hon hoff K hK
          have e85 := PE ha 38 hon
          exact VN ( wanted_off rfl rfl rfl (e85.trans (by first | rfl | (simp [*]; done)))) (hK.out _ _ ⟨PUT ha 40 hb, HM⟩)
         refine SY ?_ ?_
         ·intro b a w ha HM hb hon hoff K hK
          have e85 := PE ha 38 hon
          exact VN ( wanted_off rfl rfl rfl (e85.trans (by first | rfl | (simp [*]; done)))) (hK.out _ _ ⟨PUT ha 41 hb, HM⟩)
         refine SY ?_ ?_
         ·intro b a w ha HM hb hon hoff K hK
          have e85 := PE ha 38 hon
          exact VN ( wanted_off rfl rfl rfl (e85.trans (by first | rfl | (simp [*]; done)))) (hK.out _ _ ⟨PUT ha 42 hb, HM⟩)
         refine SY ?_ ?_
         ·intro b a w ha HM hb hon hoff K hK
          have e85 := PE ha 38 hon
          exact VN ( wanted_off rfl rfl rfl (e85.trans (by first | rfl | (simp [*]; done)))) (hK.out _ _ ⟨PUT ha 43 hb, HM⟩)
         refine SY ?_ ?_
         ·intro b a w ha HM hb hon hoff K hK
          have e85 := PE ha 38 hon
          exact VN ( wanted_off rfl rfl rfl (e85.trans (by first | rfl | (simp [*]; done)))) (hK.out _ _ ⟨PUT ha 44 hb, HM⟩)
         refine SY ?_ ?_
         ·intro b a w ha HM hb hon hoff K hK
          have e85 := PE ha 38 hon
          exact VN ( wanted_off rfl rfl rfl (e85.trans (by first | rfl | (simp [*]; done)))) (hK.out _ _ ⟨PUT ha 45 hb, HM⟩)
         refine SY ?_ ?_
         ·intro b a w ha HM hb hon hoff K hK
          have e85 := PE ha 38 hon
          exact VN ( wanted_off rfl rfl rfl (e85.trans (by first | rfl | (simp [*]; done)))) (hK.out _ _ ⟨PUT ha 46 hb, HM⟩)
         refine SY ?_ ?_
         ·intro b a w ha HM hb hon hoff K hK
          have e85 := PE ha 38 hon
          have e93 := PE ha 46 hon
          exact VL (.bool true) (hK.out _ _ ⟨PUT ha 47 hb, HM⟩)
         exact steps_nil
        rintro _ w106 ⟨rfl, HM⟩
        simp only [putSel, if_true, Act.put, List.setIfInBounds_toArray, List.set_cons_zero, List.set_cons_succ, gt_iff_lt, ge_iff_le]
        exact absurd H (by simp)
      ·have c19b0 : decide (x38_2 < (t748.length : Int)) = false := decide_eq_false c19
       clear c19
       (first | rw [c19b0] | (simp only [i64_w, i32_w]; rw [c19b0]) | skip)
       replace H := BN H; obtain ⟨t753, A107, H⟩ := H
       try go_wp2_with (first | ((with_reducible refine gC 13 rfl ?_); refine pC (some 104) rfl #[.slice Xo9 t744.length ko9, .int .i64 (wrap64 (1 + t747))] rfl Try.func13 (impl_Survey.calls k2 _ _ t744 (wrap64 (1 + t747)) t753 _ (HM.CR 0 rfl).2.2 (HM.CR 0 rfl).2.1 A107.out) ?_; rintro e w108 ⟨v754, rfl, hR⟩; refine ⟨_, rfl, ?_⟩; replace HM := HM.call hR; clear hR))
       replace H := IT H; rcases H with ⟨c109, H⟩ | ⟨c109, H⟩
       ·have c109b0 : ((t753.length : Int) == (wrap64 (1 + t747))) = true := beq_iff_eq.mpr c109
        have c109b1 : ((t753.length : Int) != (wrap64 (1 + t747))) = false := bne_eq_false_iff_eq.mpr c109
        clear c109
        replace H := GD H; obtain ⟨c110, H⟩ := H
        have c110b0 : decide (0 ≤ (wrap64 ((wrap64 (1 + t747)) - 1))) = true := decide_eq_true c110
        clear c110
        replace H := GD H; obtain ⟨c111, H⟩ := H
        have c111b0 : decide ((wrap64 ((wrap64 (1 + t747)) - 1)) < (t753.length : Int)) = true := decide_eq_true c111
        clear c111
        replace H := GD H; obtain ⟨c112, H⟩ := H
        have c112b0 := eq_true c112
        have c112b1 : decide (x7_2.size + 1 ≤ 9223372036854775807) = true := decide_eq_true c112
        try have c112b2 : (9223372036854775807 < x7_2.size + 1) = False := eq_false (Nat.not_lt.2 c112)
        replace H := GD H; obtain ⟨c113, H⟩ := H
        replace c113 : 0 < (t748.length : Int) := c113
        have c113b0 : decide (0 < (t748.length : Int)) = true := decide_eq_true c113
        have c113b1 : decide (0 < t748.length) = true := decide_eq_true (by omega)
        have c113b9 : decide (0 < t748.length) = true := decide_eq_true (by omega)
        clear c113
        replace H := BN H; obtain ⟨t758, A114, H⟩ := H
        replace H := GD H; obtain ⟨c115, H⟩ := H
        have c115b0 := eq_true c115
        have c115b1 : decide (x7_2.size + 1 + t758.size ≤ 9223372036854775807) = true := decide_eq_true c115
        try have c115b2 : (9223372036854775807 < x7_2.size + 1 + t758.size) = False := eq_false (Nat.not_lt.2 c115)
        obtain ⟨Xo120, ko120, eo120⟩ := HM.rdR 2 rfl
        subst eo120
        have p756 : 0 ≤ ((wrap64 ((wrap64 (1 + t747)) - 1)) : Int) := of_decide_eq_true AS
        have q756 : ((wrap64 ((wrap64 (1 + t747)) - 1)) : Int) < (t753.length : Int) := of_decide_eq_true AS
        obtain ⟨ad756, e756, hx756_0⟩ := Kd.at_string (HM.CR 2 rfl).2.2 (wrap64 ((wrap64 (1 + t747)) - 1)) p756 q756
        cases e756
        replace p756 := eq_true p756
        replace q756 := eq_true q756
        have p757 : 0 ≤ (0 : Int) := (by omega)
        have q757 : (0 : Int) < (t748.length : Int) := of_decide_eq_true AS
        obtain ⟨ad757, e757, hx757_0, hx757_1, hx757_2, hx757_3, hx757_4⟩ := at_T33 (HM.CR 1 rfl).2.2 0 p757 q757
        cases e757
        have qi757 : (0 < t748.length) = True := eq_true (by omega)
        (try rw [show ((0 : Int)).toNat = 0 from rfl] at hx757_0)
        (try rw [show 0 * 5 = 0 from rfl] at hx757_0)
        (try rw [Addr.add_zero'] at hx757_0)
        (try rw [show ((0 : Int)).toNat = 0 from rfl] at hx757_1)
        (try rw [show 0 * 5 = 0 from rfl] at hx757_1)
        (try rw [Addr.add_zero'] at hx757_1)
        (try rw [show ((0 : Int)).toNat = 0 from rfl] at hx757_2)
        (try rw [show 0 * 5 = 0 from rfl] at hx757_2)
        (try rw [Addr.add_zero'] at hx757_2)
        (try rw [show ((0 : Int)).toNat = 0 from rfl] at hx757_3)
        (try rw [show 0 * 5 = 0 from rfl] at hx757_3)
        (try rw [Addr.add_zero'] at hx757_3)
        (try rw [show ((0 : Int)).toNat = 0 from rfl] at hx757_4)
        (try rw [show 0 * 5 = 0 from rfl] at hx757_4)
        (try rw [Addr.add_zero'] at hx757_4)
        replace p757 := eq_true p757
        replace q757 := eq_true q757
        refine RGN 21 [0, 1, 2, 3, 4, 5, 6, 7, 8, 9, 10, 11, 12, 13, 14, 15, 16, 17, 18, 19, 20] (fun a0 b a w' => a = putSel a0 b [(0, 105, .slice (some ad756) t753.length ko120), (1, 106, .int .i64 (t753.length : Int)), (2, 107, .int .i64 (wrap64 (1 + t747))), (3, 108, .bool ((t753.length : Int) == (wrap64 (1 + t747)))), (4, 109, .bool ((t753.length : Int) == (wrap64 (1 + t747)))), (5, 110, .slice (some ad756) t753.length ko120), (6, 111, .int .i64 (wrap64 (1 + t747))), (7, 112, .int .i64 (wrap64 ((wrap64 (1 + t747)) - 1))), (8, 113, .pointer (some (ad756.add ((wrap64 ((wrap64 (1 + t747)) - 1))).toNat))), (9, 114, .string (rdOf ByteArray.empty t753 (wrap64 ((wrap64 (1 + t747)) - 1)))), (10, 115, .string x7_2), (11, 116, .string (x7_2 ++ (⟨#[32]⟩ : ByteArray))), (12, 117, .slice (some ad757) t748.length ko10), (13, 118, .pointer (some ad757)), (14, 119, .pointer (some ⟨ad757.block, ad757.off + 4, none⟩)), (15, 120, .int .i64 ((rd_T33 t748 0).f2)), (16, 121, .string t758), (17, 122, .string ((x7_2 ++ (⟨#[32]⟩ : ByteArray)) ++ t758)), (18, 123, .bool ((rdOf ByteArray.empty t753 (wrap64 ((wrap64 (1 + t747)) - 1))).toList == ((x7_2 ++ (⟨#[32]⟩ : ByteArray)) ++ t758).toList)), (19, 124, .bool ((rdOf ByteArray.empty t753 (wrap64 ((wrap64 (1 + t747)) - 1))).toList == ((x7_2 ++ (⟨#[32]⟩ : ByteArray)) ++ t758).toList)), (20, 2, .bool ((rdOf ByteArray.empty t753 (wrap64 ((wrap64 (1 + t747)) - 1))).toList == ((x7_2 ++ (⟨#[32]⟩ : ByteArray)) ++ t758).toList))] ∧ Mem w [] w' [rowR Kd.string 9 (.slice Xo9 t744.length ko9) t744, rowR k33 33 (.slice (some ad757) t748.length ko10) t748, rowR Kd.string 9 (.slice (some ad756) t753.length ko120) t753]) laws_FnLab.tab21 laws_FnLab.bits21 ?_ ?_ ?_
        ·exact ⟨PS0' rfl _, (HM.drew).pick [0, 1, 2]⟩
        ·clear HM
         refine SY ?_ ?_
         ·intro b a w ha HM hb hon hoff K hK
          have e11 := PG ha 11
          exact VL (.slice (some ad756) t753.length ko120) (hK.out _ _ ⟨PUT ha 0 hb, HM⟩)
         refine SY ?_ ?_
         ·intro b a w ha HM hb hon hoff K hK
          have e105 := PE ha 0 hon
          exact VL (.int .i64 (t753.length : Int)) (hK.out _ _ ⟨PUT ha 1 hb, HM⟩)
         refine SY ?_ ?_
         ·intro b a w ha HM hb hon hoff K hK
          have e4 := PG ha 4
          exact VL (.int .i64 (wrap64 (1 + t747))) (hK.out _ _ ⟨PUT ha 2 hb, HM⟩)
         refine SY ?_ ?_
         ·intro b a w ha HM hb hon hoff K hK
          have e106 := PE ha 1 hon
          have e107 := PE ha 2 hon
          exact VL (.bool ((t753.length : Int) == (wrap64 (1 + t747)))) (hK.out _ _ ⟨PUT ha 3 hb, HM⟩)
         refine SY ?_ ?_
         ·intro b a w ha HM hb hon hoff K hK
          have e108 := PE ha 3 hon
          exact VL (.bool ((t753.length : Int) == (wrap64 (1 + t747)))) (hK.out _ _ ⟨PUT ha 4 hb, HM⟩)
         refine SY ?_ ?_
         ·intro b a w ha HM hb hon hoff K hK
          have e11 := PG ha 11
          have e109 := PE ha 4 hon
          exact VL (.slice (some ad756) t753.length ko120) (hK.out _ _ ⟨PUT ha 5 hb, HM⟩) (hw := wanted_on rfl rfl rfl (e109.trans (by first | rfl | (simp [*]; done))))
         refine SY ?_ ?_
         ·intro b a w ha HM hb hon hoff K hK
          have e4 := PG ha 4
          have e109 := PE ha 4 hon
          exact VL (.int .i64 (wrap64 (1 + t747))) (hK.out _ _ ⟨PUT ha 6 hb, HM⟩) (hw := wanted_on rfl rfl rfl (e109.trans (by first | rfl | (simp [*]; done))))
         refine SY ?_ ?_
         ·intro b a w ha HM hb hon hoff K hK
          have e111 := PE ha 6 hon
          have e109 := PE ha 4 hon
          exact VL (.int .i64 (wrap64 ((wrap64 (1 + t747)) - 1))) (hK.out _ _ ⟨PUT ha 7 hb, HM⟩) (hw := wanted_on rfl rfl rfl (e109.trans (by first | rfl | (simp [*]; done))))
         refine SY ?_ ?_
         ·intro b a w ha HM hb hon hoff K hK
          have p756 : 0 ≤ ((wrap64 ((wrap64 (1 + t747)) - 1)) : Int) := of_decide_eq_true AS
          have q756 : ((wrap64 ((wrap64 (1 + t747)) - 1)) : Int) < (t753.length : Int) := of_decide_eq_true AS
          obtain ⟨ad756, e756, hx756_0⟩ := Kd.at_string (HM.CR 2 rfl).2.2 (wrap64 ((wrap64 (1 + t747)) - 1)) p756 q756
          obtain rfl := Option.some.inj e756
          replace p756 := eq_true p756
          replace q756 := eq_true q756
          have e110 := PE ha 5 hon
          have e112 := PE ha 7 hon
          have e109 := PE ha 4 hon
          exact VL (.pointer (some (ad756.add ((wrap64 ((wrap64 (1 + t747)) - 1))).toNat))) (hK.out _ _ ⟨PUT ha 8 hb, HM⟩) (hw := wanted_on rfl rfl rfl (e109.trans (by first | rfl | (simp [*]; done))))
         refine SY ?_ ?_
         ·intro b a w ha HM hb hon hoff K hK
          have p756 : 0 ≤ ((wrap64 ((wrap64 (1 + t747)) - 1)) : Int) := of_decide_eq_true AS
          have q756 : ((wrap64 ((wrap64 (1 + t747)) - 1)) : Int) < (t753.length : Int) := of_decide_eq_true AS
          obtain ⟨ad756, e756, hx756_0⟩ := Kd.at_string (HM.CR 2 rfl).2.2 (wrap64 ((wrap64 (1 + t747)) - 1)) p756 q756
          obtain rfl := Option.some.inj e756
          replace p756 := eq_true p756
          replace q756 := eq_true q756
          have e113 := PE ha 8 hon
          have e109 := PE ha 4 hon
          exact VL (.string (rdOf ByteArray.empty t753 (wrap64 ((wrap64 (1 + t747)) - 1)))) (hK.out _ _ ⟨PUT ha 9 hb, HM⟩) (hw := wanted_on rfl rfl rfl (e109.trans (by first | rfl | (simp [*]; done))))
         refine SY ?_ ?_
         ·intro b a w ha HM hb hon hoff K hK
          have e7 := PG ha 7
          have e109 := PE ha 4 hon
          exact VL (.string x7_2) (hK.out _ _ ⟨PUT ha 10 hb, HM⟩) (hw := wanted_on rfl rfl rfl (e109.trans (by first | rfl | (simp [*]; done))))
         refine SY ?_ ?_
         ·intro b a w ha HM hb hon hoff K hK
          have e115 := PE ha 10 hon
          have e109 := PE ha 4 hon
          exact VL (.string (x7_2 ++ (⟨#[32]⟩ : ByteArray))) (hK.out _ _ ⟨PUT ha 11 hb, HM⟩) (hw := wanted_on rfl rfl rfl (e109.trans (by first | rfl | (simp [*]; done))))
         refine SY ?_ ?_
         ·intro b a w ha HM hb hon hoff K hK
          have e5 := PG ha 5
          have e109 := PE ha 4 hon
          exact VL (.slice (some ad757) t748.length ko10) (hK.out _ _ ⟨PUT ha 12 hb, HM⟩) (hw := wanted_on rfl rfl rfl (e109.trans (by first | rfl | (simp [*]; done))))
         refine SY ?_ ?_
         ·intro b a w ha HM hb hon hoff K hK
          have p757 : 0 ≤ (0 : Int) := (by omega)
          have q757 : (0 : Int) < (t748.length : Int) := of_decide_eq_true AS
          obtain ⟨ad757, e757, hx757_0, hx757_1, hx757_2, hx757_3, hx757_4⟩ := at_T33 (HM.CR 1 rfl).2.2 0 p757 q757
          obtain rfl := Option.some.inj e757
          have qi757 : (0 < t748.length) = True := eq_true (by omega)
          (try rw [show ((0 : Int)).toNat = 0 from rfl] at hx757_0)
          (try rw [show 0 * 5 = 0 from rfl] at hx757_0)
          (try rw [Addr.add_zero'] at hx757_0)
          (try rw [show ((0 : Int)).toNat = 0 from rfl] at hx757_1)
          (try rw [show 0 * 5 = 0 from rfl] at hx757_1)
          (try rw [Addr.add_zero'] at hx757_1)
          (try rw [show ((0 : Int)).toNat = 0 from rfl] at hx757_2)
          (try rw [show 0 * 5 = 0 from rfl] at hx757_2)
          (try rw [Addr.add_zero'] at hx757_2)
          (try rw [show ((0 : Int)).toNat = 0 from rfl] at hx757_3)
          (try rw [show 0 * 5 = 0 from rfl] at hx757_3)
          (try rw [Addr.add_zero'] at hx757_3)
          (try rw [show ((0 : Int)).toNat = 0 from rfl] at hx757_4)
          (try rw [show 0 * 5 = 0 from rfl] at hx757_4)
          (try rw [Addr.add_zero'] at hx757_4)
          replace p757 := eq_true p757
          replace q757 := eq_true q757
          have e117 := PE ha 12 hon
          have e109 := PE ha 4 hon
          exact VL (.pointer (some ad757)) (hK.out _ _ ⟨PUT ha 13 hb, HM⟩) (hw := wanted_on rfl rfl rfl (e109.trans (by first | rfl | (simp [*]; done))))
         refine SY ?_ ?_
         ·intro b a w ha HM hb hon hoff K hK
          have e118 := PE ha 13 hon
          have e109 := PE ha 4 hon
          exact VL (.pointer (some ⟨ad757.block, ad757.off + 4, none⟩)) (hK.out _ _ ⟨PUT ha 14 hb, HM⟩) (hw := wanted_on rfl rfl rfl (e109.trans (by first | rfl | (simp [*]; done))))
         refine SY ?_ ?_
         ·intro b a w ha HM hb hon hoff K hK
          have p757 : 0 ≤ (0 : Int) := (by omega)
          have q757 : (0 : Int) < (t748.length : Int) := of_decide_eq_true AS
          obtain ⟨ad757, e757, hx757_0, hx757_1, hx757_2, hx757_3, hx757_4⟩ := at_T33 (HM.CR 1 rfl).2.2 0 p757 q757
          obtain rfl := Option.some.inj e757
          have qi757 : (0 < t748.length) = True := eq_true (by omega)
          (try rw [show ((0 : Int)).toNat = 0 from rfl] at hx757_0)
          (try rw [show 0 * 5 = 0 from rfl] at hx757_0)
          (try rw [Addr.add_zero'] at hx757_0)
          (try rw [show ((0 : Int)).toNat = 0 from rfl] at hx757_1)
          (try rw [show 0 * 5 = 0 from rfl] at hx757_1)
          (try rw [Addr.add_zero'] at hx757_1)
          (try rw [show ((0 : Int)).toNat = 0 from rfl] at hx757_2)
          (try rw [show 0 * 5 = 0 from rfl] at hx757_2)
          (try rw [Addr.add_zero'] at hx757_2)
          (try rw [show ((0 : Int)).toNat = 0 from rfl] at hx757_3)
          (try rw [show 0 * 5 = 0 from rfl] at hx757_3)
          (try rw [Addr.add_zero'] at hx757_3)
          (try rw [show ((0 : Int)).toNat = 0 from rfl] at hx757_4)
          (try rw [show 0 * 5 = 0 from rfl] at hx757_4)
          (try rw [Addr.add_zero'] at hx757_4)
          replace p757 := eq_true p757
          replace q757 := eq_true q757
          have e119 := PE ha 14 hon
          have e109 := PE ha 4 hon
          exact VL (.int .i64 ((rd_T33 t748 0).f2)) (hK.out _ _ ⟨PUT ha 15 hb, HM⟩) (hw := wanted_on rfl rfl rfl (e109.trans (by first | rfl | (simp [*]; done))))
         refine SY ?_ ?_
         ·intro b a w ha HM hb hon hoff K hK
          have e120 := PE ha 15 hon
          have e109 := PE ha 4 hon
          refine ST (eC (some 121) rfl #[.int .i64 ((rd_T33 t748 0).f2)] rfl Try.func10 (impl_NumText.calls k2 ((rd_T33 t748 0).f2) t758 _ A114.out) ?_ (hargs := by (simp only [List.map_toArray, List.map_cons, List.map_nil, evc, eval_of e120]) <;> rfl)) (hw := wanted_on rfl rfl rfl (e109.trans (by first | rfl | (simp [*]; done))))
          rintro e w121 ⟨rfl, hR⟩
          refine ⟨_, rfl, ?_⟩
          replace HM := HM.call hR
          clear hR
          exact hK.out _ _ ⟨PUT ha 16 hb, (HM).pick [0, 1, 2]⟩
         refine SY ?_ ?_
         ·intro b a w ha HM hb hon hoff K hK
          have e116 := PE ha 11 hon
          have e121 := PE ha 16 hon
          have e109 := PE ha 4 hon
          exact VL (.string ((x7_2 ++ (⟨#[32]⟩ : ByteArray)) ++ t758)) (hK.out _ _ ⟨PUT ha 17 hb, HM⟩) (hw := wanted_on rfl rfl rfl (e109.trans (by first | rfl | (simp [*]; done))))
         refine SY ?_ ?_
         ·intro b a w ha HM hb hon hoff K hK
          have e114 := PE ha 9 hon
          have e122 := PE ha 17 hon
          have e109 := PE ha 4 hon
          exact VL (.bool ((rdOf ByteArray.empty t753 (wrap64 ((wrap64 (1 + t747)) - 1))).toList == ((x7_2 ++ (⟨#[32]⟩ : ByteArray)) ++ t758).toList)) (hK.out _ _ ⟨PUT ha 18 hb, HM⟩) (hw := wanted_on rfl rfl rfl (e109.trans (by first | rfl | (simp [*]; done))))
         refine SY ?_ ?_
         ·intro b a w ha HM hb hon hoff K hK
          have e109 := PE ha 4 hon
          have e123 := PE ha 18 hon
          exact VL (.bool ((rdOf ByteArray.empty t753 (wrap64 ((wrap64 (1 + t747)) - 1))).toList == ((x7_2 ++ (⟨#[32]⟩ : ByteArray)) ++ t758).toList)) (hK.out _ _ ⟨PUT ha 19 hb, HM⟩)
         refine SY ?_ ?_
         ·intro b a w ha HM hb hon hoff K hK
          have e124 := PE ha 19 hon
          exact VL (.bool ((rdOf ByteArray.empty t753 (wrap64 ((wrap64 (1 + t747)) - 1))).toList == ((x7_2 ++ (⟨#[32]⟩ : ByteArray)) ++ t758).toList)) (hK.out _ _ ⟨PUT ha 20 hb, HM⟩)
         exact steps_nil
        rintro _ w122 ⟨rfl, HM⟩
        simp only [putSel, if_true, Act.put, List.setIfInBounds_toArray, List.set_cons_zero, List.set_cons_succ, gt_iff_lt, ge_iff_le]
        obtain rfl := Option.some.inj H
        go_wp2
        go_ret
        exact ⟨ER, HM.bel⟩
       ·have c109b0 : ((t753.length : Int) == (wrap64 (1 + t747))) = false := beq_eq_false_iff_ne.mpr c109
        have c109b1 : ((t753.length : Int) != (wrap64 (1 + t747))) = true := bne_iff_ne.mpr c109
        obtain ⟨Xo124, ko124, eo124⟩ := HM.rdR 2 rfl
        subst eo124
        refine RGN 21 [0, 1, 2, 3, 4, 5, 6, 7, 8, 9, 10, 11, 12, 13, 14, 15, 16, 17, 18, 19, 20] (fun a0 b a w' => a = putSel a0 b [(0, 105, .slice Xo124 t753.length ko124), (1, 106, .int .i64 (t753.length : Int)), (2, 107, .int .i64 (wrap64 (1 + t747))), (3, 108, .bool ((t753.length : Int) == (wrap64 (1 + t747)))), (4, 109, .bool ((t753.length : Int) == (wrap64 (1 + t747)))), (5, 110, undef), (6, 111, undef), (7, 112, undef), (8, 113, undef), (9, 114, undef), (10, 115, undef), (11, 116, undef), (12, 117, undef), (13, 118, undef), (14, 119, undef), (15, 120, undef), (16, 121, undef), (17, 122, undef), (18, 123, undef), (19, 124, .bool false), (20, 2, .bool false)] ∧ Mem w [] w' [rowR Kd.string 9 (.slice Xo9 t744.length ko9) t744, rowR k33 33 (.slice Xo10 t748.length ko10) t748, rowR Kd.string 9 (.slice Xo124 t753.length ko124) t753]) laws_FnLab.tab21 laws_FnLab.bits21 ?_ ?_ ?_
        ·exact ⟨PS0' rfl _, (HM.drew).pick [0, 1, 2]⟩
        ·clear HM
         refine SY ?_ ?_
         ·intro b a w ha HM hb hon hoff K hK
          have e11 := PG ha 11
          exact VL (.slice Xo124 t753.length ko124) (hK.out _ _ ⟨PUT ha 0 hb, HM⟩)
         refine SY ?_ ?_
         ·intro b a w ha HM hb hon hoff K hK
          have e105 := PE ha 0 hon
          exact VL (.int .i64 (t753.length : Int)) (hK.out _ _ ⟨PUT ha 1 hb, HM⟩)
         refine SY ?_ ?_
         ·intro b a w ha HM hb hon hoff K hK
          have e4 := PG ha 4
          exact VL (.int .i64 (wrap64 (1 + t747))) (hK.out _ _ ⟨PUT ha 2 hb, HM⟩)
         refine SY ?_ ?_
         ·intro b a w ha HM hb hon hoff K hK
          have e106 := PE ha 1 hon
          have e107 := PE ha 2 hon
          exact VL (.bool ((t753.length : Int) == (wrap64 (1 + t747)))) (hK.out _ _ ⟨PUT ha 3 hb, HM⟩)
         refine SY ?_ ?_
         ·intro b a w ha HM hb hon hoff K hK
          have e108 := PE ha 3 hon
          exact VL (.bool ((t753.length : Int) == (wrap64 (1 + t747)))) (hK.out _ _ ⟨PUT ha 4 hb, HM⟩)
         refine SY ?_ ?_
         ·intro b a w ha HM hb hon hoff K hK
          have e109 := PE ha 4 hon
          exact VN ( wanted_off rfl rfl rfl (e109.trans (by first | rfl | (simp [*]; done)))) (hK.out _ _ ⟨PUT ha 5 hb, HM⟩)
         refine SY ?_ ?_
         ·intro b a w ha HM hb hon hoff K hK
          have e109 := PE ha 4 hon
          exact VN ( wanted_off rfl rfl rfl (e109.trans (by first | rfl | (simp [*]; done)))) (hK.out _ _ ⟨PUT ha 6 hb, HM⟩)
         refine SY ?_ ?_
         ·intro b a w ha HM hb hon hoff K hK
          have e109 := PE ha 4 hon
          exact VN ( wanted_off rfl rfl rfl (e109.trans (by first | rfl | (simp [*]; done)))) (hK.out _ _ ⟨PUT ha 7 hb, HM⟩)
         refine SY ?_ ?_
         ·intro b a w ha HM hb hon hoff K hK
          have e109 := PE ha 4 hon
          exact VN ( wanted_off rfl rfl rfl (e109.trans (by first | rfl | (simp [*]; done)))) (hK.out _ _ ⟨PUT ha 8 hb, HM⟩)
         refine SY ?_ ?_
         ·intro b a w ha HM hb hon hoff K hK
          have e109 := PE ha 4 hon
          exact VN ( wanted_off rfl rfl rfl (e109.trans (by first | rfl | (simp [*]; done)))) (hK.out _ _ ⟨PUT ha 9 hb, HM⟩)
         refine SY ?_ ?_
         ·intro b a w ha HM hb hon hoff K hK
          have e109 := PE ha 4 hon
          exact VN ( wanted_off rfl rfl rfl (e109.trans (by first | rfl | (simp [*]; done)))) (hK.out _ _ ⟨PUT ha 10 hb, HM⟩)
         refine SY ?_ ?_
         ·intro b a w ha HM hb hon hoff K hK
          have e109 := PE ha 4 hon
          exact VN ( wanted_off rfl rfl rfl (e109.trans (by first | rfl | (simp [*]; done)))) (hK.out _ _ ⟨PUT ha 11 hb, HM⟩)
         refine SY ?_ ?_
         ·intro b a w ha HM hb hon hoff K hK
          have e109 := PE ha 4 hon
          exact VN ( wanted_off rfl rfl rfl (e109.trans (by first | rfl | (simp [*]; done)))) (hK.out _ _ ⟨PUT ha 12 hb, HM⟩)
         refine SY ?_ ?_
         ·intro b a w ha HM hb hon hoff K hK
          have e109 := PE ha 4 hon
          exact VN ( wanted_off rfl rfl rfl (e109.trans (by first | rfl | (simp [*]; done)))) (hK.out _ _ ⟨PUT ha 13 hb, HM⟩)
         refine SY ?_ ?_
         ·intro b a w ha HM hb hon hoff K hK
          have e109 := PE ha 4 hon
          exact VN ( wanted_off rfl rfl rfl (e109.trans (by first | rfl | (simp [*]; done)))) (hK.out _ _ ⟨PUT ha 14 hb, HM⟩)
         refine SY ?_ ?_
         ·intro b a w ha HM hb hon hoff K hK
          have e109 := PE ha 4 hon
          exact VN ( wanted_off rfl rfl rfl (e109.trans (by first | rfl | (simp [*]; done)))) (hK.out _ _ ⟨PUT ha 15 hb, HM⟩)
         refine SY ?_ ?_
         ·intro b a w ha HM hb hon hoff K hK
          have e109 := PE ha 4 hon
          exact VN ( wanted_off rfl rfl rfl (e109.trans (by first | rfl | (simp [*]; done)))) (hK.out _ _ ⟨PUT ha 16 hb, HM⟩)
         refine SY ?_ ?_
         ·intro b a w ha HM hb hon hoff K hK
          have e109 := PE ha 4 hon
          exact VN ( wanted_off rfl rfl rfl (e109.trans (by first | rfl | (simp [*]; done)))) (hK.out _ _ ⟨PUT ha 17 hb, HM⟩)
         refine SY ?_ ?_
         ·intro b a w ha HM hb hon hoff K hK
          have e109 := PE ha 4 hon
          exact VN ( wanted_off rfl rfl rfl (e109.trans (by first | rfl | (simp [*]; done)))) (hK.out _ _ ⟨PUT ha 18 hb, HM⟩)
         refine SY ?_ ?_
         ·intro b a w ha HM hb hon hoff K hK
          have e109 := PE ha 4 hon
          have e123 := PE ha 18 hon
          exact VL (.bool false) (hK.out _ _ ⟨PUT ha 19 hb, HM⟩)
         refine SY ?_ ?_
         ·intro b a w ha HM hb hon hoff K hK
          have e124 := PE ha 19 hon
          exact VL (.bool false) (hK.out _ _ ⟨PUT ha 20 hb, HM⟩)
         exact steps_nil
        rintro _ w125 ⟨rfl, HM⟩
        simp only [putSel, if_true, Act.put, List.setIfInBounds_toArray, List.set_cons_zero, List.set_cons_succ, gt_iff_lt, ge_iff_le]
        exact absurd H (by simp)
end Go.Proofs.Ytlokjgngjgbpmaa.G
