/- Part 3 of the claim FnLoop, merged by pack.py (this session's program) out of: the print's words, cut to what is needed; texts that gen.py printed (it runs the kit's print in place); texts of this session. -/
import Derived.Deep.RegionLaw
import Derived.RegionTactic
import Derived.Test.YtanakbmhclpamaaKFnLoop1
import Derived.Test.YtanakbmhclpamaaKFnLoop2
namespace Go.Proofs.Ytanakbmhclpamaa.Man
end Go.Proofs.Ytanakbmhclpamaa.Man
namespace Go.Proofs.Ytanakbmhclpamaa.Mm
end Go.Proofs.Ytanakbmhclpamaa.Mm
namespace Go.Proofs.Ytanakbmhclpamaa.Sh
end Go.Proofs.Ytanakbmhclpamaa.Sh
namespace Go.Proofs.Ytanakbmhclpamaa.G
open Go.RowKit Go.Proofs.YtanakbmhclpamaaW.PrintWords Go.Proofs.YtanakbmhclpamaaW.PrintLast Go.Proofs.YtanakbmhclpamaaW.PrintMore Go.Proofs.Ytanakbmhclpamaa.Sh
attribute [local go_sem] max2_int min2_int max_two min_two max_three min_three max_four min_four
set_option linter.unusedVariables false
set_option linter.unusedSimpArgs false
open Go.Proofs.Ytanakbmhclpamaa.Mm
mutual
def impl_Loop.j0 : Nat → Int → Int → List ByteArray → Bool → Option (List ByteArray)
 | 0, _, _, _, _ => none
 | k + 1, x0, x1, x5, x21 => if x21 = true then (some x5) else (impl_Loop.l0 k x0 x5 x1 0)
def impl_Loop.l0 : Nat → Int → List ByteArray → Int → Int → Option (List ByteArray)
 | 0, _, _, _, _ => none
 | k + 1, x0, x5, x23, x24 => if x24 < x23 then (impl_Loop.l1 k x0 x5 x23 x24 x0 0) else (some x5)
def impl_Loop.l1 : Nat → Int → List ByteArray → Int → Int → Int → Int → Option (List ByteArray)
 | 0, _, _, _, _, _, _ => none
 | k + 1, x0, x5, x23, x24, x26, x27 => if x27 < x26 then ((impl_NumText.f k x27).bind fun t1680 => (if 1 + t1680.size ≤ 9223372036854775807 then (if x5.length < 8796093022208 then (impl_Loop.l1 k x0 (x5 ++ [(⟨#[107]⟩ : ByteArray) ++ t1680]) x23 x24 x26 (wrap64 (x27 + 1))) else (none)) else (none))) else (impl_Loop.l0 k x0 x5 x23 (wrap64 (x24 + 1)))
end
def impl_Loop.f (k : Nat) (a0 : Int) (a1 : Int) : Option (List ByteArray) := (some (([] : List ByteArray) : List ByteArray)).bind fun y1675 => ((impl_within.f a0 1 50).bind fun t1678 => (if t1678 = true then ((impl_within.f a1 1 50).bind fun t1679 => (if t1679 = true then (impl_Loop.j0 k a0 a1 y1675 (decide ((wrap64 (a0 * a1)) > 300))) else (impl_Loop.j0 k a0 a1 y1675 true))) else (impl_Loop.j0 k a0 a1 y1675 true)))
set_option maxHeartbeats 8000000 in
set_option maxRecDepth 100000 in
theorem impl_Loop.calls (k : Nat) (a0 : Int) (a1 : Int) (r : List ByteArray) (w : World)  (h : impl_Loop.f k a0 a1 = some r) :
  Calls Try.prog 36 #[.int .i64 a0, .int .i64 a1] w fun e w' => ∃ v0_ : Value, e = .returned (v0_) ∧ Mem w [] w' [rowR Kd.string 9 v0_ r] := by
 have HM := Mem.nil w
 have H := h
 clear h
 unfold impl_Loop.f at H
 go_enter Try.func36, Try.ntmps36
 replace H := BLt H; obtain ⟨y1675, Ny1675, H⟩ := H
 replace Ny1675 := Aside0.mk Ny1675
 have HC4 := Aside0.mk H
 clear H
 go_upto_region 2 with (first | ((with_reducible refine gN 7 rfl ?_); refine pL 7 Kd.string 9 ([] : List ByteArray) [] (Reps.none _ _) HM rfl ?_; clear HM; intro v1676 w3 HM; replace HM := HM.nm 0 rfl Ny1675.out))
 go_cut [21] (fun v21 wc => ∃ (kq : Nat) (x21_3 : Bool), v21 = .bool x21_3 ∧ Aside0 (impl_Loop.j0 kq a0 a1 y1675 x21_3 = some r) ∧ Aside0 (kq ≤ k) ∧ Mem w [] wc [rowR Kd.string 9 v1676 y1675])
 case first =>
  have H := HC4.out
  clear HC4
  replace H := BN H; obtain ⟨t1678, A5, H⟩ := H
  replace H := IB H
  rcases H with ⟨c7, H⟩ | ⟨c7, H⟩
  ·subst c7
   replace H := BN H; obtain ⟨t1679, A8, H⟩ := H
   replace H := IB H
   rcases H with ⟨c10, H⟩ | ⟨c10, H⟩
   ·subst c10
    have H' := Aside0.mk H
    clear H
    go_wp2_with (first | ((with_reducible refine gC 64 rfl ?_); refine pC (some 9) rfl #[.int .i64 a0, .int .i64 1, .int .i64 50] rfl Try.func64 (impl_within.calls a0 1 50 true _ A5.out) ?_; rintro e w6 ⟨rfl, hd⟩; refine ⟨_, rfl, ?_⟩; replace HM := HM.drawn hd; clear hd) | ((with_reducible refine gC 64 rfl ?_); refine pC (some 13) rfl #[.int .i64 a1, .int .i64 1, .int .i64 50] rfl Try.func64 (impl_within.calls a1 1 50 true _ A8.out) ?_; rintro e w9 ⟨rfl, hd⟩; refine ⟨_, rfl, ?_⟩; replace HM := HM.drawn hd; clear hd))
    go_meet
    case rel => exact ⟨_, (decide ((wrap64 (a0 * a1)) > 300)), RS, H', ⟨by first | omega | exact Nat.le_refl _⟩, (MD HM).pick [0]⟩
   ·subst c10
    have H' := Aside0.mk H
    clear H
    go_wp2_with (first | ((with_reducible refine gC 64 rfl ?_); refine pC (some 9) rfl #[.int .i64 a0, .int .i64 1, .int .i64 50] rfl Try.func64 (impl_within.calls a0 1 50 true _ A5.out) ?_; rintro e w6 ⟨rfl, hd⟩; refine ⟨_, rfl, ?_⟩; replace HM := HM.drawn hd; clear hd) | ((with_reducible refine gC 64 rfl ?_); refine pC (some 13) rfl #[.int .i64 a1, .int .i64 1, .int .i64 50] rfl Try.func64 (impl_within.calls a1 1 50 false _ A8.out) ?_; rintro e w9 ⟨rfl, hd⟩; refine ⟨_, rfl, ?_⟩; replace HM := HM.drawn hd; clear hd))
    go_meet
    case rel => exact ⟨_, (true), RS, H', ⟨by first | omega | exact Nat.le_refl _⟩, (MD HM).pick [0]⟩
  ·subst c7
   have H' := Aside0.mk H
   clear H
   go_wp2_with (first | ((with_reducible refine gC 64 rfl ?_); refine pC (some 9) rfl #[.int .i64 a0, .int .i64 1, .int .i64 50] rfl Try.func64 (impl_within.calls a0 1 50 false _ A5.out) ?_; rintro e w6 ⟨rfl, hd⟩; refine ⟨_, rfl, ?_⟩; replace HM := HM.drawn hd; clear hd))
   go_meet
   case rel => exact ⟨_, (true), RS, H', ⟨by first | omega | exact Nat.le_refl _⟩, (MD HM).pick [0]⟩
 case rest =>
  clear HC4 HM
  obtain ⟨kq, x21_3, rfl, HA, HJ3, HM⟩ := hcut
  cases kq with
  | zero => exact absurd HA.out (by simp [impl_Loop.j0])
  | succ kj3 =>
   have H := HA.out
   clear HA
   simp only [impl_Loop.j0] at H
   go_upto_if 21 with (fail)
   replace H := IB H
   rcases H with ⟨c11, H⟩ | ⟨c11, H⟩
   ·subst c11
    obtain rfl := Option.some.inj H
    go_wp2
    go_ret
    exact ⟨_, ER, (MD HM).pick [0]⟩
   ·subst c11
    have H' := Aside0.mk H
    clear H
    go_wp2
    go_loopg [5, 24] kj3 (fun kq v5 v24 w' => ∃ (x5_2 : List ByteArray) (x24_2 : Int), v24 = .int .i64 x24_2 ∧ Aside0 (impl_Loop.l0 kq a0 x5_2 a1 x24_2 = some r) ∧ Aside0 (kq ≤ kj3) ∧ Mem w [] w' [rowR Kd.string 9 v5 x5_2])
    case atStart => exact ⟨(y1675), (0), RS, H', ⟨Nat.le_refl _⟩, (MD HM).pick [0]⟩
    case round =>
     clear H' HM
     obtain ⟨x5_2, x24_2, rfl, HA, HK2, HM⟩ := hrel
     cases gk with
     | zero => exact absurd HA.out (by simp [impl_Loop.l0])
     | succ k2 =>
      have H := HA.out
      clear HA
      simp only [impl_Loop.l0] at H
      go_upto_if 25 with (fail)
      replace H := IT H; rcases H with ⟨c12, H⟩ | ⟨c12, H⟩
      ·have c12b0 : decide (x24_2 < a1) = true := decide_eq_true c12
       clear c12
       (first | rw [c12b0] | (simp only [i64_w, i32_w]; rw [c12b0]) | skip)
       have H' := Aside0.mk H
       clear H
       go_wp2
       go_loopg [5, 27] k2 (fun kq v5 v27 w' => ∃ (x5_3 : List ByteArray) (x27_3 : Int), v27 = .int .i64 x27_3 ∧ Aside0 (impl_Loop.l1 kq a0 x5_3 a1 x24_2 a0 x27_3 = some r) ∧ Aside0 (kq ≤ k2) ∧ Mem w [] w' [rowR Kd.string 9 v5 x5_3])
       case atStart => exact ⟨(x5_2), (0), RS, H', ⟨Nat.le_refl _⟩, (MD HM).pick [0]⟩
       case round =>
        clear H' HM
        obtain ⟨x5_3, x27_3, rfl, HA, HK3, HM⟩ := hrel
        cases gk with
        | zero => exact absurd HA.out (by simp [impl_Loop.l1])
        | succ k3 =>
         have H := HA.out
         clear HA
         simp only [impl_Loop.l1] at H
         go_upto_if 28 with (fail)
         replace H := IT H; rcases H with ⟨c13, H⟩ | ⟨c13, H⟩
         ·have c13b0 : decide (x27_3 < a0) = true := decide_eq_true c13
          clear c13
          (first | rw [c13b0] | (simp only [i64_w, i32_w]; rw [c13b0]) | skip)
          replace H := BN H; obtain ⟨t1680, A14, H⟩ := H
          replace H := GD H; obtain ⟨c16, H⟩ := H
          have c16b0 := eq_true c16
          have c16b1 : decide (1 + t1680.size ≤ 9223372036854775807) = true := decide_eq_true c16
          try have c16b2 : (9223372036854775807 < 1 + t1680.size) = False := eq_false (Nat.not_lt.2 c16)
          replace H := GD H; obtain ⟨c17, H⟩ := H
          have LMc17 := Aside0.mk c17
          clear c17
          have H' := Aside0.mk H
          clear H
          go_wp2_with (first | ((with_reducible refine gC 65 rfl ?_); refine pC (some 32) rfl #[.int .i64 x27_3] rfl Try.func65 (impl_NumText.calls k3 x27_3 t1680 _ A14.out) ?_; rintro e w15 ⟨rfl, hR⟩; refine ⟨_, rfl, ?_⟩; replace HM := HM.call hR; clear hR) | ((with_reducible refine gN 34 rfl ?_); refine pL 34 Kd.string 9 [(⟨#[107]⟩ : ByteArray) ++ t1680] [.string ((⟨#[107]⟩ : ByteArray) ++ t1680)] (Reps.one (show Kd.M Kd.string _ _ _ ((⟨#[107]⟩ : ByteArray) ++ t1680) [.string ((⟨#[107]⟩ : ByteArray) ++ t1680)] from rfl) (Reps.none _ _)) HM rfl ?_; clear HM; intro v19 w18 HM; obtain ⟨Xv19, kv19, ev19⟩ := HM.rdR 1 rfl; subst ev19) | ((with_reducible refine gate_builtin (b := .append) (xs := #[.tmp 30, .tmp 34]) rfl ?_); refine pA 0 (.tmp 30) (.tmp 34) 24 9 Kd.string u5 x5_3 [(⟨#[107]⟩ : ByteArray) ++ t1680] Xv19 ([(⟨#[107]⟩ : ByteArray) ++ t1680].length) kv19 HM rfl Try.underlying24 info9 rfl (HM.CR 1 rfl).2.2 (by have h_ := LMc17.out; simp only [List.length_singleton]; omega) ?_; clear HM; intro v1682 w20 HM))
          go_roundg k3
          case measure => have := HJ3.out; have := HK2.out; have := HK3.out; omega
          case rel => exact ⟨((x5_3 ++ [(⟨#[107]⟩ : ByteArray) ++ t1680])), (wrap64 (x27_3 + 1)), RS, H', ⟨by have := HJ3.out; have := HK2.out; have := HK3.out; omega⟩, (MD HM).pick [0]⟩
         ·have c13b0 : decide (x27_3 < a0) = false := decide_eq_false c13
          clear c13
          (first | rw [c13b0] | (simp only [i64_w, i32_w]; rw [c13b0]) | skip)
          have H' := Aside0.mk H
          clear H
          go_wp2
          go_roundg k3
          case measure => have := HJ3.out; have := HK2.out; have := HK3.out; omega
          case rel => exact ⟨(x5_3), (wrap64 (x24_2 + 1)), RS, H', ⟨by have := HJ3.out; have := HK2.out; have := HK3.out; omega⟩, (MD HM).pick [0]⟩
      ·have c12b0 : decide (x24_2 < a1) = false := decide_eq_false c12
       clear c12
       (first | rw [c12b0] | (simp only [i64_w, i32_w]; rw [c12b0]) | skip)
       obtain rfl := Option.some.inj H
       go_wp2
       go_ret
       exact ⟨_, ER, (MD HM).pick [0]⟩
end Go.Proofs.Ytanakbmhclpamaa.G

namespace Go.Proofs.Ytanakbmhclpamaa.G
open Go.RowKit Go.Proofs.YtanakbmhclpamaaW.PrintWords Go.Proofs.YtanakbmhclpamaaW.PrintLast Go.Proofs.YtanakbmhclpamaaW.PrintMore Go.Proofs.Ytanakbmhclpamaa.Sh
attribute [local go_sem] max2_int min2_int max_two min_two max_three min_three max_four min_four
set_option linter.unusedVariables false
set_option linter.unusedSimpArgs false
def slices_Index_string_string.l0 : Nat → List ByteArray → ByteArray → Int → Int → Option (Int)
 | 0, _, _, _, _ => none
 | k + 1, x0, x1, x7, x8 => if x8 < x7 then (if 0 ≤ x8 then (if x8 < (x0.length : Int) then (if x1.toList = (rdOf ByteArray.empty x0 x8).toList then (some x8) else (slices_Index_string_string.l0 k x0 x1 x7 (wrap64 (x8 + 1)))) else (none)) else (none)) else (some (-1))
def slices_Index_string_string.f (k : Nat) (l0 : List ByteArray) (a1 : ByteArray) : Option (Int) := slices_Index_string_string.l0 k l0 a1 (l0.length : Int) 0
theorem slices_Index_string_string.mono_l : ∀ k, (∀ y0 y1 y2 y3, LeO (slices_Index_string_string.l0 k y0 y1 y2 y3) (slices_Index_string_string.l0 (k + 1) y0 y1 y2 y3))
 | 0 => fun _ _ _ _ r h => by simp [slices_Index_string_string.l0] at h
 | k + 1 => by
  have ih0 := slices_Index_string_string.mono_l k
  ·intro y0 y1 y2 y3
   unfold slices_Index_string_string.l0
   repeat' first | (with_reducible first | exact ih0 _ _ _ _ | exact LeO.refl _ | exact LeO.none _ | refine LeO.ite ?_ ?_ | refine LeO.bind ?_ (fun _ => ?_)) | exact LeO.none _ | refine LeO.ite ?_ ?_ | refine LeO.bind ?_ (fun _ => ?_)
theorem slices_Index_string_string.mono : ∀ a0 a1 k, LeO (slices_Index_string_string.f k a0 a1) (slices_Index_string_string.f (k + 1) a0 a1) := by
 intro a0 a1 k
 have ih0 := slices_Index_string_string.mono_l k
 unfold slices_Index_string_string.f
 repeat' first | (with_reducible first | exact ih0 _ _ _ _ | exact LeO.refl _ | exact LeO.none _ | refine LeO.ite ?_ ?_ | refine LeO.bind ?_ (fun _ => ?_)) | exact LeO.none _ | refine LeO.ite ?_ ?_ | refine LeO.bind ?_ (fun _ => ?_)
set_option maxHeartbeats 8000000 in
set_option maxRecDepth 100000 in
theorem slices_Index_string_string.calls (k : Nat) (A0 : Option Addr) (c0 : Nat) (l0 : List ByteArray) (a1 : ByteArray) (r : Int) (w : World) (hr0 : Kd.C Kd.string w A0 l0.length l0) (hc0 : l0.length ≤ c0) (h : slices_Index_string_string.f k l0 a1 = some r) :
  Calls Try.prog 79 #[.slice A0 l0.length c0, .string a1] w fun e w' => e = .returned (.int .i64 r) ∧ Drawn0 w w' := by
 have HR0 := Aside0.mk hr0
 have HC0 := Aside0.mk hc0
 clear hr0 hc0
 have H : (slices_Index_string_string.l0 k l0 a1 (l0.length : Int) 0) = some r := h
 clear h
 have H' := Aside0.mk H
 clear H
 go_enter Try.func79, Try.ntmps79
 go_wp2
 go_loopg [8] k (fun kq v8 w' => ∃ (x8_1 : Int), v8 = .int .i64 x8_1 ∧ Aside0 (slices_Index_string_string.l0 kq l0 a1 (l0.length : Int) x8_1 = some r) ∧ Aside0 (kq ≤ k) ∧ Drawn0 w w')
 case atStart => exact ⟨(0), RS, H', ⟨Nat.le_refl _⟩, DR⟩
 case round =>
  clear H'
  try clear p2
  obtain ⟨x8_1, rfl, HA, HK1, ⟨m1, rfl⟩⟩ := hrel
  cases gk with
  | zero => exact absurd HA.out (by simp [slices_Index_string_string.l0])
  | succ k1 =>
   have H := HA.out
   clear HA
   simp only [slices_Index_string_string.l0] at H
   by_cases c3 : x8_1 < (l0.length : Int)
   ·rw [if_pos c3] at H
    have c3b0 : decide (x8_1 < (l0.length : Int)) = true := decide_eq_true c3
    clear c3
    by_cases c4 : 0 ≤ x8_1
    ·rw [if_pos c4] at H
     have c4b0 : decide (0 ≤ x8_1) = true := decide_eq_true c4
     clear c4
     by_cases c5 : x8_1 < (l0.length : Int)
     ·rw [if_pos c5] at H
      have c5b0 : decide (x8_1 < (l0.length : Int)) = true := decide_eq_true c5
      clear c5
      by_cases c6 : a1.toList = (rdOf ByteArray.empty l0 x8_1).toList
      ·rw [if_pos c6] at H
       have c6b0 : (a1.toList == (rdOf ByteArray.empty l0 x8_1).toList) = true := beq_iff_eq.mpr c6
       have c6b1 : (a1.toList != (rdOf ByteArray.empty l0 x8_1).toList) = false := bne_eq_false_iff_eq.mpr c6
       clear c6
       obtain rfl := Option.some.inj H
       have p1515 : 0 ≤ (x8_1 : Int) := of_decide_eq_true AS
       have q1515 : x8_1 < (l0.length : Int) := of_decide_eq_true AS
       obtain ⟨ad1515, e1515, hx1515_0⟩ := Kd.at_string HR0.out x8_1 p1515 q1515
       cases e1515
       replace p1515 := eq_true p1515
       replace q1515 := eq_true q1515
       go_wp2
       go_ret
       exact ⟨by first | rfl | (simp; done) | (simp [*]; done), DR⟩
      ·rw [if_neg c6] at H
       have c6b0 : (a1.toList == (rdOf ByteArray.empty l0 x8_1).toList) = false := beq_eq_false_iff_ne.mpr c6
       have c6b1 : (a1.toList != (rdOf ByteArray.empty l0 x8_1).toList) = true := bne_iff_ne.mpr c6
       have H' := Aside0.mk H
       clear H
       have p1515 : 0 ≤ (x8_1 : Int) := of_decide_eq_true AS
       have q1515 : x8_1 < (l0.length : Int) := of_decide_eq_true AS
       obtain ⟨ad1515, e1515, hx1515_0⟩ := Kd.at_string HR0.out x8_1 p1515 q1515
       cases e1515
       replace p1515 := eq_true p1515
       replace q1515 := eq_true q1515
       go_wp2
       go_roundg k1
       case measure => have := HK1.out; omega
       case rel => exact ⟨(wrap64 (x8_1 + 1)), RS, H', ⟨by have := HK1.out; omega⟩, DR⟩
     ·rw [if_neg c5] at H
      exact absurd H (by simp)
    ·rw [if_neg c4] at H
     exact absurd H (by simp)
   ·rw [if_neg c3] at H
    have c3b0 : decide (x8_1 < (l0.length : Int)) = false := decide_eq_false c3
    clear c3
    obtain rfl := Option.some.inj H
    go_wp2
    go_ret
    exact ⟨by first | rfl | (simp; done) | (simp [*]; done), DR⟩
def slices_Contains_string_string.f (k : Nat) (l0 : List ByteArray) (a1 : ByteArray) : Option (Bool) := (slices_Index_string_string.f k l0 a1).bind fun t1517 => (some (decide (t1517 ≥ 0)))
theorem slices_Contains_string_string.mono : ∀ a0 a1 k, LeO (slices_Contains_string_string.f k a0 a1) (slices_Contains_string_string.f (k + 1) a0 a1) := by
 intro a0 a1 k
 unfold slices_Contains_string_string.f
 repeat' first | (with_reducible first | exact slices_Index_string_string.mono _ _ _ | exact LeO.refl _ | exact LeO.none _ | refine LeO.ite ?_ ?_ | refine LeO.bind ?_ (fun _ => ?_)) | exact LeO.none _ | refine LeO.ite ?_ ?_ | refine LeO.bind ?_ (fun _ => ?_)
set_option maxHeartbeats 8000000 in
set_option maxRecDepth 100000 in
theorem slices_Contains_string_string.calls (k : Nat) (A0 : Option Addr) (c0 : Nat) (l0 : List ByteArray) (a1 : ByteArray) (r : Bool) (w : World) (hr0 : Kd.C Kd.string w A0 l0.length l0) (hc0 : l0.length ≤ c0) (h : slices_Contains_string_string.f k l0 a1 = some r) :
  Calls Try.prog 55 #[.slice A0 l0.length c0, .string a1] w fun e w' => e = .returned (.bool r) ∧ Drawn0 w w' := by
 have HR0 := Aside0.mk hr0
 have HC0 := Aside0.mk hc0
 clear hr0 hc0
 have H : ((slices_Index_string_string.f k l0 a1).bind fun t1517 => (some (decide (t1517 ≥ 0)))) = some r := h
 clear h
 replace H := BS H
 obtain ⟨t1517, A30, H⟩ := H
 have A3 := Aside0.mk A30
 clear A30
 obtain rfl := Option.some.inj H
 go_enter Try.func55, Try.ntmps55
 go_wp2_with (first | ((with_reducible refine gate_callee (f := 79) rfl ?_); refine goesL_ (some 7) rfl rfl Try.func79 (by kernel_rfl) rfl #[.slice A0 l0.length c0, .string a1] rfl AQ ?_; (with_reducible refine (slices_Index_string_string.calls k _ _ l0 a1 t1517 _ ?side1 ?side2 A3.out).mono ?_); (case side1 => repeat (first | exact HR0.out | (with_reducible refine Kd.C_alloc ?_ _) | (with_reducible refine Kd.C_drewN ?_ _) | (with_reducible refine Kd.C_drew ?_))); (case side2 => exact HC0.out); rintro e w' ⟨rfl, ⟨nd, rfl⟩⟩; refine ⟨_, rfl, ?_⟩))
 go_ret
 exact ⟨by first | rfl | (simp; done) | (simp [*]; done), DR⟩
end Go.Proofs.Ytanakbmhclpamaa.G

namespace Go.Proofs.Ytanakbmhclpamaa.G
open Go.RowKit Go.Proofs.YtanakbmhclpamaaW.PrintWords Go.Proofs.YtanakbmhclpamaaW.PrintLast Go.Proofs.YtanakbmhclpamaaW.PrintMore Go.Proofs.Ytanakbmhclpamaa.Sh
attribute [local go_sem] max2_int min2_int max_two min_two max_three min_three max_four min_four
set_option linter.unusedVariables false
set_option linter.unusedSimpArgs false
open Go.Proofs.Ytanakbmhclpamaa.Mm
def impl_NextAsk.l0 : Nat → List ByteArray → ByteArray → Int → Option (Int)
 | 0, _, _, _ => none
 | k + 1, x0, x1, x7 => if x7 < (x0.length : Int) then (if 0 ≤ x7 then (if (rdOf ByteArray.empty x0 x7).toList = x1.toList then (some x7) else (impl_NextAsk.l0 k x0 x1 (wrap64 (x7 + 1)))) else (none)) else (some (x0.length : Int))
def impl_NextAsk.f (k : Nat) (l0 : List ByteArray) (a1 : ByteArray) (a2 : Int) : Option (Int) := impl_NextAsk.l0 k l0 a1 (mx 0 a2)
set_option maxHeartbeats 8000000 in
set_option maxRecDepth 100000 in
theorem impl_NextAsk.calls (k : Nat) (A0 : Option Addr) (c0 : Nat) (l0 : List ByteArray) (a1 : ByteArray) (a2 : Int) (r : Int) (w : World) (hr0 : Kd.C Kd.string w A0 l0.length l0) (hc0 : l0.length ≤ c0) (h : impl_NextAsk.f k l0 a1 a2 = some r) :
  Calls Try.prog 102 #[.slice A0 l0.length c0, .string a1, .int .i64 a2] w fun e w' => e = .returned (.int .i64 r) ∧ Mem w [] w' [] := by
 have HR0 := Aside0.mk hr0
 have HC0 := Aside0.mk hc0
 clear hr0 hc0
 have HM := Mem.nil w
 have H := h
 clear h
 unfold impl_NextAsk.f at H
 go_enter Try.func102, Try.ntmps102
 obtain ⟨ji4, hji4⟩ : ∃ j_ : Int, (mx 0 a2) = j_ := ⟨_, rfl⟩
 (first | rw [hji4] at H | simp only [hji4] at H | skip)
 have hji4_ : (if 0 < a2 then a2 else 0) = ji4 := hji4
 (try (have hji4l : 0 ≤ ji4 := by (rw [← hji4]; unfold mx; (repeat' split) <;> omega)))
 have H' := Aside0.mk H
 clear H
 go_wp2
 go_loopg [7] k (fun kq v7 w' => ∃ (x7_1 : Int), v7 = .int .i64 x7_1 ∧ Aside0 (impl_NextAsk.l0 kq l0 a1 x7_1 = some r) ∧ Aside0 (kq ≤ k) ∧ Mem w [] w' [])
 case atStart => exact ⟨(ji4), RS, H', ⟨Nat.le_refl _⟩, (MD HM).pick []⟩
 case round =>
  clear H' HM
  obtain ⟨x7_1, rfl, HA, HK1, HM⟩ := hrel
  cases gk with
  | zero => exact absurd HA.out (by simp [impl_NextAsk.l0])
  | succ k1 =>
   have H := HA.out
   clear HA
   simp only [impl_NextAsk.l0] at H
   go_upto_if 13 with (fail)
   replace H := IT H; rcases H with ⟨c5, H⟩ | ⟨c5, H⟩
   ·have c5b0 : decide (x7_1 < (l0.length : Int)) = true := decide_eq_true c5
    clear c5
    (first | rw [c5b0] | (simp only [i64_w, i32_w]; rw [c5b0]) | skip)
    replace H := GD H; obtain ⟨c6, H⟩ := H
    have c6b0 : decide (0 ≤ x7_1) = true := decide_eq_true c6
    clear c6
    have p1684 : 0 ≤ (x7_1 : Int) := of_decide_eq_true AS
    have q1684 : (x7_1 : Int) < (l0.length : Int) := of_decide_eq_true AS
    obtain ⟨ad1684, e1684, hx1684_0⟩ := Kd.at_string (HM.came HR0.out) x7_1 p1684 q1684
    cases e1684
    replace p1684 := eq_true p1684
    replace q1684 := eq_true q1684
    go_upto_if 21 with (fail)
    replace H := IT H; rcases H with ⟨c7, H⟩ | ⟨c7, H⟩
    ·have c7b0 : ((rdOf ByteArray.empty l0 x7_1).toList == a1.toList) = true := beq_iff_eq.mpr c7
     have c7b1 : ((rdOf ByteArray.empty l0 x7_1).toList != a1.toList) = false := bne_eq_false_iff_eq.mpr c7
     clear c7
     (first | rw [c7b0] | (simp only [i64_w, i32_w]; rw [c7b0]) | skip)
     obtain rfl := Option.some.inj H
     go_wp2
     go_ret
     exact ⟨ER, (MD HM).pick []⟩
    ·have c7b0 : ((rdOf ByteArray.empty l0 x7_1).toList == a1.toList) = false := beq_eq_false_iff_ne.mpr c7
     have c7b1 : ((rdOf ByteArray.empty l0 x7_1).toList != a1.toList) = true := bne_iff_ne.mpr c7
     (first | rw [c7b0] | (simp only [i64_w, i32_w]; rw [c7b0]) | skip)
     have H' := Aside0.mk H
     clear H
     go_wp2
     go_roundg k1
     case measure => have := HK1.out; omega
     case rel => exact ⟨(wrap64 (x7_1 + 1)), RS, H', ⟨by have := HK1.out; omega⟩, (MD HM).pick []⟩
   ·have c5b0 : decide (x7_1 < (l0.length : Int)) = false := decide_eq_false c5
    clear c5
    (first | rw [c5b0] | (simp only [i64_w, i32_w]; rw [c5b0]) | skip)
    obtain rfl := Option.some.inj H
    go_wp2
    go_ret
    exact ⟨ER, (MD HM).pick []⟩
def impl_BestGo.l0 : Nat → List ByteArray → Int → Int → Int → List ByteArray → Int → Int → Option (Int)
 | 0, _, _, _, _, _, _, _ => none
 | k + 1, x0, x2, x7, x8, x12, x13, x14 => if x14 < x13 then (if 0 ≤ x14 then (if x14 < (x12.length : Int) then ((impl_NextAsk.f k x0 (rdOf ByteArray.empty x12 x14) x2).bind fun t1686 => (if t1686 > x8 then (impl_BestGo.l0 k x0 x2 x14 t1686 x12 x13 (wrap64 (x14 + 1))) else (impl_BestGo.l0 k x0 x2 x7 x8 x12 x13 (wrap64 (x14 + 1))))) else (none)) else (none)) else (some x7)
def impl_BestGo.f (k : Nat) (l0 : List ByteArray) (l1 : List ByteArray) (a2 : Int) : Option (Int) := impl_BestGo.l0 k l0 a2 (-1) (-1) l1 (l1.length : Int) 0
set_option maxHeartbeats 8000000 in
set_option maxRecDepth 100000 in
theorem impl_BestGo.calls (k : Nat) (A0 : Option Addr) (c0 : Nat) (l0 : List ByteArray) (A1 : Option Addr) (c1 : Nat) (l1 : List ByteArray) (a2 : Int) (r : Int) (w : World) (hr0 : Kd.C Kd.string w A0 l0.length l0) (hc0 : l0.length ≤ c0) (hr1 : Kd.C Kd.string w A1 l1.length l1) (hc1 : l1.length ≤ c1) (h : impl_BestGo.f k l0 l1 a2 = some r) :
  Calls Try.prog 88 #[.slice A0 l0.length c0, .slice A1 l1.length c1, .int .i64 a2] w fun e w' => e = .returned (.int .i64 r) ∧ Mem w [] w' [] := by
 have HR0 := Aside0.mk hr0
 have HC0 := Aside0.mk hc0
 clear hr0 hc0
 have HR1 := Aside0.mk hr1
 have HC1 := Aside0.mk hc1
 clear hr1 hc1
 have HM := Mem.nil w
 have H := h
 clear h
 unfold impl_BestGo.f at H
 go_enter Try.func88, Try.ntmps88
 have H' := Aside0.mk H
 clear H
 go_wp2
 go_loopg [7, 8, 14] k (fun kq v7 v8 v14 w' => ∃ (x7_1 : Int) (x8_1 : Int) (x14_1 : Int), v7 = .int .i64 x7_1 ∧ v8 = .int .i64 x8_1 ∧ v14 = .int .i64 x14_1 ∧ Aside0 (impl_BestGo.l0 kq l0 a2 x7_1 x8_1 l1 (l1.length : Int) x14_1 = some r) ∧ Aside0 (kq ≤ k) ∧ Mem w [] w' [])
 case atStart => exact ⟨((-1)), ((-1)), (0), RS, RS, RS, H', ⟨Nat.le_refl _⟩, (MD HM).pick []⟩
 case round =>
  clear H' HM
  obtain ⟨x7_1, x8_1, x14_1, rfl, rfl, rfl, HA, HK1, HM⟩ := hrel
  cases gk with
  | zero => exact absurd HA.out (by simp [impl_BestGo.l0])
  | succ k1 =>
   have H := HA.out
   clear HA
   simp only [impl_BestGo.l0] at H
   go_upto_if 15 with (fail)
   replace H := IT H; rcases H with ⟨c4, H⟩ | ⟨c4, H⟩
   ·have c4b0 : decide (x14_1 < (l1.length : Int)) = true := decide_eq_true c4
    clear c4
    (first | rw [c4b0] | (simp only [i64_w, i32_w]; rw [c4b0]) | skip)
    replace H := GD H; obtain ⟨c5, H⟩ := H
    have c5b0 : decide (0 ≤ x14_1) = true := decide_eq_true c5
    clear c5
    replace H := GD H; obtain ⟨c6, H⟩ := H
    have c6b0 : decide (x14_1 < (l1.length : Int)) = true := decide_eq_true c6
    clear c6
    replace H := BN H; obtain ⟨t1686, A7, H⟩ := H
    have p1685 : 0 ≤ (x14_1 : Int) := of_decide_eq_true AS
    have q1685 : (x14_1 : Int) < (l1.length : Int) := of_decide_eq_true AS
    obtain ⟨ad1685, e1685, hx1685_0⟩ := Kd.at_string (HM.came HR1.out) x14_1 p1685 q1685
    cases e1685
    replace p1685 := eq_true p1685
    replace q1685 := eq_true q1685
    go_upto_if 25 with (first | ((with_reducible refine gC 102 rfl ?_); refine pC (some 22) rfl #[.slice A0 l0.length c0, .string (rdOf ByteArray.empty l1 x14_1), .int .i64 a2] rfl Try.func102 (impl_NextAsk.calls k1 _ _ l0 (rdOf ByteArray.empty l1 x14_1) a2 t1686 _ (HM.came HR0.out) HC0.out A7.out) ?_; rintro e w8 ⟨rfl, hR⟩; refine ⟨_, rfl, ?_⟩; replace HM := HM.call hR; clear hR))
    replace H := IT H; rcases H with ⟨c9, H⟩ | ⟨c9, H⟩
    ·have c9b0 : decide (x8_1 < t1686) = true := decide_eq_true c9
     clear c9
     (first | rw [c9b0] | (simp only [i64_w, i32_w]; rw [c9b0]) | skip)
     have H' := Aside0.mk H
     clear H
     go_wp2
     go_roundg k1
     case measure => have := HK1.out; omega
     case rel => exact ⟨(x14_1), (t1686), (wrap64 (x14_1 + 1)), RS, RS, RS, H', ⟨by have := HK1.out; omega⟩, (MD HM).pick []⟩
    ·have c9b0 : decide (x8_1 < t1686) = false := decide_eq_false c9
     clear c9
     (first | rw [c9b0] | (simp only [i64_w, i32_w]; rw [c9b0]) | skip)
     have H' := Aside0.mk H
     clear H
     go_wp2
     go_roundg k1
     case measure => have := HK1.out; omega
     case rel => exact ⟨(x7_1), (x8_1), (wrap64 (x14_1 + 1)), RS, RS, RS, H', ⟨by have := HK1.out; omega⟩, (MD HM).pick []⟩
   ·have c4b0 : decide (x14_1 < (l1.length : Int)) = false := decide_eq_false c4
    clear c4
    (first | rw [c4b0] | (simp only [i64_w, i32_w]; rw [c4b0]) | skip)
    obtain rfl := Option.some.inj H
    go_wp2
    go_ret
    exact ⟨ER, (MD HM).pick []⟩
end Go.Proofs.Ytanakbmhclpamaa.G

namespace Go.Proofs.Ytanakbmhclpamaa.G
open Go.RowKit Go.Proofs.YtanakbmhclpamaaW.PrintWords Go.Proofs.YtanakbmhclpamaaW.PrintLast Go.Proofs.YtanakbmhclpamaaW.PrintMore Go.Proofs.Ytanakbmhclpamaa.Sh
attribute [local go_sem] max2_int min2_int max_two min_two max_three min_three max_four min_four
set_option linter.unusedVariables false
set_option linter.unusedSimpArgs false
open Go.Proofs.Ytanakbmhclpamaa.Man
def slices_Delete_string_string.f (l0 : List ByteArray) (a1 : Int) (a2 : Int) : Option (List ByteArray) := if 0 ≤ a1 ∧ a1 < (l0.length : Int) ∧ a2 = a1 + 1 then some (l0.eraseIdx a1.toNat) else none
set_option maxHeartbeats 4000000 in
set_option maxRecDepth 100000 in
theorem slices_Delete_string_string.calls (P0_ : Nat → Prop) (u9000_ : Value) (l0 : List ByteArray) (a1 : Int) (a2 : Int) (r : List ByteArray) (w0 w : World) (hB : Below w0.heap.size w0 w) (ho0 : Kd.R Kd.string 9 w w0.heap.size P0_ u9000_ l0) (h : slices_Delete_string_string.f l0 a1 a2 = some r) :
  Calls Try.prog 89 #[u9000_, .int .i64 a1, .int .i64 a2] w fun e w' => ∃ v0_ : Value, e = .returned v0_ ∧ Kd.R Kd.string 9 w' w0.heap.size (fun k_ => (P0_ k_ ∨ w.heap.size ≤ k_)) v0_ r ∧ Below w0.heap.size w0 w' ∧ Kept w w' (fun k_ => P0_ k_) := by
 unfold slices_Delete_string_string.f at h
 by_cases c : 0 ≤ a1 ∧ a1 < (l0.length : Int) ∧ a2 = a1 + 1
 ·rw [if_pos c] at h
  obtain rfl := Option.some.inj h
  obtain ⟨c0, c1, rfl⟩ := c
  clear h
  obtain ⟨n, rfl⟩ := Int.eq_ofNat_of_zero_le c0
  have hn : n < l0.length := by omega
  obtain ⟨g, cap, rfl, gb, gl, cl, HG⟩ := Kd.R_form ho0 (by omega)
  obtain ⟨_, hlc, hC⟩ := Kd.R_reads' ho0
  have hL : l0.length ≤ 9223372036854775807 := hC.2.1
  clear hC
  have e1 : IntKind.i64.wrap ((n : Int) + 1) = (n : Int) + 1 := by exact (i64_w _).trans (by unfold wrap64; omega)
  have HO := Aside0.mk ho0
  have HBW := Aside0.mk hB
  have HGB := Aside0.mk gb
  have HGL := Aside0.mk gl
  have HN := Aside0.mk hn
  have b1 : (n : Int) + 1 ≤ (l0.length : Int) := by omega
  have b2 : (l0.length : Int) ≤ (cap : Int) := by omega
  have b3 : (n : Int) ≤ (l0.length : Int) := by omega
  have b4 : (n : Int) ≤ (cap : Int) := by omega
  have b5 : (n : Int) + 1 ≤ (cap : Int) := by omega
  have b6 : (n : Int) ≤ (n : Int) + 1 := by omega
  have b7 : (0 : Int) ≤ (n : Int) + 1 := by omega
  have e2 : ((n : Int) == (n : Int) + 1) = false := by rw [beq_eq_false_iff_ne]; omega
  by_cases hcn : cap = n + 1
  ·subst hcn
   have HS := Aside0.mk (show w0.heap.size ≤ w.drew.heap.size from hB.size)
   clear hn ho0 hB gb gl HG hL hlc c1 e1
   go_enter Try.func89, Try.ntmps89
   go_wp2
   go_region_law (refine Kd.R_delete_step Kd.string (w0 := w0) w0.heap.size rfl (.tmp 22) (.tmp 25) 24 9 rfl Try.underlying24 (by kernel_rfl) (by rfl) (by rfl) ((if_pos rfl).symm) (by rfl) (Kd.R_drew HO.out) HN.out (below_drew1 HBW.out) HS.out ?_; intro w1 hr hb hg)
   have HR := Aside0.mk hr
   have HB2 := Aside0.mk hb
   have HG2 := Aside0.mk hg
   clear hr hb hg
   obtain ⟨w2, hrun, hr2, hg2⟩ := R_clear_run (P := Try.prog) Kd.string w0.heap.size 24 0 9 (.string ⟨#[]⟩) Try.underlying24 Try.zeroValue9 rfl (by decide) HR.out (m := l0.length - (l0.length - 1)) (by have := HN.out; omega) (by have := HN.out; omega) ((n + 1) - (l0.length - 1))
   have HR2 := Aside0.mk hr2
   have HG3 := Aside0.mk hg2
   clear hr2 hg2
   (try rw [show (l0.length - 1) * Kd.sz Kd.string = l0.length - 1 from Nat.mul_one _] at hrun)
   change Sem.run _ (Builtin.clear_ #[24] 0 #[.slice (some ⟨g, (l0.length - 1), none⟩) (l0.length - (l0.length - 1)) ((n + 1) - (l0.length - 1))]) w1 = _ at hrun
   go_wp2
   go_ret
   have hgw : w.grownBy w2 (some g) := World.grownBy.trans (World.grownBy.trans (show w.grownBy w.drew (some g) from ⟨rfl, rfl, rfl, Nat.le_refl _, fun _ _ _ => rfl⟩) HG2.out) HG3.out
   refine ⟨_, rfl, Kd.R_mono HR2.out (fun _ h => Or.inl h), HB2.out.grown HG3.out ?_ (fun k hk => by injection hk with hk; subst hk; exact HGB.out), Kept.of_grown hgw (Kept.refl _ _) (fun k hk => by injection hk with hk; subst hk; exact .inl (HO.out.1 _ rfl))⟩
   exact HB2.out.size
  ·have hcn' : (cap == n + 1) = false := by rw [beq_eq_false_iff_ne]; exact hcn
   have HA := Aside0.mk (show some ⟨g, (n + 1), none⟩ = (if cap = n + 1 then some (⟨g, 0, none⟩ : Addr) else (some (⟨g, 0, none⟩ : Addr)).map (·.add ((n + 1) * Kd.string.sz))) from by rw [if_neg hcn, Option.map_some, add_plain]; first | rfl | rw [show (n + 1) * Kd.sz _ = n + 1 from Nat.mul_one _])
   have HS := Aside0.mk (show w0.heap.size ≤ w.drew.heap.size from hB.size)
   clear hn ho0 hB gb gl HG hL hlc c1 e1
   go_enter Try.func89, Try.ntmps89
   go_wp2
   go_region_law (refine Kd.R_delete_step Kd.string (w0 := w0) w0.heap.size rfl (.tmp 22) (.tmp 25) 24 9 rfl Try.underlying24 (by kernel_rfl) (by rfl) (by rfl) HA.out (by rfl) (Kd.R_drew HO.out) HN.out (below_drew1 HBW.out) HS.out ?_; intro w1 hr hb hg)
   have HR := Aside0.mk hr
   have HB2 := Aside0.mk hb
   have HG2 := Aside0.mk hg
   clear hr hb hg
   obtain ⟨w2, hrun, hr2, hg2⟩ := R_clear_run (P := Try.prog) Kd.string w0.heap.size 24 0 9 (.string ⟨#[]⟩) Try.underlying24 Try.zeroValue9 rfl (by decide) HR.out (m := l0.length - (l0.length - 1)) (by have := HN.out; omega) (by have := HN.out; omega) (cap - (l0.length - 1))
   have HR2 := Aside0.mk hr2
   have HG3 := Aside0.mk hg2
   clear hr2 hg2
   (try rw [show (l0.length - 1) * Kd.sz Kd.string = l0.length - 1 from Nat.mul_one _] at hrun)
   change Sem.run _ (Builtin.clear_ #[24] 0 #[.slice (some ⟨g, (l0.length - 1), none⟩) (l0.length - (l0.length - 1)) (cap - (l0.length - 1))]) w1 = _ at hrun
   go_wp2
   go_ret
   have hgw : w.grownBy w2 (some g) := World.grownBy.trans (World.grownBy.trans (show w.grownBy w.drew (some g) from ⟨rfl, rfl, rfl, Nat.le_refl _, fun _ _ _ => rfl⟩) HG2.out) HG3.out
   refine ⟨_, rfl, Kd.R_mono HR2.out (fun _ h => Or.inl h), HB2.out.grown HG3.out ?_ (fun k hk => by injection hk with hk; subst hk; exact HGB.out), Kept.of_grown hgw (Kept.refl _ _) (fun k hk => by injection hk with hk; subst hk; exact .inl (HO.out.1 _ rfl))⟩
   exact HB2.out.size
 ·rw [if_neg c] at h; cases h
end Go.Proofs.Ytanakbmhclpamaa.G

namespace Go.Proofs.Ytanakbmhclpamaa.G
open Go.RowKit Go.Proofs.YtanakbmhclpamaaW.PrintWords Go.Proofs.YtanakbmhclpamaaW.PrintLast Go.Proofs.YtanakbmhclpamaaW.PrintMore Go.Proofs.Ytanakbmhclpamaa.Sh
attribute [local go_sem] max2_int min2_int max_two min_two max_three min_three max_four min_four
set_option linter.unusedVariables false
set_option linter.unusedSimpArgs false
open Go.Proofs.Ytanakbmhclpamaa.Mm
mutual
def impl_BestHits.j0 : Nat → List ByteArray → Int → Bool → Option (List Bool)
 | 0, _, _, _ => none
 | k + 1, x0, x1, x18 => if x18 = true then (some ([] : List Bool)) else (impl_BestHits.l0 k x0 x1 (([] : List Bool)) (([] : List ByteArray)) x0 (x0.length : Int) 0)
def impl_BestHits.l0 : Nat → List ByteArray → Int → List Bool → List ByteArray → List ByteArray → Int → Int → Option (List Bool)
 | 0, _, _, _, _, _, _, _ => none
 | k + 1, x0, x1, x5, x6, x21, x22, x23 => if x23 < x22 then (if 0 ≤ x23 then (if x23 < (x21.length : Int) then ((slices_Contains_string_string.f k x6 (rdOf ByteArray.empty x21 x23)).bind fun t1696 => (if x5.length < 140737488355328 then ((some (x5 ++ [t1696] : List Bool)).bind fun y1697 => (if t1696 = true then (impl_BestHits.l0 k x0 x1 y1697 x6 x21 x22 (wrap64 (x23 + 1))) else (if (x6.length : Int) = x1 then ((impl_BestGo.f k x0 x6 (wrap64 (x23 + 1))).bind fun t1700 => ((slices_Delete_string_string.f x6 t1700 (wrap64 (t1700 + 1))).bind fun t1701 => (if t1701.length < 8796093022208 then (impl_BestHits.l0 k x0 x1 y1697 (t1701 ++ [rdOf ByteArray.empty x21 x23]) x21 x22 (wrap64 (x23 + 1))) else (none)))) else (if x6.length < 8796093022208 then (impl_BestHits.l0 k x0 x1 y1697 (x6 ++ [rdOf ByteArray.empty x21 x23]) x21 x22 (wrap64 (x23 + 1))) else (none))))) else (none))) else (none)) else (none)) else (some x5)
end
def impl_BestHits.f (k : Nat) (l0 : List ByteArray) (a1 : Int) : Option (List Bool) := (impl_AsksOk.f k l0).bind fun t1687 => (if t1687 = true then ((impl_within.f a1 1 60).bind fun t1688 => (impl_BestHits.j0 k l0 a1 (!t1688))) else (impl_BestHits.j0 k l0 a1 true))
set_option maxHeartbeats 8000000 in
set_option maxRecDepth 100000 in
theorem impl_BestHits.calls (k : Nat) (A0 : Option Addr) (c0 : Nat) (l0 : List ByteArray) (a1 : Int) (r : List Bool) (w : World) (hr0 : Kd.C Kd.string w A0 l0.length l0) (hc0 : l0.length ≤ c0) (h : impl_BestHits.f k l0 a1 = some r) :
  Calls Try.prog 66 #[.slice A0 l0.length c0, .int .i64 a1] w fun e w' => ∃ v0_ : Value, e = .returned (v0_) ∧ Mem w [] w' [rowR Kd.bool 4 v0_ r] := by
 have HR0 := Aside0.mk hr0
 have HC0 := Aside0.mk hc0
 clear hr0 hc0
 have HM := Mem.nil w
 have H := h
 clear h
 unfold impl_BestHits.f at H
 go_enter Try.func66, Try.ntmps66
 have HC3 := Aside0.mk H
 clear H
 go_upto_region 1 with (fail)
 go_cut [18] (fun v18 wc => ∃ (kq : Nat) (x18_2 : Bool), v18 = .bool x18_2 ∧ Aside0 (impl_BestHits.j0 kq l0 a1 x18_2 = some r) ∧ Aside0 (kq ≤ k) ∧ Mem w [] wc [])
 case first =>
  have H := HC3.out
  clear HC3
  replace H := BN H; obtain ⟨t1687, A4, H⟩ := H
  replace H := IB H
  rcases H with ⟨c6, H⟩ | ⟨c6, H⟩
  ·subst c6
   replace H := BN H; obtain ⟨t1688, A7, H⟩ := H
   have H' := Aside0.mk H
   clear H
   go_wp2_with (first | ((with_reducible refine gC 42 rfl ?_); refine pC (some 12) rfl #[.slice A0 l0.length c0] rfl Try.func42 (impl_AsksOk.calls k _ _ l0 true _ (HM.came HR0.out) HC0.out A4.out) ?_; rintro e w5 ⟨rfl, hR⟩; refine ⟨_, rfl, ?_⟩; replace HM := HM.call hR; clear hR) | ((with_reducible refine gC 64 rfl ?_); refine pC (some 16) rfl #[.int .i64 a1, .int .i64 1, .int .i64 60] rfl Try.func64 (impl_within.calls a1 1 60 t1688 _ A7.out) ?_; rintro e w8 ⟨rfl, hd⟩; refine ⟨_, rfl, ?_⟩; replace HM := HM.drawn hd; clear hd))
   go_meet
   case rel => exact ⟨_, (!t1688), RS, H', ⟨by first | omega | exact Nat.le_refl _⟩, (MD HM).pick []⟩
  ·subst c6
   have H' := Aside0.mk H
   clear H
   go_wp2_with (first | ((with_reducible refine gC 42 rfl ?_); refine pC (some 12) rfl #[.slice A0 l0.length c0] rfl Try.func42 (impl_AsksOk.calls k _ _ l0 false _ (HM.came HR0.out) HC0.out A4.out) ?_; rintro e w5 ⟨rfl, hR⟩; refine ⟨_, rfl, ?_⟩; replace HM := HM.call hR; clear hR))
   go_meet
   case rel => exact ⟨_, (true), RS, H', ⟨by first | omega | exact Nat.le_refl _⟩, (MD HM).pick []⟩
 case rest =>
  clear HC3 HM
  obtain ⟨kq, x18_2, rfl, HA, HJ2, HM⟩ := hcut
  cases kq with
  | zero => exact absurd HA.out (by simp [impl_BestHits.j0])
  | succ kj2 =>
   have H := HA.out
   clear HA
   simp only [impl_BestHits.j0] at H
   go_upto_if 18 with (fail)
   replace H := IB H
   rcases H with ⟨c9, H⟩ | ⟨c9, H⟩
   ·subst c9
    obtain rfl := Option.some.inj H
    replace HM := HM.nl Kd.bool 4
    go_wp2
    go_ret
    exact ⟨_, ER, (MD HM).pick [0]⟩
   ·subst c9
    have H' := Aside0.mk H
    clear H
    go_wp2_with (first | ((with_reducible refine gN 19 rfl ?_); refine pL 19 Kd.bool 4 ([] : List Bool) [] (Reps.none _ _) HM rfl ?_; clear HM; intro v1690 w10 HM) | ((with_reducible refine gN 20 rfl ?_); refine pL 20 Kd.string 9 ([] : List ByteArray) [] (Reps.none _ _) HM rfl ?_; clear HM; intro v1693 w11 HM))
    go_loopg [5, 6, 23] kj2 (fun kq v5 v6 v23 w' => ∃ (x5_2 : List Bool) (x6_2 : List ByteArray) (x23_2 : Int), v23 = .int .i64 x23_2 ∧ Aside0 (impl_BestHits.l0 kq l0 a1 x5_2 x6_2 l0 (l0.length : Int) x23_2 = some r) ∧ Aside0 (kq ≤ kj2) ∧ Mem w [] w' [rowR Kd.bool 4 v5 x5_2, rowR Kd.string 9 v6 x6_2])
    case atStart => exact ⟨((([] : List Bool))), ((([] : List ByteArray))), (0), RS, H', ⟨Nat.le_refl _⟩, (MD HM).pick [0, 1]⟩
    case round =>
     clear H' HM
     obtain ⟨x5_2, x6_2, x23_2, rfl, HA, HK2, HM⟩ := hrel
     cases gk with
     | zero => exact absurd HA.out (by simp [impl_BestHits.l0])
     | succ k2 =>
      have H := HA.out
      clear HA
      simp only [impl_BestHits.l0] at H
      go_upto_if 24 with (fail)
      replace H := IT H; rcases H with ⟨c12, H⟩ | ⟨c12, H⟩
      ·have c12b0 : decide (x23_2 < (l0.length : Int)) = true := decide_eq_true c12
       clear c12
       (first | rw [c12b0] | (simp only [i64_w, i32_w]; rw [c12b0]) | skip)
       replace H := GD H; obtain ⟨c13, H⟩ := H
       have c13b0 : decide (0 ≤ x23_2) = true := decide_eq_true c13
       clear c13
       replace H := GD H; obtain ⟨c14, H⟩ := H
       have c14b0 : decide (x23_2 < (l0.length : Int)) = true := decide_eq_true c14
       clear c14
       replace H := BN H; obtain ⟨t1696, A15, H⟩ := H
       replace H := GD H; obtain ⟨c18, H⟩ := H
       have LMc18 := Aside0.mk c18
       clear c18
       replace H := BLt H; obtain ⟨y1697, Ny1697, H⟩ := H
       replace Ny1697 := Aside0.mk Ny1697
       have p1695 : 0 ≤ (x23_2 : Int) := of_decide_eq_true AS
       have q1695 : (x23_2 : Int) < (l0.length : Int) := of_decide_eq_true AS
       obtain ⟨ad1695, e1695, hx1695_0⟩ := Kd.at_string (HM.came HR0.out) x23_2 p1695 q1695
       cases e1695
       replace p1695 := eq_true p1695
       replace q1695 := eq_true q1695
       obtain ⟨Xo17, ko17, eo17⟩ := HM.rdR 1 rfl
       subst eo17
       go_upto_if 35 with (first | ((with_reducible refine gC 55 rfl ?_); refine pC (some 30) rfl #[.slice Xo17 x6_2.length ko17, .string (rdOf ByteArray.empty l0 x23_2)] rfl Try.func55 (slices_Contains_string_string.calls k2 _ _ x6_2 (rdOf ByteArray.empty l0 x23_2) t1696 _ (HM.CR 1 rfl).2.2 (HM.CR 1 rfl).2.1 A15.out) ?_; rintro e w16 ⟨rfl, hd⟩; refine ⟨_, rfl, ?_⟩; replace HM := HM.drawn hd; clear hd) | ((with_reducible refine gN 33 rfl ?_); refine pL 33 Kd.bool 4 [t1696] [.bool t1696] (Reps.one (show Kd.M Kd.bool _ _ _ t1696 [.bool t1696] from rfl) (Reps.none _ _)) HM rfl ?_; clear HM; intro v20 w19 HM; obtain ⟨Xv20, kv20, ev20⟩ := HM.rdR 2 rfl; subst ev20) | ((with_reducible refine gate_builtin (b := .append) (xs := #[.tmp 31, .tmp 33]) rfl ?_); refine pA 0 (.tmp 31) (.tmp 33) 26 4 Kd.bool u5 x5_2 [t1696] Xv20 ([t1696].length) kv20 HM rfl Try.underlying26 info4 rfl (HM.CR 2 rfl).2.2 (by have h_ := LMc18.out; simp only [List.length_singleton]; omega) ?_; clear HM; intro v1698 w21 HM; replace HM := HM.nm 0 rfl Ny1697.out))
       replace H := IB H
       rcases H with ⟨c22, H⟩ | ⟨c22, H⟩
       ·subst c22
        have H' := Aside0.mk H
        clear H
        go_wp2
        go_roundg k2
        case measure => have := HJ2.out; have := HK2.out; omega
        case rel => exact ⟨(y1697), (x6_2), (wrap64 (x23_2 + 1)), RS, H', ⟨by have := HJ2.out; have := HK2.out; omega⟩, (MD HM).pick [0, 1]⟩
       ·subst c22
        go_upto_if 39 with (fail)
        replace H := IT H; rcases H with ⟨c23, H⟩ | ⟨c23, H⟩
        ·have c23b0 : ((x6_2.length : Int) == a1) = true := beq_iff_eq.mpr c23
         have c23b1 : ((x6_2.length : Int) != a1) = false := bne_eq_false_iff_eq.mpr c23
         clear c23
         (first | rw [c23b0] | (simp only [i64_w, i32_w]; rw [c23b0]) | skip)
         replace H := BN H; obtain ⟨t1700, A24, H⟩ := H
         replace H := BN H; obtain ⟨t1701, A26, H⟩ := H
         replace H := GD H; obtain ⟨c28, H⟩ := H
         have LMc28 := Aside0.mk c28
         clear c28
         have H' := Aside0.mk H
         clear H
         go_wp2_with (first | ((with_reducible refine gC 88 rfl ?_); refine pC (some 44) rfl #[.slice (some ad1695) l0.length c0, .slice Xo17 x6_2.length ko17, .int .i64 (wrap64 (x23_2 + 1))] rfl Try.func88 (impl_BestGo.calls k2 _ _ l0 _ _ x6_2 (wrap64 (x23_2 + 1)) t1700 _ (HM.came HR0.out) HC0.out (HM.CR 1 rfl).2.2 (HM.CR 1 rfl).2.1 A24.out) ?_; rintro e w25 ⟨rfl, hR⟩; refine ⟨_, rfl, ?_⟩; replace HM := HM.call hR; clear hR; obtain ⟨P_, hq_, fin_⟩ := HM.man1R 1 rfl) | ((with_reducible refine gC 89 rfl ?_); refine pC (some 49) rfl #[.slice Xo17 x6_2.length ko17, .int .i64 t1700, .int .i64 (wrap64 (t1700 + 1))] rfl Try.func89 (slices_Delete_string_string.calls P_ (.slice Xo17 x6_2.length ko17) x6_2 t1700 (wrap64 (t1700 + 1)) t1701 (bare _) _ (bare_below _) hq_ A26.out) ?_; rintro e w27 ⟨v1702, rfl, hQ_, hB_, hK_⟩; refine ⟨_, rfl, ?_⟩; replace HM := fin_ _ _ _ hQ_ hB_ hK_; clear hQ_ hB_ hK_ hq_ fin_ P_) | ((with_reducible refine gN 52 rfl ?_); refine pL 52 Kd.string 9 [rdOf ByteArray.empty l0 x23_2] [.string (rdOf ByteArray.empty l0 x23_2)] (Reps.one (show Kd.M Kd.string _ _ _ (rdOf ByteArray.empty l0 x23_2) [.string (rdOf ByteArray.empty l0 x23_2)] from rfl) (Reps.none _ _)) HM rfl ?_; clear HM; intro v30 w29 HM; obtain ⟨Xv30, kv30, ev30⟩ := HM.rdR 3 rfl; subst ev30) | ((with_reducible refine gate_builtin (b := .append) (xs := #[.tmp 50, .tmp 52]) rfl ?_); refine pA 1 (.tmp 50) (.tmp 52) 24 9 Kd.string v1702 t1701 [rdOf ByteArray.empty l0 x23_2] Xv30 ([rdOf ByteArray.empty l0 x23_2].length) kv30 HM rfl Try.underlying24 info9 rfl (HM.CR 3 rfl).2.2 (by have h_ := LMc28.out; simp only [List.length_singleton]; omega) ?_; clear HM; intro v1705 w31 HM))
         go_roundg k2
         case measure => have := HJ2.out; have := HK2.out; omega
         case rel => exact ⟨(y1697), ((t1701 ++ [rdOf ByteArray.empty l0 x23_2])), (wrap64 (x23_2 + 1)), RS, H', ⟨by have := HJ2.out; have := HK2.out; omega⟩, (MD HM).pick [0, 1]⟩
        ·have c23b0 : ((x6_2.length : Int) == a1) = false := beq_eq_false_iff_ne.mpr c23
         have c23b1 : ((x6_2.length : Int) != a1) = true := bne_iff_ne.mpr c23
         (first | rw [c23b0] | (simp only [i64_w, i32_w]; rw [c23b0]) | skip)
         replace H := GD H; obtain ⟨c32, H⟩ := H
         have LMc32 := Aside0.mk c32
         clear c32
         have H' := Aside0.mk H
         clear H
         go_wp2_with (first | ((with_reducible refine gN 52 rfl ?_); refine pL 52 Kd.string 9 [rdOf ByteArray.empty l0 x23_2] [.string (rdOf ByteArray.empty l0 x23_2)] (Reps.one (show Kd.M Kd.string _ _ _ (rdOf ByteArray.empty l0 x23_2) [.string (rdOf ByteArray.empty l0 x23_2)] from rfl) (Reps.none _ _)) HM rfl ?_; clear HM; intro v34 w33 HM; obtain ⟨Xv34, kv34, ev34⟩ := HM.rdR 3 rfl; subst ev34) | ((with_reducible refine gate_builtin (b := .append) (xs := #[.tmp 50, .tmp 52]) rfl ?_); refine pA 1 (.tmp 50) (.tmp 52) 24 9 Kd.string (.slice Xo17 x6_2.length ko17) x6_2 [rdOf ByteArray.empty l0 x23_2] Xv34 ([rdOf ByteArray.empty l0 x23_2].length) kv34 HM rfl Try.underlying24 info9 rfl (HM.CR 3 rfl).2.2 (by have h_ := LMc32.out; simp only [List.length_singleton]; omega) ?_; clear HM; intro v1708 w35 HM))
         go_roundg k2
         case measure => have := HJ2.out; have := HK2.out; omega
         case rel => exact ⟨(y1697), ((x6_2 ++ [rdOf ByteArray.empty l0 x23_2])), (wrap64 (x23_2 + 1)), RS, H', ⟨by have := HJ2.out; have := HK2.out; omega⟩, (MD HM).pick [0, 1]⟩
      ·have c12b0 : decide (x23_2 < (l0.length : Int)) = false := decide_eq_false c12
       clear c12
       (first | rw [c12b0] | (simp only [i64_w, i32_w]; rw [c12b0]) | skip)
       obtain rfl := Option.some.inj H
       go_wp2
       go_ret
       exact ⟨_, ER, (MD HM).pick [0]⟩
def impl_BestMisses.f (k : Nat) (l0 : List ByteArray) (a1 : Int) : Option (Int) := (impl_BestHits.f k l0 a1).bind fun t1711 => ((impl_hitsIn.f k t1711).bind fun t1714 => (some (wrap64 ((t1711.length : Int) - t1714))))
set_option maxHeartbeats 8000000 in
set_option maxRecDepth 100000 in
theorem impl_BestMisses.calls (k : Nat) (A0 : Option Addr) (c0 : Nat) (l0 : List ByteArray) (a1 : Int) (r : Int) (w : World) (hr0 : Kd.C Kd.string w A0 l0.length l0) (hc0 : l0.length ≤ c0) (h : impl_BestMisses.f k l0 a1 = some r) :
  Calls Try.prog 37 #[.slice A0 l0.length c0, .int .i64 a1] w fun e w' => e = .returned (.int .i64 r) ∧ Mem w [] w' [] := by
 have HR0 := Aside0.mk hr0
 have HC0 := Aside0.mk hc0
 clear hr0 hc0
 have HM := Mem.nil w
 have H := h
 clear h
 unfold impl_BestMisses.f at H
 go_enter Try.func37, Try.ntmps37
 replace H := BN H; obtain ⟨t1711, A3, H⟩ := H
 replace H := BN H; obtain ⟨t1714, A6, H⟩ := H
 obtain rfl := Option.some.inj H
 go_wp2_with (first | ((with_reducible refine gC 66 rfl ?_); refine pC (some 8) rfl #[.slice A0 l0.length c0, .int .i64 a1] rfl Try.func66 (impl_BestHits.calls k _ _ l0 a1 t1711 _ (HM.came HR0.out) HC0.out A3.out) ?_; rintro e w4 ⟨v1712, rfl, hR⟩; refine ⟨_, rfl, ?_⟩; replace HM := HM.call hR; clear hR; obtain ⟨Xo5, ko5, eo5⟩ := HM.rdR 0 rfl; subst eo5) | ((with_reducible refine gC 52 rfl ?_); refine pC (some 12) rfl #[.slice Xo5 t1711.length ko5] rfl Try.func52 (impl_hitsIn.calls k _ _ t1711 t1714 _ (HM.CR 0 rfl).2.2 (HM.CR 0 rfl).2.1 A6.out) ?_; rintro e w7 ⟨rfl, hd⟩; refine ⟨_, rfl, ?_⟩; replace HM := HM.drawn hd; clear hd))
 go_ret
 exact ⟨ER, (MD HM).pick []⟩
def laws_FnLoop.f (k : Nat) (l0 : List Int) : Option (Bool) := if (l0.length : Int) > 1048576 then (some true) else ((spec_MakeNum.f k l0 6).bind fun t1715 => ((spec_MakeNum.f k l0 5).bind fun t1716 => ((impl_Loop.f k (wrap64 (2 + t1715)) (wrap64 (2 + t1716))).bind fun t1717 => ((impl_CountOf.f k 2 (wrap64 ((wrap64 (2 + t1715)) - 1)) 0 t1717).bind fun bt1720 => ((impl_CountOf.f k 1 (wrap64 ((wrap64 (2 + t1715)) - 1)) 0 t1717).bind fun bt1725 => ((impl_CountOf.f k 2 (wrap64 (2 + t1715)) 0 t1717).bind fun bt1730 => (if (t1717.length : Int) = (wrap64 ((wrap64 (2 + t1715)) * (wrap64 (2 + t1716)))) then (if bt1720.2.1 = 0 then (if bt1725.2.1 = 0 then (if bt1720.1 = (wrap64 ((wrap64 (2 + t1715)) * (wrap64 (2 + t1716)))) then (if bt1730.2.2.1 = (wrap64 (2 + t1715)) then ((impl_BestMisses.f k t1717 (wrap64 (2 + t1715))).bind fun t1735 => (if t1735 = (wrap64 (2 + t1715)) then ((impl_BestMisses.f k t1717 (wrap64 ((wrap64 (2 + t1715)) - 1))).bind fun t1736 => ((laws_less.f ((wrap64 (2 + t1715)) == 2)).bind fun t1737 => (if t1736 < (wrap64 ((wrap64 ((wrap64 (2 + t1715)) * (wrap64 (2 + t1716)))) + t1737)) then ((impl_BestMisses.f k t1717 (wrap64 ((wrap64 (2 + t1715)) - 1))).bind fun t1738 => (some (decide (t1738 > (wrap64 (2 + t1715)))))) else (none)))) else (none))) else (none)) else (none)) else (none)) else (none)) else (none))))))))
set_option maxHeartbeats 8000000 in
set_option maxRecDepth 100000 in
theorem laws_FnLoop.calls (k : Nat) (A0 : Option Addr) (c0 : Nat) (l0 : List Int) (r : Bool) (w : World) (hr0 : Kd.C (Kd.int .u8) w A0 l0.length l0) (hc0 : l0.length ≤ c0) (h : laws_FnLoop.f k l0 = some r) :
  Calls Try.prog 7 #[.slice A0 l0.length c0] w fun e w' => e = .returned (.bool r) ∧ Below w.heap.size w w' := by
 have hu28 := Try.underlying28
 have hu36 := Try.underlying36
 have HR0 := Aside0.mk hr0
 have HC0 := Aside0.mk hc0
 clear hr0 hc0
 have HM := Mem.nil w
 have H := h
 clear h
 unfold laws_FnLoop.f at H
 go_enter Try.func7, Try.ntmps7
 go_upto_if 11 with (fail)
 replace H := IT H; rcases H with ⟨c2, H⟩ | ⟨c2, H⟩
 ·replace c2 : (l0.length : Int) > 1048576 := c2
  have c2b0 : decide (1048576 < (l0.length : Int)) = true := decide_eq_true c2
  have c2b1 : decide (1048576 < l0.length) = true := decide_eq_true (by omega)
  have c2b9 : decide (1048576 < l0.length) = true := decide_eq_true (by omega)
  clear c2
  (first | rw [c2b0] | rw [c2b9] | (simp only [i64_w, i32_w]; rw [c2b0]) | skip)
  obtain rfl := Option.some.inj H
  go_wp2
  go_ret
  exact ⟨ER, HM.bel⟩
 ·replace c2 : ¬ ((l0.length : Int) > 1048576) := c2
  have c2b0 : decide (1048576 < (l0.length : Int)) = false := decide_eq_false c2
  have c2b1 : decide (1048576 < l0.length) = false := decide_eq_false (by omega)
  have c2b9 : decide (1048576 < l0.length) = false := decide_eq_false (by omega)
  clear c2
  (first | rw [c2b0] | rw [c2b9] | (simp only [i64_w, i32_w]; rw [c2b0]) | skip)
  replace H := BN H; obtain ⟨t1715, A3, H⟩ := H
  replace H := BN H; obtain ⟨t1716, A5, H⟩ := H
  replace H := BN H; obtain ⟨t1717, A7, H⟩ := H
  replace H := BN H; obtain ⟨⟨t1720, t1721, t1722, t1723⟩, A9, H⟩ := H
  replace H := BN H; obtain ⟨⟨t1725, t1726, t1727, t1728⟩, A14, H⟩ := H
  replace H := BN H; obtain ⟨⟨t1730, t1731, t1732, t1733⟩, A18, H⟩ := H
  replace H := GD H; obtain ⟨c22, H⟩ := H
  have c22b0 : ((t1717.length : Int) == (wrap64 ((wrap64 (2 + t1715)) * (wrap64 (2 + t1716))))) = true := beq_iff_eq.mpr c22
  have c22b1 : ((t1717.length : Int) != (wrap64 ((wrap64 (2 + t1715)) * (wrap64 (2 + t1716))))) = false := bne_eq_false_iff_eq.mpr c22
  clear c22
  replace H := GD H; obtain ⟨c24, H⟩ := H
  have c24b0 : (t1721 == 0) = true := beq_iff_eq.mpr c24
  have c24b1 : (t1721 != 0) = false := bne_eq_false_iff_eq.mpr c24
  clear c24
  replace H := GD H; obtain ⟨c26, H⟩ := H
  have c26b0 : (t1726 == 0) = true := beq_iff_eq.mpr c26
  have c26b1 : (t1726 != 0) = false := bne_eq_false_iff_eq.mpr c26
  clear c26
  replace H := GD H; obtain ⟨c27, H⟩ := H
  have c27b0 : (t1720 == (wrap64 ((wrap64 (2 + t1715)) * (wrap64 (2 + t1716))))) = true := beq_iff_eq.mpr c27
  have c27b1 : (t1720 != (wrap64 ((wrap64 (2 + t1715)) * (wrap64 (2 + t1716))))) = false := bne_eq_false_iff_eq.mpr c27
  clear c27
  replace H := GD H; obtain ⟨c29, H⟩ := H
  have c29b0 : (t1732 == (wrap64 (2 + t1715))) = true := beq_iff_eq.mpr c29
  have c29b1 : (t1732 != (wrap64 (2 + t1715))) = false := bne_eq_false_iff_eq.mpr c29
  clear c29
  replace H := BN H; obtain ⟨t1735, A30, H⟩ := H
  replace H := GD H; obtain ⟨c32, H⟩ := H
  have c32b0 : (t1735 == (wrap64 (2 + t1715))) = true := beq_iff_eq.mpr c32
  have c32b1 : (t1735 != (wrap64 (2 + t1715))) = false := bne_eq_false_iff_eq.mpr c32
  clear c32
  replace H := BN H; obtain ⟨t1736, A33, H⟩ := H
  replace H := BN H; obtain ⟨t1737, A35, H⟩ := H
  replace H := GD H; obtain ⟨c37, H⟩ := H
  have c37b0 : decide (t1736 < (wrap64 ((wrap64 ((wrap64 (2 + t1715)) * (wrap64 (2 + t1716)))) + t1737))) = true := decide_eq_true c37
  clear c37
  replace H := BN H; obtain ⟨t1738, A38, H⟩ := H
  obtain rfl := Option.some.inj H
  go_wp2_with (first | ((with_reducible refine gC 29 rfl ?_); refine pC (some 13) rfl #[.slice A0 l0.length c0, .int .i64 6] rfl Try.func29 (spec_MakeNum.calls k _ _ l0 6 t1715 _ (HM.came HR0.out) HC0.out A3.out) ?_; rintro e w4 ⟨rfl, hR⟩; refine ⟨_, rfl, ?_⟩; replace HM := HM.call hR; clear hR) | ((with_reducible refine gC 29 rfl ?_); refine pC (some 16) rfl #[.slice A0 l0.length c0, .int .i64 5] rfl Try.func29 (spec_MakeNum.calls k _ _ l0 5 t1716 _ (HM.came HR0.out) HC0.out A5.out) ?_; rintro e w6 ⟨rfl, hR⟩; refine ⟨_, rfl, ?_⟩; replace HM := HM.call hR; clear hR) | ((with_reducible refine gC 36 rfl ?_); refine pC (some 20) rfl #[.int .i64 (wrap64 (2 + t1715)), .int .i64 (wrap64 (2 + t1716))] rfl Try.func36 (impl_Loop.calls k (wrap64 (2 + t1715)) (wrap64 (2 + t1716)) t1717 _ A7.out) ?_; rintro e w8 ⟨v1718, rfl, hR⟩; refine ⟨_, rfl, ?_⟩; replace HM := HM.call hR; clear hR; obtain ⟨Xo11, ko11, eo11⟩ := HM.rdR 0 rfl; subst eo11) | ((with_reducible refine gC 22 rfl ?_); refine pC (some 25) rfl #[.agg #[.int .i64 2, .int .i64 (wrap64 ((wrap64 (2 + t1715)) - 1)), .int .i64 0], .slice Xo11 t1717.length ko11] rfl Try.func22 (impl_CountOf.calls k 2 (wrap64 ((wrap64 (2 + t1715)) - 1)) 0 _ _ t1717 t1720 t1721 t1722 t1723 _ (HM.CR 0 rfl).2.2 (HM.CR 0 rfl).2.1 A9.out) ?_; rintro e w10 ⟨rfl, hR⟩; refine ⟨_, rfl, ?_⟩; replace HM := HM.call hR; clear hR) | ((with_reducible refine gN 6 rfl ?_); refine pB 6 36 [.int .i64 0, .int .i64 0, .int .i64 0, .int .i64 0] HM rfl ?_; clear HM; intro gb1724 w12 HM) | ((with_reducible refine gS 6 rfl ?_); refine pS 1 6 0 [.int .i64 t1720, .int .i64 t1721, .int .i64 t1722, .int .i64 t1723] HM rfl rfl ?_; clear HM; intro w13 HM) | ((with_reducible refine gC 22 rfl ?_); refine pC (some 30) rfl #[.agg #[.int .i64 1, .int .i64 (wrap64 ((wrap64 (2 + t1715)) - 1)), .int .i64 0], .slice Xo11 t1717.length ko11] rfl Try.func22 (impl_CountOf.calls k 1 (wrap64 ((wrap64 (2 + t1715)) - 1)) 0 _ _ t1717 t1725 t1726 t1727 t1728 _ (HM.CR 0 rfl).2.2 (HM.CR 0 rfl).2.1 A14.out) ?_; rintro e w15 ⟨rfl, hR⟩; refine ⟨_, rfl, ?_⟩; replace HM := HM.call hR; clear hR) | ((with_reducible refine gN 7 rfl ?_); refine pB 7 36 [.int .i64 0, .int .i64 0, .int .i64 0, .int .i64 0] HM rfl ?_; clear HM; intro gb1729 w16 HM) | ((with_reducible refine gS 7 rfl ?_); refine pS 2 7 0 [.int .i64 t1725, .int .i64 t1726, .int .i64 t1727, .int .i64 t1728] HM rfl rfl ?_; clear HM; intro w17 HM) | ((with_reducible refine gC 22 rfl ?_); refine pC (some 34) rfl #[.agg #[.int .i64 2, .int .i64 (wrap64 (2 + t1715)), .int .i64 0], .slice Xo11 t1717.length ko11] rfl Try.func22 (impl_CountOf.calls k 2 (wrap64 (2 + t1715)) 0 _ _ t1717 t1730 t1731 t1732 t1733 _ (HM.CR 0 rfl).2.2 (HM.CR 0 rfl).2.1 A18.out) ?_; rintro e w19 ⟨rfl, hR⟩; refine ⟨_, rfl, ?_⟩; replace HM := HM.call hR; clear hR) | ((with_reducible refine gN 8 rfl ?_); refine pB 8 36 [.int .i64 0, .int .i64 0, .int .i64 0, .int .i64 0] HM rfl ?_; clear HM; intro gb1734 w20 HM) | ((with_reducible refine gS 8 rfl ?_); refine pS 3 8 0 [.int .i64 t1730, .int .i64 t1731, .int .i64 t1732, .int .i64 t1733] HM rfl rfl ?_; clear HM; intro w21 HM; obtain ⟨z23_0, z23_1, z23_2, z23_3, Z23_0, Z23_1, Z23_2, Z23_3⟩ := bk4 (HM.bx 1 rfl); obtain ⟨z25_0, z25_1, z25_2, z25_3, Z25_0, Z25_1, Z25_2, Z25_3⟩ := bk4 (HM.bx 2 rfl); obtain ⟨z28_0, z28_1, z28_2, z28_3, Z28_0, Z28_1, Z28_2, Z28_3⟩ := bk4 (HM.bx 3 rfl)) | ((with_reducible refine gC 37 rfl ?_); refine pC (some 68) rfl #[.slice Xo11 t1717.length ko11, .int .i64 (wrap64 (2 + t1715))] rfl Try.func37 (impl_BestMisses.calls k _ _ t1717 (wrap64 (2 + t1715)) t1735 _ (HM.CR 0 rfl).2.2 (HM.CR 0 rfl).2.1 A30.out) ?_; rintro e w31 ⟨rfl, hR⟩; refine ⟨_, rfl, ?_⟩; replace HM := HM.call hR; clear hR) | ((with_reducible refine gC 37 rfl ?_); refine pC (some 76) rfl #[.slice Xo11 t1717.length ko11, .int .i64 (wrap64 ((wrap64 (2 + t1715)) - 1))] rfl Try.func37 (impl_BestMisses.calls k _ _ t1717 (wrap64 ((wrap64 (2 + t1715)) - 1)) t1736 _ (HM.CR 0 rfl).2.2 (HM.CR 0 rfl).2.1 A33.out) ?_; rintro e w34 ⟨rfl, hR⟩; refine ⟨_, rfl, ?_⟩; replace HM := HM.call hR; clear hR) | ((with_reducible refine gC 31 rfl ?_); refine pC (some 82) rfl #[.bool ((wrap64 (2 + t1715)) == 2)] rfl Try.func31 (laws_less.calls ((wrap64 (2 + t1715)) == 2) t1737 _ A35.out) ?_; rintro e w36 ⟨rfl, hd⟩; refine ⟨_, rfl, ?_⟩; replace HM := HM.drawn hd; clear hd) | ((with_reducible refine gC 37 rfl ?_); refine pC (some 90) rfl #[.slice Xo11 t1717.length ko11, .int .i64 (wrap64 ((wrap64 (2 + t1715)) - 1))] rfl Try.func37 (impl_BestMisses.calls k _ _ t1717 (wrap64 ((wrap64 (2 + t1715)) - 1)) t1738 _ (HM.CR 0 rfl).2.2 (HM.CR 0 rfl).2.1 A38.out) ?_; rintro e w39 ⟨rfl, hR⟩; refine ⟨_, rfl, ?_⟩; replace HM := HM.call hR; clear hR))
  go_ret
  exact ⟨ER, HM.bel⟩
/-- A state of type 101 at block g of W; what its slices lead to came in by w0. -/
def IsS101 (w0 W : World) (g : Nat) (f0 : Int) (f1 : Int) (f2 : List (S76)) (f3 : Int) (f4 : Int) (f5 : List (S76)) (f6 : List (S76)) (f7 : List Int) : Prop := ∃ A2 c2, ∃ A5 c5, ∃ A6 c6, ∃ A7 c7, W.heap[g]? = some (.cells #[.int .i64 f0, .int .i64 f1, .slice A2 f2.length c2, .int .i64 f3, .int .i64 f4, .slice A5 f5.length c5, .slice A6 f6.length c6, .slice A7 f7.length c7] 101 (0, 0)) ∧ w0.heap.size ≤ g ∧ Kd.C k76 w0 A2 f2.length f2 ∧ Kd.C k76 w0 A5 f5.length f5 ∧ Kd.C k76 w0 A6 f6.length f6 ∧ Kd.C (Kd.int .i64) w0 A7 f7.length f7
theorem IsS101.grown {w0 W : World} {g : Nat} {f0 : Int} {f1 : Int} {f2 : List (S76)} {f3 : Int} {f4 : Int} {f5 : List (S76)} {f6 : List (S76)} {f7 : List Int} {W1 : World} {row : Option Nat} (h : IsS101 w0 W g f0 f1 f2 f3 f4 f5 f6 f7) (hw : W.grownBy W1 row) (hne : some g ≠ row) : IsS101 w0 W1 g f0 f1 f2 f3 f4 f5 f6 f7 := by
 obtain ⟨A2, c2, A5, c5, A6, c6, A7, c7, hb, hg, hr2, hr5, hr6, hr7⟩ := h
 exact ⟨A2, c2, A5, c5, A6, c6, A7, c7, blk_grown hb hw hne, hg, hr2, hr5, hr6, hr7⟩
theorem IsS101.kept {w0 W : World} {g : Nat} {f0 : Int} {f1 : Int} {f2 : List (S76)} {f3 : Int} {f4 : Int} {f5 : List (S76)} {f6 : List (S76)} {f7 : List Int} {W1 : World} {S : Nat → Prop} (h : IsS101 w0 W g f0 f1 f2 f3 f4 f5 f6 f7) (hk : Kept W W1 S) (hne : ¬ S g) : IsS101 w0 W1 g f0 f1 f2 f3 f4 f5 f6 f7 := by
 obtain ⟨A2, c2, A5, c5, A6, c6, A7, c7, hb, hg, hr2, hr5, hr6, hr7⟩ := h
 exact ⟨A2, c2, A5, c5, A6, c6, A7, c7, blk_kept hb hk hne, hg, hr2, hr5, hr6, hr7⟩
theorem IsS101.below {w0 W : World} {g : Nat} {f0 : Int} {f1 : Int} {f2 : List (S76)} {f3 : Int} {f4 : Int} {f5 : List (S76)} {f6 : List (S76)} {f7 : List Int} {W1 : World} (h : IsS101 w0 W g f0 f1 f2 f3 f4 f5 f6 f7) (hw : Below W.heap.size W W1) : IsS101 w0 W1 g f0 f1 f2 f3 f4 f5 f6 f7 := h.grown (grown_of_below hw none) (by simp)
theorem IsS101.alloc {w0 W : World} {g : Nat} {f0 : Int} {f1 : Int} {f2 : List (S76)} {f3 : Int} {f4 : Int} {f5 : List (S76)} {f6 : List (S76)} {f7 : List Int} (h : IsS101 w0 W g f0 f1 f2 f3 f4 f5 f6 f7) (o : Obj) : IsS101 w0 (W.alloc o) g f0 f1 f2 f3 f4 f5 f6 f7 := h.below (below_alloc (Below.refl _ _) o)
theorem IsS101.drewN {w0 W : World} {g : Nat} {f0 : Int} {f1 : Int} {f2 : List (S76)} {f3 : Int} {f4 : Int} {f5 : List (S76)} {f6 : List (S76)} {f7 : List Int} (h : IsS101 w0 W g f0 f1 f2 f3 f4 f5 f6 f7) (m : Nat) : IsS101 w0 (W.drewN m) g f0 f1 f2 f3 f4 f5 f6 f7 := h
theorem IsS101.drew {w0 W : World} {g : Nat} {f0 : Int} {f1 : Int} {f2 : List (S76)} {f3 : Int} {f4 : Int} {f5 : List (S76)} {f6 : List (S76)} {f7 : List Int} (h : IsS101 w0 W g f0 f1 f2 f3 f4 f5 f6 f7) : IsS101 w0 W.drew g f0 f1 f2 f3 f4 f5 f6 f7 := h
theorem IsS101.at_ {w0 W : World} {g : Nat} {f0 : Int} {f1 : Int} {f2 : List (S76)} {f3 : Int} {f4 : Int} {f5 : List (S76)} {f6 : List (S76)} {f7 : List Int} {w' : World} {m : Nat} (hq : W.drewN m = w') (h : IsS101 w0 W g f0 f1 f2 f3 f4 f5 f6 f7) : IsS101 w0 w' g f0 f1 f2 f3 f4 f5 f6 f7 := by subst hq; exact IsS101.drewN h m
theorem IsS101.apart {w0 W : World} {g : Nat} {f0 : Int} {f1 : Int} {f2 : List (S76)} {f3 : Int} {f4 : Int} {f5 : List (S76)} {f6 : List (S76)} {f7 : List Int} {α : Type} {d : Kd α} {e : Nat} {base : Nat} {ok : Nat → Prop} {v : Value} {xs : List α} (h : IsS101 w0 W g f0 f1 f2 f3 f4 f5 f6 f7) (ho : d.R e W base ok v xs) (ht : ∀ q, q ∈ e :: d.E → q ≠ 101) : d.R e W base (fun k => ok k ∧ k ≠ g) v xs := by
 obtain ⟨A2, c2, A5, c5, A6, c6, A7, c7, hb, hg, hr2, hr5, hr6, hr7⟩ := h
 exact Kd.R_types ho hb ht
theorem IsS101.lt {w0 W : World} {g : Nat} {f0 : Int} {f1 : Int} {f2 : List (S76)} {f3 : Int} {f4 : Int} {f5 : List (S76)} {f6 : List (S76)} {f7 : List Int} (h : IsS101 w0 W g f0 f1 f2 f3 f4 f5 f6 f7) : g < W.heap.size := by
 obtain ⟨A2, c2, A5, c5, A6, c6, A7, c7, hb, hg, hr2, hr5, hr6, hr7⟩ := h
 exact blk_lt hb
end Go.Proofs.Ytanakbmhclpamaa.G
