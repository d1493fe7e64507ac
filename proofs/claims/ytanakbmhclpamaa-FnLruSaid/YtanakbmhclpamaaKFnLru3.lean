/- Part 3 of the claim FnLru, merged by pack.py (this session's program) out of: the print's words, cut to what is needed; texts that gen.py printed (it runs the kit's print in place); texts of this session. -/
import Derived.Test.YtanakbmhclpamaaKFnLru1
import Derived.Test.YtanakbmhclpamaaKFnLru2
namespace Go.Proofs.Ytanakbmhclpamaa.Mm
end Go.Proofs.Ytanakbmhclpamaa.Mm
namespace Go.Proofs.Ytanakbmhclpamaa.Sh
end Go.Proofs.Ytanakbmhclpamaa.Sh
namespace Go.Proofs.Ytanakbmhclpamaa.G
open Go.RowKit Go.Proofs.YtanakbmhclpamaaW.PrintWords Go.Proofs.YtanakbmhclpamaaW.PrintLast Go.Proofs.YtanakbmhclpamaaW.PrintMore Go.Proofs.Ytanakbmhclpamaa.Sh
attribute [local go_sem] max2_int min2_int max_two min_two max_three min_three max_four min_four
set_option linter.unusedVariables false
set_option linter.unusedSimpArgs false
def slices_Index_string_string.l0 : Nat → List ByteArray → ByteArray → Int → Int → Option (Int)
 | 0, _, _, _, _ => none
 | k + 1, x0, x1, x7, x8 => if x8 < x7 then (if 0 ≤ x8 then (if x8 < (x0.length : Int) then (if x1.toList = (rdOf ByteArray.empty x0 x8).toList then (some x8) else (slices_Index_string_string.l0 k x0 x1 x7 (wrap64 (x8 + 1)))) else (none)) else (none)) else (some (-1))
def slices_Index_string_string.f (k : Nat) (l0 : List ByteArray) (a1 : ByteArray) : Option (Int) := slices_Index_string_string.l0 k l0 a1 (l0.length : Int) 0
theorem slices_Index_string_string.mono_l : ∀ k, (∀ y0 y1 y2 y3, LeO (slices_Index_string_string.l0 k y0 y1 y2 y3) (slices_Index_string_string.l0 (k + 1) y0 y1 y2 y3))
 | 0 => fun _ _ _ _ r h => by simp [slices_Index_string_string.l0] at h
 | k + 1 => by
  have ih0 := slices_Index_string_string.mono_l k
  ·intro y0 y1 y2 y3
   unfold slices_Index_string_string.l0
   repeat' first | (with_reducible first | exact ih0 _ _ _ _ | exact LeO.refl _ | exact LeO.none _ | refine LeO.ite ?_ ?_ | refine LeO.bind ?_ (fun _ => ?_)) | exact LeO.none _ | refine LeO.ite ?_ ?_ | refine LeO.bind ?_ (fun _ => ?_)
theorem slices_Index_string_string.mono : ∀ a0 a1 k, LeO (slices_Index_string_string.f k a0 a1) (slices_Index_string_string.f (k + 1) a0 a1) := by
 intro a0 a1 k
 have ih0 := slices_Index_string_string.mono_l k
 unfold slices_Index_string_string.f
 repeat' first | (with_reducible first | exact ih0 _ _ _ _ | exact LeO.refl _ | exact LeO.none _ | refine LeO.ite ?_ ?_ | refine LeO.bind ?_ (fun _ => ?_)) | exact LeO.none _ | refine LeO.ite ?_ ?_ | refine LeO.bind ?_ (fun _ => ?_)
set_option maxHeartbeats 8000000 in
set_option maxRecDepth 100000 in
theorem slices_Index_string_string.calls (k : Nat) (A0 : Option Addr) (c0 : Nat) (l0 : List ByteArray) (a1 : ByteArray) (r : Int) (w : World) (hr0 : Kd.C Kd.string w A0 l0.length l0) (hc0 : l0.length ≤ c0) (h : slices_Index_string_string.f k l0 a1 = some r) :
  Calls Try.prog 79 #[.slice A0 l0.length c0, .string a1] w fun e w' => e = .returned (.int .i64 r) ∧ Drawn0 w w' := by
 have HR0 := Aside0.mk hr0
 have HC0 := Aside0.mk hc0
 clear hr0 hc0
 have H : (slices_Index_string_string.l0 k l0 a1 (l0.length : Int) 0) = some r := h
 clear h
 have H' := Aside0.mk H
 clear H
 go_enter Try.func79, Try.ntmps79
 go_wp2
 go_loopg [8] k (fun kq v8 w' => ∃ (x8_1 : Int), v8 = .int .i64 x8_1 ∧ Aside0 (slices_Index_string_string.l0 kq l0 a1 (l0.length : Int) x8_1 = some r) ∧ Aside0 (kq ≤ k) ∧ Drawn0 w w')
 case atStart => exact ⟨(0), RS, H', ⟨Nat.le_refl _⟩, DR⟩
 case round =>
  clear H'
  try clear p2
  obtain ⟨x8_1, rfl, HA, HK1, ⟨m1, rfl⟩⟩ := hrel
  cases gk with
  | zero => exact absurd HA.out (by simp [slices_Index_string_string.l0])
  | succ k1 =>
   have H := HA.out
   clear HA
   simp only [slices_Index_string_string.l0] at H
   by_cases c3 : x8_1 < (l0.length : Int)
   ·rw [if_pos c3] at H
    have c3b0 : decide (x8_1 < (l0.length : Int)) = true := decide_eq_true c3
    clear c3
    by_cases c4 : 0 ≤ x8_1
    ·rw [if_pos c4] at H
     have c4b0 : decide (0 ≤ x8_1) = true := decide_eq_true c4
     clear c4
     by_cases c5 : x8_1 < (l0.length : Int)
     ·rw [if_pos c5] at H
      have c5b0 : decide (x8_1 < (l0.length : Int)) = true := decide_eq_true c5
      clear c5
      by_cases c6 : a1.toList = (rdOf ByteArray.empty l0 x8_1).toList
      ·rw [if_pos c6] at H
       have c6b0 : (a1.toList == (rdOf ByteArray.empty l0 x8_1).toList) = true := beq_iff_eq.mpr c6
       have c6b1 : (a1.toList != (rdOf ByteArray.empty l0 x8_1).toList) = false := bne_eq_false_iff_eq.mpr c6
       clear c6
       obtain rfl := Option.some.inj H
       have p1515 : 0 ≤ (x8_1 : Int) := of_decide_eq_true AS
       have q1515 : x8_1 < (l0.length : Int) := of_decide_eq_true AS
       obtain ⟨ad1515, e1515, hx1515_0⟩ := Kd.at_string HR0.out x8_1 p1515 q1515
       cases e1515
       replace p1515 := eq_true p1515
       replace q1515 := eq_true q1515
       go_wp2
       go_ret
       exact ⟨by first | rfl | (simp; done) | (simp [*]; done), DR⟩
      ·rw [if_neg c6] at H
       have c6b0 : (a1.toList == (rdOf ByteArray.empty l0 x8_1).toList) = false := beq_eq_false_iff_ne.mpr c6
       have c6b1 : (a1.toList != (rdOf ByteArray.empty l0 x8_1).toList) = true := bne_iff_ne.mpr c6
       have H' := Aside0.mk H
       clear H
       have p1515 : 0 ≤ (x8_1 : Int) := of_decide_eq_true AS
       have q1515 : x8_1 < (l0.length : Int) := of_decide_eq_true AS
       obtain ⟨ad1515, e1515, hx1515_0⟩ := Kd.at_string HR0.out x8_1 p1515 q1515
       cases e1515
       replace p1515 := eq_true p1515
       replace q1515 := eq_true q1515
       go_wp2
       go_roundg k1
       case measure => have := HK1.out; omega
       case rel => exact ⟨(wrap64 (x8_1 + 1)), RS, H', ⟨by have := HK1.out; omega⟩, DR⟩
     ·rw [if_neg c5] at H
      exact absurd H (by simp)
    ·rw [if_neg c4] at H
     exact absurd H (by simp)
   ·rw [if_neg c3] at H
    have c3b0 : decide (x8_1 < (l0.length : Int)) = false := decide_eq_false c3
    clear c3
    obtain rfl := Option.some.inj H
    go_wp2
    go_ret
    exact ⟨by first | rfl | (simp; done) | (simp [*]; done), DR⟩
def slices_Contains_string_string.f (k : Nat) (l0 : List ByteArray) (a1 : ByteArray) : Option (Bool) := (slices_Index_string_string.f k l0 a1).bind fun t1517 => (some (decide (t1517 ≥ 0)))
theorem slices_Contains_string_string.mono : ∀ a0 a1 k, LeO (slices_Contains_string_string.f k a0 a1) (slices_Contains_string_string.f (k + 1) a0 a1) := by
 intro a0 a1 k
 unfold slices_Contains_string_string.f
 repeat' first | (with_reducible first | exact slices_Index_string_string.mono _ _ _ | exact LeO.refl _ | exact LeO.none _ | refine LeO.ite ?_ ?_ | refine LeO.bind ?_ (fun _ => ?_)) | exact LeO.none _ | refine LeO.ite ?_ ?_ | refine LeO.bind ?_ (fun _ => ?_)
set_option maxHeartbeats 8000000 in
set_option maxRecDepth 100000 in
theorem slices_Contains_string_string.calls (k : Nat) (A0 : Option Addr) (c0 : Nat) (l0 : List ByteArray) (a1 : ByteArray) (r : Bool) (w : World) (hr0 : Kd.C Kd.string w A0 l0.length l0) (hc0 : l0.length ≤ c0) (h : slices_Contains_string_string.f k l0 a1 = some r) :
  Calls Try.prog 55 #[.slice A0 l0.length c0, .string a1] w fun e w' => e = .returned (.bool r) ∧ Drawn0 w w' := by
 have HR0 := Aside0.mk hr0
 have HC0 := Aside0.mk hc0
 clear hr0 hc0
 have H : ((slices_Index_string_string.f k l0 a1).bind fun t1517 => (some (decide (t1517 ≥ 0)))) = some r := h
 clear h
 replace H := BS H
 obtain ⟨t1517, A30, H⟩ := H
 have A3 := Aside0.mk A30
 clear A30
 obtain rfl := Option.some.inj H
 go_enter Try.func55, Try.ntmps55
 go_wp2_with (first | ((with_reducible refine gate_callee (f := 79) rfl ?_); refine goesL_ (some 7) rfl rfl Try.func79 (by kernel_rfl) rfl #[.slice A0 l0.length c0, .string a1] rfl AQ ?_; (with_reducible refine (slices_Index_string_string.calls k _ _ l0 a1 t1517 _ ?side1 ?side2 A3.out).mono ?_); (case side1 => repeat (first | exact HR0.out | (with_reducible refine Kd.C_alloc ?_ _) | (with_reducible refine Kd.C_drewN ?_ _) | (with_reducible refine Kd.C_drew ?_))); (case side2 => exact HC0.out); rintro e w' ⟨rfl, ⟨nd, rfl⟩⟩; refine ⟨_, rfl, ?_⟩))
 go_ret
 exact ⟨by first | rfl | (simp; done) | (simp [*]; done), DR⟩
end Go.Proofs.Ytanakbmhclpamaa.G

namespace Go.Proofs.Ytanakbmhclpamaa.G
open Go.RowKit Go.Proofs.YtanakbmhclpamaaW.PrintWords Go.Proofs.YtanakbmhclpamaaW.PrintLast Go.Proofs.YtanakbmhclpamaaW.PrintMore Go.Proofs.Ytanakbmhclpamaa.Sh
attribute [local go_sem] max2_int min2_int max_two min_two max_three min_three max_four min_four
set_option linter.unusedVariables false
set_option linter.unusedSimpArgs false
open Go.Proofs.Ytanakbmhclpamaa.Mm
def impl_Distinct.l0 : Nat → List ByteArray → List ByteArray → Int → Int → Option (List ByteArray)
 | 0, _, _, _, _ => none
 | k + 1, x3, x7, x8, x9 => if x9 < x8 then (if 0 ≤ x9 then (if x9 < (x7.length : Int) then ((slices_Contains_string_string.f k x3 (rdOf ByteArray.empty x7 x9)).bind fun t1522 => (if t1522 = true then (impl_Distinct.l0 k x3 x7 x8 (wrap64 (x9 + 1))) else (if x3.length < 8796093022208 then (impl_Distinct.l0 k (x3 ++ [rdOf ByteArray.empty x7 x9]) x7 x8 (wrap64 (x9 + 1))) else (none)))) else (none)) else (none)) else (some x3)
def impl_Distinct.f (k : Nat) (l0 : List ByteArray) : Option (List ByteArray) := impl_Distinct.l0 k (([] : List ByteArray)) l0 (l0.length : Int) 0
set_option maxHeartbeats 8000000 in
set_option maxRecDepth 100000 in
theorem impl_Distinct.calls (k : Nat) (A0 : Option Addr) (c0 : Nat) (l0 : List ByteArray) (r : List ByteArray) (w : World) (hr0 : Kd.C Kd.string w A0 l0.length l0) (hc0 : l0.length ≤ c0) (h : impl_Distinct.f k l0 = some r) :
  Calls Try.prog 27 #[.slice A0 l0.length c0] w fun e w' => ∃ v0_ : Value, e = .returned (v0_) ∧ Mem w [] w' [rowR Kd.string 9 v0_ r] := by
 have HR0 := Aside0.mk hr0
 have HC0 := Aside0.mk hc0
 clear hr0 hc0
 have HM := Mem.nil w
 have H := h
 clear h
 unfold impl_Distinct.f at H
 go_enter Try.func27, Try.ntmps27
 have H' := Aside0.mk H
 clear H
 go_wp2_with (first | ((with_reducible refine gN 6 rfl ?_); refine pL 6 Kd.string 9 ([] : List ByteArray) [] (Reps.none _ _) HM rfl ?_; clear HM; intro v1519 w2 HM))
 go_loopg [3, 9] k (fun kq v3 v9 w' => ∃ (x3_1 : List ByteArray) (x9_1 : Int), v9 = .int .i64 x9_1 ∧ Aside0 (impl_Distinct.l0 kq x3_1 l0 (l0.length : Int) x9_1 = some r) ∧ Aside0 (kq ≤ k) ∧ Mem w [] w' [rowR Kd.string 9 v3 x3_1])
 case atStart => exact ⟨((([] : List ByteArray))), (0), RS, H', ⟨Nat.le_refl _⟩, (MD HM).pick [0]⟩
 case round =>
  clear H' HM
  obtain ⟨x3_1, x9_1, rfl, HA, HK1, HM⟩ := hrel
  cases gk with
  | zero => exact absurd HA.out (by simp [impl_Distinct.l0])
  | succ k1 =>
   have H := HA.out
   clear HA
   simp only [impl_Distinct.l0] at H
   go_upto_if 10 with (fail)
   replace H := IT H; rcases H with ⟨c3, H⟩ | ⟨c3, H⟩
   ·have c3b0 : decide (x9_1 < (l0.length : Int)) = true := decide_eq_true c3
    clear c3
    (first | rw [c3b0] | (simp only [i64_w, i32_w]; rw [c3b0]) | skip)
    replace H := GD H; obtain ⟨c4, H⟩ := H
    have c4b0 : decide (0 ≤ x9_1) = true := decide_eq_true c4
    clear c4
    replace H := GD H; obtain ⟨c5, H⟩ := H
    have c5b0 : decide (x9_1 < (l0.length : Int)) = true := decide_eq_true c5
    clear c5
    replace H := BN H; obtain ⟨t1522, A6, H⟩ := H
    have p1521 : 0 ≤ (x9_1 : Int) := of_decide_eq_true AS
    have q1521 : (x9_1 : Int) < (l0.length : Int) := of_decide_eq_true AS
    obtain ⟨ad1521, e1521, hx1521_0⟩ := Kd.at_string (HM.came HR0.out) x9_1 p1521 q1521
    cases e1521
    replace p1521 := eq_true p1521
    replace q1521 := eq_true q1521
    obtain ⟨Xo8, ko8, eo8⟩ := HM.rdR 0 rfl
    subst eo8
    go_upto_if 16 with (first | ((with_reducible refine gC 55 rfl ?_); refine pC (some 15) rfl #[.slice Xo8 x3_1.length ko8, .string (rdOf ByteArray.empty l0 x9_1)] rfl Try.func55 (slices_Contains_string_string.calls k1 _ _ x3_1 (rdOf ByteArray.empty l0 x9_1) t1522 _ (HM.CR 0 rfl).2.2 (HM.CR 0 rfl).2.1 A6.out) ?_; rintro e w7 ⟨rfl, hd⟩; refine ⟨_, rfl, ?_⟩; replace HM := HM.drawn hd; clear hd))
    replace H := IB H
    rcases H with ⟨c9, H⟩ | ⟨c9, H⟩
    ·subst c9
     have H' := Aside0.mk H
     clear H
     go_wp2
     go_roundg k1
     case measure => have := HK1.out; omega
     case rel => exact ⟨(x3_1), (wrap64 (x9_1 + 1)), RS, H', ⟨by have := HK1.out; omega⟩, (MD HM).pick [0]⟩
    ·subst c9
     replace H := GD H; obtain ⟨c10, H⟩ := H
     have LMc10 := Aside0.mk c10
     clear c10
     have H' := Aside0.mk H
     clear H
     go_wp2_with (first | ((with_reducible refine gN 19 rfl ?_); refine pL 19 Kd.string 9 [rdOf ByteArray.empty l0 x9_1] [.string (rdOf ByteArray.empty l0 x9_1)] (Reps.one (show Kd.M Kd.string _ _ _ (rdOf ByteArray.empty l0 x9_1) [.string (rdOf ByteArray.empty l0 x9_1)] from rfl) (Reps.none _ _)) HM rfl ?_; clear HM; intro v12 w11 HM; obtain ⟨Xv12, kv12, ev12⟩ := HM.rdR 1 rfl; subst ev12) | ((with_reducible refine gate_builtin (b := .append) (xs := #[.tmp 17, .tmp 19]) rfl ?_); refine pA 0 (.tmp 17) (.tmp 19) 24 9 Kd.string (.slice Xo8 x3_1.length ko8) x3_1 [rdOf ByteArray.empty l0 x9_1] Xv12 ([rdOf ByteArray.empty l0 x9_1].length) kv12 HM rfl Try.underlying24 info9 rfl (HM.CR 1 rfl).2.2 (by have h_ := LMc10.out; simp only [List.length_singleton]; omega) ?_; clear HM; intro v1524 w13 HM))
     go_roundg k1
     case measure => have := HK1.out; omega
     case rel => exact ⟨((x3_1 ++ [rdOf ByteArray.empty l0 x9_1])), (wrap64 (x9_1 + 1)), RS, H', ⟨by have := HK1.out; omega⟩, (MD HM).pick [0]⟩
   ·have c3b0 : decide (x9_1 < (l0.length : Int)) = false := decide_eq_false c3
    clear c3
    (first | rw [c3b0] | (simp only [i64_w, i32_w]; rw [c3b0]) | skip)
    obtain rfl := Option.some.inj H
    go_wp2
    go_ret
    exact ⟨_, ER, (MD HM).pick [0]⟩
/-- A state of type 81 at block g of W; what its slices lead to came in by w0. -/
def IsS81 (w0 W : World) (g : Nat) (f0 : List Int) (f1 : Int) (f2 : Int) : Prop := ∃ A0 c0, W.heap[g]? = some (.cells #[.slice A0 f0.length c0, .int .i64 f1, .int .i64 f2] 81 (0, 0)) ∧ w0.heap.size ≤ g ∧ Kd.C (Kd.int .u8) w0 A0 f0.length f0
theorem IsS81.grown {w0 W : World} {g : Nat} {f0 : List Int} {f1 : Int} {f2 : Int} {W1 : World} {row : Option Nat} (h : IsS81 w0 W g f0 f1 f2) (hw : W.grownBy W1 row) (hne : some g ≠ row) : IsS81 w0 W1 g f0 f1 f2 := by
 obtain ⟨A0, c0, hb, hg, hr0⟩ := h
 exact ⟨A0, c0, blk_grown hb hw hne, hg, hr0⟩
theorem IsS81.kept {w0 W : World} {g : Nat} {f0 : List Int} {f1 : Int} {f2 : Int} {W1 : World} {S : Nat → Prop} (h : IsS81 w0 W g f0 f1 f2) (hk : Kept W W1 S) (hne : ¬ S g) : IsS81 w0 W1 g f0 f1 f2 := by
 obtain ⟨A0, c0, hb, hg, hr0⟩ := h
 exact ⟨A0, c0, blk_kept hb hk hne, hg, hr0⟩
theorem IsS81.below {w0 W : World} {g : Nat} {f0 : List Int} {f1 : Int} {f2 : Int} {W1 : World} (h : IsS81 w0 W g f0 f1 f2) (hw : Below W.heap.size W W1) : IsS81 w0 W1 g f0 f1 f2 := h.grown (grown_of_below hw none) (by simp)
theorem IsS81.alloc {w0 W : World} {g : Nat} {f0 : List Int} {f1 : Int} {f2 : Int} (h : IsS81 w0 W g f0 f1 f2) (o : Obj) : IsS81 w0 (W.alloc o) g f0 f1 f2 := h.below (below_alloc (Below.refl _ _) o)
theorem IsS81.drewN {w0 W : World} {g : Nat} {f0 : List Int} {f1 : Int} {f2 : Int} (h : IsS81 w0 W g f0 f1 f2) (m : Nat) : IsS81 w0 (W.drewN m) g f0 f1 f2 := h
theorem IsS81.drew {w0 W : World} {g : Nat} {f0 : List Int} {f1 : Int} {f2 : Int} (h : IsS81 w0 W g f0 f1 f2) : IsS81 w0 W.drew g f0 f1 f2 := h
theorem IsS81.at_ {w0 W : World} {g : Nat} {f0 : List Int} {f1 : Int} {f2 : Int} {w' : World} {m : Nat} (hq : W.drewN m = w') (h : IsS81 w0 W g f0 f1 f2) : IsS81 w0 w' g f0 f1 f2 := by subst hq; exact IsS81.drewN h m
theorem IsS81.apart {w0 W : World} {g : Nat} {f0 : List Int} {f1 : Int} {f2 : Int} {α : Type} {d : Kd α} {e : Nat} {base : Nat} {ok : Nat → Prop} {v : Value} {xs : List α} (h : IsS81 w0 W g f0 f1 f2) (ho : d.R e W base ok v xs) (ht : ∀ q, q ∈ e :: d.E → q ≠ 81) : d.R e W base (fun k => ok k ∧ k ≠ g) v xs := by
 obtain ⟨A0, c0, hb, hg, hr0⟩ := h
 exact Kd.R_types ho hb ht
theorem IsS81.lt {w0 W : World} {g : Nat} {f0 : List Int} {f1 : Int} {f2 : Int} (h : IsS81 w0 W g f0 f1 f2) : g < W.heap.size := by
 obtain ⟨A0, c0, hb, hg, hr0⟩ := h
 exact blk_lt hb
def spec_l01New.l0 : Nat → List Int → Int → Int → Option (List Int × Int × Int)
 | 0, _, _, _ => none
 | k + 1, x0, x3, x4 => if x4 < (x0.length : Int) then (if x4 < 4000 then (if 0 ≤ x4 then (spec_l01New.l0 k x0 (Go.bits .and .i64 (wrap64 ((wrap64 ((wrap64 (x3 * 179)) + (wrap64 (rd x0 x4)))) + 7)) 1073741823) (wrap64 (x4 + 1))) else (none)) else (some (x0, 0, x3))) else (some (x0, 0, x3))
def spec_l01New.f (k : Nat) (l0 : List Int) : Option (List Int × Int × Int) := spec_l01New.l0 k l0 (wrap64 (774119 + (l0.length : Int))) 0
set_option maxHeartbeats 8000000 in
set_option maxRecDepth 100000 in
theorem spec_l01New.calls (k : Nat) (A0 : Option Addr) (c0 : Nat) (l0 : List Int) (r1 : List Int) (r2 : Int) (r3 : Int) (w0 w : World) (hB : Below w0.heap.size w0 w) (hr0 : Kd.C (Kd.int .u8) w0 A0 l0.length l0) (hc0 : l0.length ≤ c0) (h : spec_l01New.f k l0 = some (r1, r2, r3)) :
  Calls Try.prog 56 #[.slice A0 l0.length c0] w fun e w' => ∃ g_ : Nat, ∃ (X0_ : Option Addr) (c0_ : Nat), e = .returned (.pointer (some ⟨g_, 0, none⟩)) ∧ Mem w [] w' [box 81 g_ [.slice X0_ r1.length c0_, .int .i64 r2, .int .i64 r3]] ∧ Kd.C (Kd.int .u8) w0 X0_ r1.length r1 ∧ r1.length ≤ c0_ := by
 have hu81 := Try.underlying81
 have HZ0 := Aside0.mk hr0
 have HR0 := Aside0.mk (Kd.C_below hr0 hB)
 have HC0 := Aside0.mk hc0
 clear hr0 hc0
 clear hB
 have HM := Mem.nil w
 have H := h
 clear h
 unfold spec_l01New.f at H
 go_enter Try.func56, Try.ntmps56
 have H' := Aside0.mk H
 clear H
 go_wp2
 go_loopg [3, 4] k (fun kq v3 v4 w' => ∃ (x3_1 : Int) (x4_1 : Int), v3 = .int .i64 x3_1 ∧ v4 = .int .i64 x4_1 ∧ Aside0 (spec_l01New.l0 kq l0 x3_1 x4_1 = some (r1, r2, r3)) ∧ Aside0 (kq ≤ k) ∧ Mem w [] w' [])
 case atStart => exact ⟨(wrap64 (774119 + (l0.length : Int))), (0), RS, RS, H', ⟨Nat.le_refl _⟩, (MD HM).pick []⟩
 case round =>
  clear H' HM
  obtain ⟨x3_1, x4_1, rfl, rfl, HA, HK1, HM⟩ := hrel
  cases gk with
  | zero => exact absurd HA.out (by simp [spec_l01New.l0])
  | succ k1 =>
   have H := HA.out
   clear HA
   simp only [spec_l01New.l0] at H
   replace H := IT H; rcases H with ⟨c2, H⟩ | ⟨c2, H⟩
   ·have c2b0 : decide (x4_1 < (l0.length : Int)) = true := decide_eq_true c2
    clear c2
    go_upto_if 15 with (fail)
    replace H := IT H; rcases H with ⟨c3, H⟩ | ⟨c3, H⟩
    ·have c3b0 : decide (x4_1 < 4000) = true := decide_eq_true c3
     clear c3
     (first | rw [c3b0] | (simp only [i64_w, i32_w]; rw [c3b0]) | skip)
     replace H := GD H; obtain ⟨c4, H⟩ := H
     have c4b0 : decide (0 ≤ x4_1) = true := decide_eq_true c4
     clear c4
     have H' := Aside0.mk H
     clear H
     have p1526 : 0 ≤ (x4_1 : Int) := of_decide_eq_true AS
     have q1526 : (x4_1 : Int) < (l0.length : Int) := of_decide_eq_true AS
     obtain ⟨ad1526, e1526, hx1526_0⟩ := Kd.at_int (HM.came HR0.out) x4_1 p1526 q1526
     cases e1526
     replace p1526 := eq_true p1526
     replace q1526 := eq_true q1526
     go_wp2
     go_roundg k1
     case measure => have := HK1.out; omega
     case rel => exact ⟨(Go.bits .and .i64 (wrap64 ((wrap64 ((wrap64 (x3_1 * 179)) + (wrap64 (rd l0 x4_1)))) + 7)) 1073741823), (wrap64 (x4_1 + 1)), RS, RS, H', ⟨by have := HK1.out; omega⟩, (MD HM).pick []⟩
    ·have c3b0 : decide (x4_1 < 4000) = false := decide_eq_false c3
     clear c3
     (first | rw [c3b0] | (simp only [i64_w, i32_w]; rw [c3b0]) | skip)
     simp only [Option.some.injEq, Prod.mk.injEq] at H
     obtain ⟨rfl, rfl, rfl⟩ := H
     go_wp2_with (first | ((with_reducible refine gN 31 rfl ?_); refine pB 31 81 [.slice A0 l0.length c0, .int .i64 0, .int .i64 x3_1] HM rfl ?_; clear HM; intro gb1527 w5 HM))
     go_ret
     exact ⟨_, _, _, ER, (MD HM).pick [0], HZ0.out, HC0.out⟩
   ·have c2b0 : decide (x4_1 < (l0.length : Int)) = false := decide_eq_false c2
    clear c2
    simp only [Option.some.injEq, Prod.mk.injEq] at H
    obtain ⟨rfl, rfl, rfl⟩ := H
    go_wp2_with (first | ((with_reducible refine gN 31 rfl ?_); refine pB 31 81 [.slice A0 l0.length c0, .int .i64 0, .int .i64 x3_1] HM rfl ?_; clear HM; intro gb1528 w6 HM))
    go_ret
    exact ⟨_, _, _, ER, (MD HM).pick [0], HZ0.out, HC0.out⟩
def spec_l01Byte.f (s0_0 : List Int) (s0_1 : Int) (s0_2 : Int) : Option (Int × Int × Int) := if s0_1 < (s0_0.length : Int) then (if 0 ≤ s0_1 then (some (Go.bits .and .i64 (wrap64 ((Go.bits .and .i64 (Go.bits .xor .i64 ((wrap64 ((wrap64 (s0_2 * 6364136223846793005)) + 1442695040888963407)) / 8589934592) ((wrap64 ((wrap64 (s0_2 * 6364136223846793005)) + 1442695040888963407)) / 35184372088832)) 255) + (wrap64 (rd s0_0 s0_1)))) 255, wrap64 (s0_1 + 1), wrap64 ((wrap64 (s0_2 * 6364136223846793005)) + 1442695040888963407))) else (none)) else (some (Go.bits .and .i64 (Go.bits .xor .i64 ((wrap64 ((wrap64 (s0_2 * 6364136223846793005)) + 1442695040888963407)) / 8589934592) ((wrap64 ((wrap64 (s0_2 * 6364136223846793005)) + 1442695040888963407)) / 35184372088832)) 255, s0_1, wrap64 ((wrap64 (s0_2 * 6364136223846793005)) + 1442695040888963407)))
set_option maxHeartbeats 8000000 in
set_option maxRecDepth 100000 in
theorem spec_l01Byte.calls (g : Nat) (A0_0 : Option Addr) (c0_0 : Nat) (s0_0 : List Int) (s0_1 : Int) (s0_2 : Int) (r1 : Int) (r2 : Int) (r3 : Int) (w0 w : World) (F : List SP) (hrs0_0 : Kd.C (Kd.int .u8) w0 A0_0 s0_0.length s0_0) (hcs0_0 : s0_0.length ≤ c0_0) (hM : Mem w0 F w [box 81 g [.slice A0_0 s0_0.length c0_0, .int .i64 s0_1, .int .i64 s0_2]]) (h : spec_l01Byte.f s0_0 s0_1 s0_2 = some (r1, r2, r3)) :
  Calls Try.prog 81 #[.pointer (some ⟨g, 0, none⟩)] w fun e w' => e = .returned (.int .i64 r1) ∧ Mem w0 F w' [box 81 g [.slice A0_0 s0_0.length c0_0, .int .i64 r2, .int .i64 r3]] := by
 have HRs0_0 := Aside0.mk hrs0_0
 have HCs0_0 := Aside0.mk hcs0_0
 clear hrs0_0 hcs0_0
 have HM := hM
 clear hM
 have H := h
 clear h
 unfold spec_l01Byte.f at H
 go_enter Try.func81, Try.ntmps81
 obtain ⟨z2_0, z2_1, z2_2, Z2_0, Z2_1, Z2_2⟩ := bk3 (HM.bx 0 rfl)
 go_upto_if 34 with (first | ((with_reducible refine gS 12 rfl ?_); refine pS 0 12 2 [.int .i64 (wrap64 ((wrap64 (s0_2 * 6364136223846793005)) + 1442695040888963407))] HM rfl rfl ?_; clear HM; intro w3 HM; obtain ⟨z4_0, z4_1, z4_2, Z4_0, Z4_1, Z4_2⟩ := bk3 (HM.bx 0 rfl)))
 repeat (go_quiet (first | ((with_reducible refine gS 12 rfl ?_); refine pS 0 12 2 [.int .i64 (wrap64 ((wrap64 (s0_2 * 6364136223846793005)) + 1442695040888963407))] HM rfl rfl ?_; clear HM; intro w3 HM; obtain ⟨z4_0, z4_1, z4_2, Z4_0, Z4_1, Z4_2⟩ := bk3 (HM.bx 0 rfl))); go_upto_if 34 with (first | ((with_reducible refine gS 12 rfl ?_); refine pS 0 12 2 [.int .i64 (wrap64 ((wrap64 (s0_2 * 6364136223846793005)) + 1442695040888963407))] HM rfl rfl ?_; clear HM; intro w3 HM; obtain ⟨z4_0, z4_1, z4_2, Z4_0, Z4_1, Z4_2⟩ := bk3 (HM.bx 0 rfl))))
 replace H := IT H; rcases H with ⟨c5, H⟩ | ⟨c5, H⟩
 ·have c5b0 : decide (s0_1 < (s0_0.length : Int)) = true := decide_eq_true c5
  clear c5
  (first | rw [c5b0] | (simp only [i64_w, i32_w]; rw [c5b0]) | skip)
  replace H := GD H; obtain ⟨c6, H⟩ := H
  have c6b0 : decide (0 ≤ s0_1) = true := decide_eq_true c6
  clear c6
  simp only [Option.some.injEq, Prod.mk.injEq] at H
  obtain ⟨rfl, rfl, rfl⟩ := H
  have p1529 : 0 ≤ (s0_1 : Int) := of_decide_eq_true AS
  have q1529 : (s0_1 : Int) < (s0_0.length : Int) := of_decide_eq_true AS
  obtain ⟨ad1529, e1529, hx1529_0⟩ := Kd.at_int (HM.came HRs0_0.out) s0_1 p1529 q1529
  cases e1529
  replace p1529 := eq_true p1529
  replace q1529 := eq_true q1529
  go_wp2_with (first | ((with_reducible refine gS 56 rfl ?_); refine pS 0 56 1 [.int .i64 (wrap64 (s0_1 + 1))] HM rfl rfl ?_; clear HM; intro w7 HM))
  repeat (go_quiet (first | ((with_reducible refine gS 56 rfl ?_); refine pS 0 56 1 [.int .i64 (wrap64 (s0_1 + 1))] HM rfl rfl ?_; clear HM; intro w7 HM)); try go_wp2_with (first | ((with_reducible refine gS 56 rfl ?_); refine pS 0 56 1 [.int .i64 (wrap64 (s0_1 + 1))] HM rfl rfl ?_; clear HM; intro w7 HM)))
  go_ret
  exact ⟨ER, (MD HM).pick [0]⟩
 ·have c5b0 : decide (s0_1 < (s0_0.length : Int)) = false := decide_eq_false c5
  clear c5
  (first | rw [c5b0] | (simp only [i64_w, i32_w]; rw [c5b0]) | skip)
  simp only [Option.some.injEq, Prod.mk.injEq] at H
  obtain ⟨rfl, rfl, rfl⟩ := H
  go_wp2
  repeat (go_quiet (fail); try go_wp2_with (fail))
  go_ret
  exact ⟨ER, (MD HM).pick [0]⟩
def spec_l01Below.f (s0_0 : List Int) (s0_1 : Int) (s0_2 : Int) (a1 : Int) : Option (Int × Int × Int) := if a1 ≤ 0 then (some (0, s0_1, s0_2)) else (if a1 ≤ 256 then ((spec_l01Byte.f s0_0 s0_1 s0_2).bind fun bt1530 => (if a1 = 0 then (none) else (some (Int.tmod bt1530.1 a1, bt1530.2.1, bt1530.2.2)))) else ((spec_l01Byte.f s0_0 s0_1 s0_2).bind fun bt1533 => ((spec_l01Byte.f s0_0 bt1533.2.1 bt1533.2.2).bind fun bt1536 => ((spec_l01Byte.f s0_0 bt1536.2.1 bt1536.2.2).bind fun bt1539 => ((spec_l01Byte.f s0_0 bt1539.2.1 bt1539.2.2).bind fun bt1542 => (if a1 = 0 then (none) else (some (Int.tmod (wrap64 ((wrap64 ((wrap64 ((wrap64 (bt1533.1 * 16777216)) + (wrap64 (bt1536.1 * 65536)))) + (wrap64 (bt1539.1 * 256)))) + bt1542.1)) a1, bt1542.2.1, bt1542.2.2))))))))
set_option maxHeartbeats 8000000 in
set_option maxRecDepth 100000 in
theorem spec_l01Below.calls (g : Nat) (A0_0 : Option Addr) (c0_0 : Nat) (s0_0 : List Int) (s0_1 : Int) (s0_2 : Int) (a1 : Int) (r1 : Int) (r2 : Int) (r3 : Int) (w0 w : World) (F : List SP) (hrs0_0 : Kd.C (Kd.int .u8) w0 A0_0 s0_0.length s0_0) (hcs0_0 : s0_0.length ≤ c0_0) (hM : Mem w0 F w [box 81 g [.slice A0_0 s0_0.length c0_0, .int .i64 s0_1, .int .i64 s0_2]]) (h : spec_l01Below.f s0_0 s0_1 s0_2 a1 = some (r1, r2, r3)) :
  Calls Try.prog 58 #[.pointer (some ⟨g, 0, none⟩), .int .i64 a1] w fun e w' => e = .returned (.int .i64 r1) ∧ Mem w0 F w' [box 81 g [.slice A0_0 s0_0.length c0_0, .int .i64 r2, .int .i64 r3]] := by
 have HRs0_0 := Aside0.mk hrs0_0
 have HCs0_0 := Aside0.mk hcs0_0
 clear hrs0_0 hcs0_0
 have HM := hM
 clear hM
 have H := h
 clear h
 unfold spec_l01Below.f at H
 go_enter Try.func58, Try.ntmps58
 go_upto_if 10 with (fail)
 replace H := IT H; rcases H with ⟨c3, H⟩ | ⟨c3, H⟩
 ·have c3b0 : decide (a1 ≤ 0) = true := decide_eq_true c3
  clear c3
  (first | rw [c3b0] | (simp only [i64_w, i32_w]; rw [c3b0]) | skip)
  simp only [Option.some.injEq, Prod.mk.injEq] at H
  obtain ⟨rfl, rfl, rfl⟩ := H
  go_wp2
  go_ret
  exact ⟨ER, (MD HM).pick [0]⟩
 ·have c3b0 : decide (a1 ≤ 0) = false := decide_eq_false c3
  clear c3
  (first | rw [c3b0] | (simp only [i64_w, i32_w]; rw [c3b0]) | skip)
  go_upto_if 12 with (fail)
  replace H := IT H; rcases H with ⟨c4, H⟩ | ⟨c4, H⟩
  ·have c4b0 : decide (a1 ≤ 256) = true := decide_eq_true c4
   clear c4
   (first | rw [c4b0] | (simp only [i64_w, i32_w]; rw [c4b0]) | skip)
   replace H := BN H; obtain ⟨⟨t1530, t1531, t1532⟩, A5, H⟩ := H
   replace H := GN H; obtain ⟨c7, H⟩ := H
   have c7b0 : (a1 == 0) = false := beq_eq_false_iff_ne.mpr c7
   have c7b1 : (a1 != 0) = true := bne_iff_ne.mpr c7
   simp only [Option.some.injEq, Prod.mk.injEq] at H
   obtain ⟨rfl, rfl, rfl⟩ := H
   go_wp2_with (first | ((with_reducible refine gC 81 rfl ?_); refine pC (some 14) rfl #[.pointer (some ⟨g, 0, none⟩)] rfl Try.func81 (spec_l01Byte.calls g A0_0 c0_0 s0_0 s0_1 s0_2 t1530 t1531 t1532 _ _ _ HRs0_0.out HCs0_0.out (HM.focus [] [0]) A5.out) ?_; rintro e w6 ⟨rfl, hR⟩; refine ⟨_, rfl, ?_⟩; replace HM := nzM hR.unfocus; clear hR))
   go_ret
   exact ⟨ER, (MD HM).pick [0]⟩
  ·have c4b0 : decide (a1 ≤ 256) = false := decide_eq_false c4
   clear c4
   (first | rw [c4b0] | (simp only [i64_w, i32_w]; rw [c4b0]) | skip)
   replace H := BN H; obtain ⟨⟨t1533, t1534, t1535⟩, A8, H⟩ := H
   replace H := BN H; obtain ⟨⟨t1536, t1537, t1538⟩, A10, H⟩ := H
   replace H := BN H; obtain ⟨⟨t1539, t1540, t1541⟩, A12, H⟩ := H
   replace H := BN H; obtain ⟨⟨t1542, t1543, t1544⟩, A14, H⟩ := H
   replace H := GN H; obtain ⟨c16, H⟩ := H
   have c16b0 : (a1 == 0) = false := beq_eq_false_iff_ne.mpr c16
   have c16b1 : (a1 != 0) = true := bne_iff_ne.mpr c16
   simp only [Option.some.injEq, Prod.mk.injEq] at H
   obtain ⟨rfl, rfl, rfl⟩ := H
   go_wp2_with (first | ((with_reducible refine gC 81 rfl ?_); refine pC (some 18) rfl #[.pointer (some ⟨g, 0, none⟩)] rfl Try.func81 (spec_l01Byte.calls g A0_0 c0_0 s0_0 s0_1 s0_2 t1533 t1534 t1535 _ _ _ HRs0_0.out HCs0_0.out (HM.focus [] [0]) A8.out) ?_; rintro e w9 ⟨rfl, hR⟩; refine ⟨_, rfl, ?_⟩; replace HM := nzM hR.unfocus; clear hR) | ((with_reducible refine gC 81 rfl ?_); refine pC (some 20) rfl #[.pointer (some ⟨g, 0, none⟩)] rfl Try.func81 (spec_l01Byte.calls g A0_0 c0_0 s0_0 t1534 t1535 t1536 t1537 t1538 _ _ _ HRs0_0.out HCs0_0.out (HM.focus [] [0]) A10.out) ?_; rintro e w11 ⟨rfl, hR⟩; refine ⟨_, rfl, ?_⟩; replace HM := nzM hR.unfocus; clear hR) | ((with_reducible refine gC 81 rfl ?_); refine pC (some 22) rfl #[.pointer (some ⟨g, 0, none⟩)] rfl Try.func81 (spec_l01Byte.calls g A0_0 c0_0 s0_0 t1537 t1538 t1539 t1540 t1541 _ _ _ HRs0_0.out HCs0_0.out (HM.focus [] [0]) A12.out) ?_; rintro e w13 ⟨rfl, hR⟩; refine ⟨_, rfl, ?_⟩; replace HM := nzM hR.unfocus; clear hR) | ((with_reducible refine gC 81 rfl ?_); refine pC (some 24) rfl #[.pointer (some ⟨g, 0, none⟩)] rfl Try.func81 (spec_l01Byte.calls g A0_0 c0_0 s0_0 t1540 t1541 t1542 t1543 t1544 _ _ _ HRs0_0.out HCs0_0.out (HM.focus [] [0]) A14.out) ?_; rintro e w15 ⟨rfl, hR⟩; refine ⟨_, rfl, ?_⟩; replace HM := nzM hR.unfocus; clear hR))
   go_ret
   exact ⟨ER, (MD HM).pick [0]⟩
def spec_l01Of.f (s0_0 : List Int) (s0_1 : Int) (s0_2 : Int) (l1 : List ByteArray) : Option (ByteArray × Int × Int) := (spec_l01Below.f s0_0 s0_1 s0_2 (l1.length : Int)).bind fun bt1545 => (if 0 ≤ bt1545.1 then (if bt1545.1 < (l1.length : Int) then (some (rdOf ByteArray.empty l1 bt1545.1, bt1545.2.1, bt1545.2.2)) else (none)) else (none))
set_option maxHeartbeats 8000000 in
set_option maxRecDepth 100000 in
theorem spec_l01Of.calls (g : Nat) (A0_0 : Option Addr) (c0_0 : Nat) (s0_0 : List Int) (s0_1 : Int) (s0_2 : Int) (A1 : Option Addr) (c1 : Nat) (l1 : List ByteArray) (r1 : ByteArray) (r2 : Int) (r3 : Int) (w0 w : World) (F : List SP) (hrs0_0 : Kd.C (Kd.int .u8) w0 A0_0 s0_0.length s0_0) (hcs0_0 : s0_0.length ≤ c0_0) (hM : Mem w0 F w [box 81 g [.slice A0_0 s0_0.length c0_0, .int .i64 s0_1, .int .i64 s0_2], row Kd.string 9 (.slice A1 l1.length c1) l1]) (h : spec_l01Of.f s0_0 s0_1 s0_2 l1 = some (r1, r2, r3)) :
  Calls Try.prog 101 #[.pointer (some ⟨g, 0, none⟩), .slice A1 l1.length c1] w fun e w' => e = .returned (.string r1) ∧ Mem w0 F w' [box 81 g [.slice A0_0 s0_0.length c0_0, .int .i64 r2, .int .i64 r3], row Kd.string 9 (.slice A1 l1.length c1) l1] := by
 have HRs0_0 := Aside0.mk hrs0_0
 have HCs0_0 := Aside0.mk hcs0_0
 clear hrs0_0 hcs0_0
 have HM := hM
 clear hM
 have H := h
 clear h
 unfold spec_l01Of.f at H
 go_enter Try.func101, Try.ntmps101
 replace H := BN H; obtain ⟨⟨t1545, t1546, t1547⟩, A3, H⟩ := H
 replace H := GD H; obtain ⟨c5, H⟩ := H
 have c5b0 : decide (0 ≤ t1545) = true := decide_eq_true c5
 clear c5
 replace H := GD H; obtain ⟨c6, H⟩ := H
 have c6b0 : decide (t1545 < (l1.length : Int)) = true := decide_eq_true c6
 clear c6
 simp only [Option.some.injEq, Prod.mk.injEq] at H
 obtain ⟨rfl, rfl, rfl⟩ := H
 go_wp2_with (first | ((with_reducible refine gC 58 rfl ?_); refine pC (some 9) rfl #[.pointer (some ⟨g, 0, none⟩), .int .i64 (l1.length : Int)] rfl Try.func58 (spec_l01Below.calls g A0_0 c0_0 s0_0 s0_1 s0_2 (l1.length : Int) t1545 t1546 t1547 _ _ _ HRs0_0.out HCs0_0.out (HM.focus [1] [0]) A3.out) ?_; rintro e w4 ⟨rfl, hR⟩; refine ⟨_, rfl, ?_⟩; replace HM := nzM hR.unfocus; clear hR; have p1548 : 0 ≤ (t1545 : Int) := of_decide_eq_true AS; have q1548 : (t1545 : Int) < (l1.length : Int) := of_decide_eq_true AS; obtain ⟨ad1548, e1548, hx1548_0⟩ := Kd.at_string (HM.C 0 rfl).2.2 t1545 p1548 q1548; cases e1548; replace p1548 := eq_true p1548; replace q1548 := eq_true q1548))
 go_ret
 exact ⟨ER, (MD HM).pick [1, 0]⟩
def spec_l10Key.f (s0_0 : List Int) (s0_1 : Int) (s0_2 : Int) : Option (ByteArray × Int × Int) := (spec_l01Of.f s0_0 s0_1 s0_2 (([(⟨#[97]⟩ : ByteArray), (⟨#[98]⟩ : ByteArray), (⟨#[99]⟩ : ByteArray), (⟨#[100]⟩ : ByteArray), (⟨#[101]⟩ : ByteArray), (⟨#[102]⟩ : ByteArray), (⟨#[103]⟩ : ByteArray), (⟨#[104]⟩ : ByteArray)] : List ByteArray))).bind fun bt1552 => (some (bt1552.1, bt1552.2.1, bt1552.2.2))
set_option maxHeartbeats 8000000 in
set_option maxRecDepth 100000 in
theorem spec_l10Key.calls (g : Nat) (A0_0 : Option Addr) (c0_0 : Nat) (s0_0 : List Int) (s0_1 : Int) (s0_2 : Int) (r1 : ByteArray) (r2 : Int) (r3 : Int) (w0 w : World) (F : List SP) (hrs0_0 : Kd.C (Kd.int .u8) w0 A0_0 s0_0.length s0_0) (hcs0_0 : s0_0.length ≤ c0_0) (hM : Mem w0 F w [box 81 g [.slice A0_0 s0_0.length c0_0, .int .i64 s0_1, .int .i64 s0_2]]) (h : spec_l10Key.f s0_0 s0_1 s0_2 = some (r1, r2, r3)) :
  Calls Try.prog 80 #[.pointer (some ⟨g, 0, none⟩)] w fun e w' => e = .returned (.string r1) ∧ Mem w0 F w' [box 81 g [.slice A0_0 s0_0.length c0_0, .int .i64 r2, .int .i64 r3]] := by
 have HRs0_0 := Aside0.mk hrs0_0
 have HCs0_0 := Aside0.mk hcs0_0
 clear hrs0_0 hcs0_0
 have HM := hM
 clear hM
 have H := h
 clear h
 unfold spec_l10Key.f at H
 go_enter Try.func80, Try.ntmps80
 replace H := BN H; obtain ⟨⟨t1552, t1553, t1554⟩, A3, H⟩ := H
 simp only [Option.some.injEq, Prod.mk.injEq] at H
 obtain ⟨rfl, rfl, rfl⟩ := H
 go_wp2_with (first | ((with_reducible refine gN 4 rfl ?_); refine pL 4 Kd.string 9 ([(⟨#[97]⟩ : ByteArray), (⟨#[98]⟩ : ByteArray), (⟨#[99]⟩ : ByteArray), (⟨#[100]⟩ : ByteArray), (⟨#[101]⟩ : ByteArray), (⟨#[102]⟩ : ByteArray), (⟨#[103]⟩ : ByteArray), (⟨#[104]⟩ : ByteArray)] : List ByteArray) [.string (⟨#[97]⟩ : ByteArray), .string (⟨#[98]⟩ : ByteArray), .string (⟨#[99]⟩ : ByteArray), .string (⟨#[100]⟩ : ByteArray), .string (⟨#[101]⟩ : ByteArray), .string (⟨#[102]⟩ : ByteArray), .string (⟨#[103]⟩ : ByteArray), .string (⟨#[104]⟩ : ByteArray)] (Reps.one (show Kd.M Kd.string _ _ _ (⟨#[97]⟩ : ByteArray) [.string (⟨#[97]⟩ : ByteArray)] from rfl) (Reps.one (show Kd.M Kd.string _ _ _ (⟨#[98]⟩ : ByteArray) [.string (⟨#[98]⟩ : ByteArray)] from rfl) (Reps.one (show Kd.M Kd.string _ _ _ (⟨#[99]⟩ : ByteArray) [.string (⟨#[99]⟩ : ByteArray)] from rfl) (Reps.one (show Kd.M Kd.string _ _ _ (⟨#[100]⟩ : ByteArray) [.string (⟨#[100]⟩ : ByteArray)] from rfl) (Reps.one (show Kd.M Kd.string _ _ _ (⟨#[101]⟩ : ByteArray) [.string (⟨#[101]⟩ : ByteArray)] from rfl) (Reps.one (show Kd.M Kd.string _ _ _ (⟨#[102]⟩ : ByteArray) [.string (⟨#[102]⟩ : ByteArray)] from rfl) (Reps.one (show Kd.M Kd.string _ _ _ (⟨#[103]⟩ : ByteArray) [.string (⟨#[103]⟩ : ByteArray)] from rfl) (Reps.one (show Kd.M Kd.string _ _ _ (⟨#[104]⟩ : ByteArray) [.string (⟨#[104]⟩ : ByteArray)] from rfl) (Reps.none _ _))))))))) HM rfl ?_; clear HM; intro v1550 w2 HM; obtain ⟨Xo5, ko5, eo5⟩ := HM.rdR 1 rfl; subst eo5; replace HM := HM.toQ 1 rfl) | ((with_reducible refine gC 101 rfl ?_); refine pC (some 5) rfl #[.pointer (some ⟨g, 0, none⟩), .slice Xo5 (([(⟨#[97]⟩ : ByteArray), (⟨#[98]⟩ : ByteArray), (⟨#[99]⟩ : ByteArray), (⟨#[100]⟩ : ByteArray), (⟨#[101]⟩ : ByteArray), (⟨#[102]⟩ : ByteArray), (⟨#[103]⟩ : ByteArray), (⟨#[104]⟩ : ByteArray)] : List ByteArray)).length ko5] rfl Try.func101 (spec_l01Of.calls g A0_0 c0_0 s0_0 s0_1 s0_2 Xo5 ko5 (([(⟨#[97]⟩ : ByteArray), (⟨#[98]⟩ : ByteArray), (⟨#[99]⟩ : ByteArray), (⟨#[100]⟩ : ByteArray), (⟨#[101]⟩ : ByteArray), (⟨#[102]⟩ : ByteArray), (⟨#[103]⟩ : ByteArray), (⟨#[104]⟩ : ByteArray)] : List ByteArray)) t1552 t1553 t1554 _ _ _ HRs0_0.out HCs0_0.out (HM.focus [] [0, 1]) A3.out) ?_; rintro e w4 ⟨rfl, hR⟩; refine ⟨_, rfl, ?_⟩; replace HM := nzM hR.unfocus; clear hR))
 go_ret
 exact ⟨ER, (MD HM).pick [0]⟩
mutual
def spec_l12Asks.l0 : Nat → List ByteArray → Int → List Int → Int → Int → Option (List ByteArray × Int × Int)
 | 0, _, _, _, _, _ => none
 | k + 1, x5, x6, x1000, x1001, x1002 => if x6 > 0 then ((spec_l01Below.f x1000 x1001 x1002 3).bind fun bt1561 => (if bt1561.1 = 0 then (spec_l12Asks.j1 k x5 x6 (decide ((x5.length : Int) > 0)) x1000 bt1561.2.1 bt1561.2.2) else (spec_l12Asks.j1 k x5 x6 false x1000 bt1561.2.1 bt1561.2.2))) else (some (x5, x1001, x1002))
def spec_l12Asks.j1 : Nat → List ByteArray → Int → Bool → List Int → Int → Int → Option (List ByteArray × Int × Int)
 | 0, _, _, _, _, _, _ => none
 | k + 1, x5, x6, x25, x1000, x1001, x1002 => if x25 = true then ((spec_l01Below.f x1000 x1001 x1002 (x5.length : Int)).bind fun bt1564 => (if 0 ≤ bt1564.1 then (if bt1564.1 < (x5.length : Int) then (if x5.length < 8796093022208 then (spec_l12Asks.l0 k (x5 ++ [rdOf ByteArray.empty x5 bt1564.1]) (wrap64 (x6 - 1)) x1000 bt1564.2.1 bt1564.2.2) else (none)) else (none)) else (none))) else ((spec_l10Key.f x1000 x1001 x1002).bind fun bt1571 => (if x5.length < 8796093022208 then (spec_l12Asks.l0 k (x5 ++ [bt1571.1]) (wrap64 (x6 - 1)) x1000 bt1571.2.1 bt1571.2.2) else (none)))
end
def spec_l12Asks.f (k : Nat) (s0_0 : List Int) (s0_1 : Int) (s0_2 : Int) (a1 : Int) : Option (List ByteArray × Int × Int) := (spec_l01Below.f s0_0 s0_1 s0_2 (wrap64 (a1 + 1))).bind fun bt1558 => (spec_l12Asks.l0 k (([] : List ByteArray)) bt1558.1 s0_0 bt1558.2.1 bt1558.2.2)
set_option maxHeartbeats 8000000 in
set_option maxRecDepth 100000 in
theorem spec_l12Asks.calls (k : Nat) (g : Nat) (A0_0 : Option Addr) (c0_0 : Nat) (s0_0 : List Int) (s0_1 : Int) (s0_2 : Int) (a1 : Int) (r1 : List ByteArray) (r2 : Int) (r3 : Int) (w0 w : World) (F : List SP) (hrs0_0 : Kd.C (Kd.int .u8) w0 A0_0 s0_0.length s0_0) (hcs0_0 : s0_0.length ≤ c0_0) (hM : Mem w0 F w [box 81 g [.slice A0_0 s0_0.length c0_0, .int .i64 s0_1, .int .i64 s0_2]]) (h : spec_l12Asks.f k s0_0 s0_1 s0_2 a1 = some (r1, r2, r3)) :
  Calls Try.prog 57 #[.pointer (some ⟨g, 0, none⟩), .int .i64 a1] w fun e w' => ∃ v0_ : Value, e = .returned (v0_) ∧ Mem w0 F w' [rowR Kd.string 9 v0_ r1, box 81 g [.slice A0_0 s0_0.length c0_0, .int .i64 r2, .int .i64 r3]] := by
 have HRs0_0 := Aside0.mk hrs0_0
 have HCs0_0 := Aside0.mk hcs0_0
 clear hrs0_0 hcs0_0
 have HM := hM
 clear hM
 have H := h
 clear h
 unfold spec_l12Asks.f at H
 go_enter Try.func57, Try.ntmps57
 replace H := BN H; obtain ⟨⟨t1558, t1559, t1560⟩, A4, H⟩ := H
 have H' := Aside0.mk H
 clear H
 go_wp2_with (first | ((with_reducible refine gN 8 rfl ?_); refine pL 8 Kd.string 9 ([] : List ByteArray) [] (Reps.none _ _) HM rfl ?_; clear HM; intro v1556 w3 HM) | ((with_reducible refine gC 58 rfl ?_); refine pC (some 12) rfl #[.pointer (some ⟨g, 0, none⟩), .int .i64 (wrap64 (a1 + 1))] rfl Try.func58 (spec_l01Below.calls g A0_0 c0_0 s0_0 s0_1 s0_2 (wrap64 (a1 + 1)) t1558 t1559 t1560 _ _ _ HRs0_0.out HCs0_0.out (HM.focus [1] [0]) A4.out) ?_; rintro e w5 ⟨rfl, hR⟩; refine ⟨_, rfl, ?_⟩; replace HM := nzM hR.unfocus; clear hR))
 go_loopg [5, 6] k (fun kq v5 v6 w' => ∃ (x5_1 : List ByteArray) (x6_1 : Int) (x1001_1 : Int) (x1002_1 : Int), v6 = .int .i64 x6_1 ∧ Aside0 (spec_l12Asks.l0 kq x5_1 x6_1 s0_0 x1001_1 x1002_1 = some (r1, r2, r3)) ∧ Aside0 (kq ≤ k) ∧ Mem w0 F w' [rowR Kd.string 9 v5 x5_1, box 81 g [.slice A0_0 s0_0.length c0_0, .int .i64 x1001_1, .int .i64 x1002_1]])
 case atStart => exact ⟨((([] : List ByteArray))), (t1558), (t1559), (t1560), RS, H', ⟨Nat.le_refl _⟩, (MD HM).pick [0, 1]⟩
 case round =>
  clear H' HM
  obtain ⟨x5_1, x6_1, x1001_1, x1002_1, rfl, HA, HK1, HM⟩ := hrel
  cases gk with
  | zero => exact absurd HA.out (by simp [spec_l12Asks.l0])
  | succ k1 =>
   have H := HA.out
   clear HA
   simp only [spec_l12Asks.l0] at H
   go_upto_if 14 with (fail)
   replace H := IT H; rcases H with ⟨c6, H⟩ | ⟨c6, H⟩
   ·have c6b0 : decide (0 < x6_1) = true := decide_eq_true c6
    clear c6
    (first | rw [c6b0] | (simp only [i64_w, i32_w]; rw [c6b0]) | skip)
    replace H := BN H; obtain ⟨⟨t1561, t1562, t1563⟩, A7, H⟩ := H
    have HC9 := Aside0.mk H
    clear H
    go_upto_region 6 with (first | ((with_reducible refine gC 58 rfl ?_); refine pC (some 18) rfl #[.pointer (some ⟨g, 0, none⟩), .int .i64 3] rfl Try.func58 (spec_l01Below.calls g A0_0 c0_0 s0_0 x1001_1 x1002_1 3 t1561 t1562 t1563 _ _ _ HRs0_0.out HCs0_0.out (HM.focus [0] [1]) A7.out) ?_; rintro e w8 ⟨rfl, hR⟩; refine ⟨_, rfl, ?_⟩; replace HM := nzM hR.unfocus; clear hR))
    go_cut [25] (fun v25 wc => ∃ (kq : Nat) (x25_8 : Bool), v25 = .bool x25_8 ∧ Aside0 (spec_l12Asks.j1 kq x5_1 x6_1 x25_8 s0_0 t1562 t1563 = some (r1, r2, r3)) ∧ Aside0 (kq ≤ k1) ∧ Mem w0 F wc [rowR Kd.string 9 u5 x5_1, box 81 g [.slice A0_0 s0_0.length c0_0, .int .i64 t1562, .int .i64 t1563]])
    case first =>
     have H := HC9.out
     clear HC9
     replace H := IT H; rcases H with ⟨c10, H⟩ | ⟨c10, H⟩
     ·have c10b0 : (t1561 == 0) = true := beq_iff_eq.mpr c10
      have c10b1 : (t1561 != 0) = false := bne_eq_false_iff_eq.mpr c10
      clear c10
      have H' := Aside0.mk H
      clear H
      obtain ⟨Xo11, ko11, eo11⟩ := HM.rdR 0 rfl
      subst eo11
      go_wp2
      go_meet
      case rel => exact ⟨_, (decide ((x5_1.length : Int) > 0)), RS, H', ⟨by have := HK1.out; first | omega | exact Nat.le_refl _⟩, (MD HM).pick [0, 1]⟩
     ·have c10b0 : (t1561 == 0) = false := beq_eq_false_iff_ne.mpr c10
      have c10b1 : (t1561 != 0) = true := bne_iff_ne.mpr c10
      have H' := Aside0.mk H
      clear H
      go_wp2
      go_meet
      case rel => exact ⟨_, (false), RS, H', ⟨by have := HK1.out; first | omega | exact Nat.le_refl _⟩, (MD HM).pick [0, 1]⟩
    case rest =>
     clear HC9 HM
     obtain ⟨kq, x25_8, rfl, HA, HJ8, HM⟩ := hcut
     cases kq with
     | zero => exact absurd HA.out (by simp [spec_l12Asks.j1])
     | succ kj8 =>
      have H := HA.out
      clear HA
      simp only [spec_l12Asks.j1] at H
      go_upto_if 25 with (fail)
      replace H := IB H
      rcases H with ⟨c12, H⟩ | ⟨c12, H⟩
      ·subst c12
       replace H := BN H; obtain ⟨⟨t1564, t1565, t1566⟩, A14, H⟩ := H
       replace H := GD H; obtain ⟨c16, H⟩ := H
       have c16b0 : decide (0 ≤ t1564) = true := decide_eq_true c16
       clear c16
       replace H := GD H; obtain ⟨c17, H⟩ := H
       have c17b0 : decide (t1564 < (x5_1.length : Int)) = true := decide_eq_true c17
       clear c17
       replace H := GD H; obtain ⟨c18, H⟩ := H
       have LMc18 := Aside0.mk c18
       clear c18
       have H' := Aside0.mk H
       clear H
       obtain ⟨Xo13, ko13, eo13⟩ := HM.rdR 0 rfl
       subst eo13
       go_wp2_with (first | ((with_reducible refine gC 58 rfl ?_); refine pC (some 31) rfl #[.pointer (some ⟨g, 0, none⟩), .int .i64 (x5_1.length : Int)] rfl Try.func58 (spec_l01Below.calls g A0_0 c0_0 s0_0 t1562 t1563 (x5_1.length : Int) t1564 t1565 t1566 _ _ _ HRs0_0.out HCs0_0.out (HM.focus [0] [1]) A14.out) ?_; rintro e w15 ⟨rfl, hR⟩; refine ⟨_, rfl, ?_⟩; replace HM := nzM hR.unfocus; clear hR; have p1567 : 0 ≤ (t1564 : Int) := of_decide_eq_true AS; have q1567 : (t1564 : Int) < (x5_1.length : Int) := of_decide_eq_true AS; obtain ⟨ad1567, e1567, hx1567_0⟩ := Kd.at_string (HM.CR 0 rfl).2.2 t1564 p1567 q1567; cases e1567; replace p1567 := eq_true p1567; replace q1567 := eq_true q1567) | ((with_reducible refine gN 34 rfl ?_); refine pL 34 Kd.string 9 [rdOf ByteArray.empty x5_1 t1564] [.string (rdOf ByteArray.empty x5_1 t1564)] (Reps.one (show Kd.M Kd.string _ _ _ (rdOf ByteArray.empty x5_1 t1564) [.string (rdOf ByteArray.empty x5_1 t1564)] from rfl) (Reps.none _ _)) HM rfl ?_; clear HM; intro v20 w19 HM; obtain ⟨Xv20, kv20, ev20⟩ := HM.rdR 2 rfl; subst ev20) | ((with_reducible refine gate_builtin (b := .append) (xs := #[.tmp 26, .tmp 34]) rfl ?_); refine pA 0 (.tmp 26) (.tmp 34) 24 9 Kd.string (.slice (some ad1567) x5_1.length ko13) x5_1 [rdOf ByteArray.empty x5_1 t1564] Xv20 ([rdOf ByteArray.empty x5_1 t1564].length) kv20 HM rfl Try.underlying24 info9 rfl (HM.CR 2 rfl).2.2 (by have h_ := LMc18.out; simp only [List.length_singleton]; omega) ?_; clear HM; intro v1569 w21 HM))
       go_roundg kj8
       case measure => have := HK1.out; have := HJ8.out; omega
       case rel => exact ⟨((x5_1 ++ [rdOf ByteArray.empty x5_1 t1564])), (wrap64 (x6_1 - 1)), (t1565), (t1566), RS, H', ⟨by have := HK1.out; have := HJ8.out; omega⟩, (MD HM).pick [0, 1]⟩
      ·subst c12
       replace H := BN H; obtain ⟨⟨t1571, t1572, t1573⟩, A22, H⟩ := H
       replace H := GD H; obtain ⟨c24, H⟩ := H
       have LMc24 := Aside0.mk c24
       clear c24
       have H' := Aside0.mk H
       clear H
       go_wp2_with (first | ((with_reducible refine gC 80 rfl ?_); refine pC (some 38) rfl #[.pointer (some ⟨g, 0, none⟩)] rfl Try.func80 (spec_l10Key.calls g A0_0 c0_0 s0_0 t1562 t1563 t1571 t1572 t1573 _ _ _ HRs0_0.out HCs0_0.out (HM.focus [0] [1]) A22.out) ?_; rintro e w23 ⟨rfl, hR⟩; refine ⟨_, rfl, ?_⟩; replace HM := nzM hR.unfocus; clear hR) | ((with_reducible refine gN 39 rfl ?_); refine pL 39 Kd.string 9 [t1571] [.string t1571] (Reps.one (show Kd.M Kd.string _ _ _ t1571 [.string t1571] from rfl) (Reps.none _ _)) HM rfl ?_; clear HM; intro v26 w25 HM; obtain ⟨Xv26, kv26, ev26⟩ := HM.rdR 2 rfl; subst ev26) | ((with_reducible refine gate_builtin (b := .append) (xs := #[.tmp 36, .tmp 39]) rfl ?_); refine pA 0 (.tmp 36) (.tmp 39) 24 9 Kd.string u5 x5_1 [t1571] Xv26 ([t1571].length) kv26 HM rfl Try.underlying24 info9 rfl (HM.CR 2 rfl).2.2 (by have h_ := LMc24.out; simp only [List.length_singleton]; omega) ?_; clear HM; intro v1575 w27 HM))
       go_roundg kj8
       case measure => have := HK1.out; have := HJ8.out; omega
       case rel => exact ⟨((x5_1 ++ [t1571])), (wrap64 (x6_1 - 1)), (t1572), (t1573), RS, H', ⟨by have := HK1.out; have := HJ8.out; omega⟩, (MD HM).pick [0, 1]⟩
   ·have c6b0 : decide (0 < x6_1) = false := decide_eq_false c6
    clear c6
    (first | rw [c6b0] | (simp only [i64_w, i32_w]; rw [c6b0]) | skip)
    simp only [Option.some.injEq, Prod.mk.injEq] at H
    obtain ⟨rfl, rfl, rfl⟩ := H
    go_wp2
    go_ret
    exact ⟨_, ER, (MD HM).pick [0, 1]⟩
def spec_MakeAsks.f (k : Nat) (l0 : List Int) (a1 : Int) : Option (List ByteArray) := (spec_l01New.f k l0).bind fun bt1577 => ((spec_l12Asks.f k bt1577.1 bt1577.2.1 (wrap64 (bt1577.2.2 + 17)) a1).bind fun bt1581 => (some bt1581.1))
set_option maxHeartbeats 8000000 in
set_option maxRecDepth 100000 in
theorem spec_MakeAsks.calls (k : Nat) (A0 : Option Addr) (c0 : Nat) (l0 : List Int) (a1 : Int) (r : List ByteArray) (w : World) (hr0 : Kd.C (Kd.int .u8) w A0 l0.length l0) (hc0 : l0.length ≤ c0) (h : spec_MakeAsks.f k l0 a1 = some r) :
  Calls Try.prog 28 #[.slice A0 l0.length c0, .int .i64 a1] w fun e w' => ∃ v0_ : Value, e = .returned (v0_) ∧ Mem w [] w' [rowR Kd.string 9 v0_ r] := by
 have HR0 := Aside0.mk hr0
 have HC0 := Aside0.mk hc0
 clear hr0 hc0
 have HM := Mem.nil w
 have H := h
 clear h
 unfold spec_MakeAsks.f at H
 go_enter Try.func28, Try.ntmps28
 replace H := BN H; obtain ⟨⟨t1577, t1578, t1579⟩, A3, H⟩ := H
 replace H := BN H; obtain ⟨⟨t1581, t1584, t1585⟩, A8, H⟩ := H
 obtain rfl := Option.some.inj H
 go_wp2_with (first | ((with_reducible refine gC 56 rfl ?_); refine pC (some 8) rfl #[.slice A0 l0.length c0] rfl Try.func56 (spec_l01New.calls k _ _ l0 t1577 t1578 t1579 _ _ HM.bel HR0.out HC0.out A3.out) ?_; rintro e w4 ⟨gb1580, Xn5, kn5, rfl, hR, hRn5, hCn5⟩; refine ⟨_, rfl, ?_⟩; have HRn5 := Aside0.mk hRn5; have HCn5 := Aside0.mk hCn5; clear hRn5 hCn5; replace HM := HM.call hR; clear hR; obtain ⟨z6_0, z6_1, z6_2, Z6_0, Z6_1, Z6_2⟩ := bk3 (HM.bx 0 rfl)) | ((with_reducible refine gS 16 rfl ?_); refine pS 0 16 2 [.int .i64 (wrap64 (t1579 + 17))] HM rfl rfl ?_; clear HM; intro w7 HM) | ((with_reducible refine gC 57 rfl ?_); refine pC (some 19) rfl #[.pointer (some ⟨gb1580, 0, none⟩), .int .i64 a1] rfl Try.func57 (spec_l12Asks.calls k gb1580 Xn5 kn5 t1577 t1578 (wrap64 (t1579 + 17)) a1 t1581 t1584 t1585 _ _ _ HRn5.out HCn5.out (HM.focus [] [0]) A8.out) ?_; rintro e w9 ⟨v1582, rfl, hR⟩; refine ⟨_, rfl, ?_⟩; replace HM := nzM hR.unfocus; clear hR))
 go_ret
 exact ⟨_, ER, (MD HM).pick [0]⟩
def spec_MakeNum.f (k : Nat) (l0 : List Int) (a1 : Int) : Option (Int) := (spec_l01New.f k l0).bind fun bt1586 => ((spec_l01Below.f bt1586.1 bt1586.2.1 (wrap64 (bt1586.2.2 + 777)) a1).bind fun bt1590 => (some bt1590.1))
set_option maxHeartbeats 8000000 in
set_option maxRecDepth 100000 in
theorem spec_MakeNum.calls (k : Nat) (A0 : Option Addr) (c0 : Nat) (l0 : List Int) (a1 : Int) (r : Int) (w : World) (hr0 : Kd.C (Kd.int .u8) w A0 l0.length l0) (hc0 : l0.length ≤ c0) (h : spec_MakeNum.f k l0 a1 = some r) :
  Calls Try.prog 29 #[.slice A0 l0.length c0, .int .i64 a1] w fun e w' => e = .returned (.int .i64 r) ∧ Mem w [] w' [] := by
 have HR0 := Aside0.mk hr0
 have HC0 := Aside0.mk hc0
 clear hr0 hc0
 have HM := Mem.nil w
 have H := h
 clear h
 unfold spec_MakeNum.f at H
 go_enter Try.func29, Try.ntmps29
 replace H := BN H; obtain ⟨⟨t1586, t1587, t1588⟩, A3, H⟩ := H
 replace H := BN H; obtain ⟨⟨t1590, t1591, t1592⟩, A8, H⟩ := H
 obtain rfl := Option.some.inj H
 go_wp2_with (first | ((with_reducible refine gC 56 rfl ?_); refine pC (some 7) rfl #[.slice A0 l0.length c0] rfl Try.func56 (spec_l01New.calls k _ _ l0 t1586 t1587 t1588 _ _ HM.bel HR0.out HC0.out A3.out) ?_; rintro e w4 ⟨gb1589, Xn5, kn5, rfl, hR, hRn5, hCn5⟩; refine ⟨_, rfl, ?_⟩; have HRn5 := Aside0.mk hRn5; have HCn5 := Aside0.mk hCn5; clear hRn5 hCn5; replace HM := HM.call hR; clear hR; obtain ⟨z6_0, z6_1, z6_2, Z6_0, Z6_1, Z6_2⟩ := bk3 (HM.bx 0 rfl)) | ((with_reducible refine gS 15 rfl ?_); refine pS 0 15 2 [.int .i64 (wrap64 (t1588 + 777))] HM rfl rfl ?_; clear HM; intro w7 HM) | ((with_reducible refine gC 58 rfl ?_); refine pC (some 18) rfl #[.pointer (some ⟨gb1589, 0, none⟩), .int .i64 a1] rfl Try.func58 (spec_l01Below.calls gb1589 Xn5 kn5 t1586 t1587 (wrap64 (t1588 + 777)) a1 t1590 t1591 t1592 _ _ _ HRn5.out HCn5.out (HM.focus [] [0]) A8.out) ?_; rintro e w9 ⟨rfl, hR⟩; refine ⟨_, rfl, ?_⟩; replace HM := nzM hR.unfocus; clear hR))
 go_ret
 exact ⟨ER, (MD HM).pick []⟩
mutual
def impl_DepthsOf.l0 : Nat → List ByteArray → List Int → List ByteArray → Int → Int → Option (List Int)
 | 0, _, _, _, _, _ => none
 | k + 1, x0, x3, x9, x10, x11 => if x11 < x10 then (if 0 ≤ x11 then (if x11 < (x9.length : Int) then (impl_DepthsOf.l1 k x0 x3 x11 (rdOf ByteArray.empty x9 x11) (-1) (wrap64 (x11 - 1)) x9 x10 x11) else (none)) else (none)) else (some x3)
def impl_DepthsOf.l1 : Nat → List ByteArray → List Int → Int → ByteArray → Int → Int → List ByteArray → Int → Int → Option (List Int)
 | 0, _, _, _, _, _, _, _, _, _ => none
 | k + 1, x0, x3, x4, x5, x6, x7, x9, x10, x11 => if x7 ≥ 0 then (if 0 ≤ x7 then (if x7 < (x0.length : Int) then (if (rdOf ByteArray.empty x0 x7).toList = x5.toList then (if 0 ≤ (wrap64 (x7 + 1)) then (if (wrap64 (x7 + 1)) ≤ x4 then (if x4 ≤ (x0.length : Int) then ((impl_Distinct.f k ((x0.take (x4 : Int).toNat).drop ((wrap64 (x7 + 1)) : Int).toNat)).bind fun t1836 => (if x3.length < 17592186044416 then (impl_DepthsOf.l0 k x0 (x3 ++ [(t1836.length : Int)]) x9 x10 (wrap64 (x11 + 1))) else (none))) else (none)) else (none)) else (none)) else (impl_DepthsOf.l1 k x0 x3 x4 x5 x6 (wrap64 (x7 - 1)) x9 x10 x11)) else (none)) else (none)) else (if x3.length < 17592186044416 then (impl_DepthsOf.l0 k x0 (x3 ++ [x6]) x9 x10 (wrap64 (x11 + 1))) else (none))
end
def impl_DepthsOf.f (k : Nat) (l0 : List ByteArray) : Option (List Int) := impl_DepthsOf.l0 k l0 (([] : List Int)) l0 (l0.length : Int) 0
set_option maxHeartbeats 8000000 in
set_option maxRecDepth 100000 in
theorem impl_DepthsOf.calls (k : Nat) (A0 : Option Addr) (c0 : Nat) (l0 : List ByteArray) (r : List Int) (w : World) (hr0 : Kd.C Kd.string w A0 l0.length l0) (hc0 : l0.length ≤ c0) (h : impl_DepthsOf.f k l0 = some r) :
  Calls Try.prog 43 #[.slice A0 l0.length c0] w fun e w' => ∃ v0_ : Value, e = .returned (v0_) ∧ Mem w [] w' [rowR (Kd.int .i64) 3 v0_ r] := by
 have HR0 := Aside0.mk hr0
 have HC0 := Aside0.mk hc0
 clear hr0 hc0
 have HM := Mem.nil w
 have H := h
 clear h
 unfold impl_DepthsOf.f at H
 go_enter Try.func43, Try.ntmps43
 have H' := Aside0.mk H
 clear H
 go_wp2_with (first | ((with_reducible refine gN 8 rfl ?_); refine pL 8 (Kd.int .i64) 3 ([] : List Int) [] (Reps.none _ _) HM rfl ?_; clear HM; intro v1831 w2 HM))
 go_loopg [3, 11] k (fun kq v3 v11 w' => ∃ (x3_1 : List Int) (x11_1 : Int), v11 = .int .i64 x11_1 ∧ Aside0 (impl_DepthsOf.l0 kq l0 x3_1 l0 (l0.length : Int) x11_1 = some r) ∧ Aside0 (kq ≤ k) ∧ Mem w [] w' [rowR (Kd.int .i64) 3 v3 x3_1])
 case atStart => exact ⟨((([] : List Int))), (0), RS, H', ⟨Nat.le_refl _⟩, (MD HM).pick [0]⟩
 case round =>
  clear H' HM
  obtain ⟨x3_1, x11_1, rfl, HA, HK1, HM⟩ := hrel
  cases gk with
  | zero => exact absurd HA.out (by simp [impl_DepthsOf.l0])
  | succ k1 =>
   have H := HA.out
   clear HA
   simp only [impl_DepthsOf.l0] at H
   go_upto_if 12 with (fail)
   replace H := IT H; rcases H with ⟨c3, H⟩ | ⟨c3, H⟩
   ·have c3b0 : decide (x11_1 < (l0.length : Int)) = true := decide_eq_true c3
    clear c3
    (first | rw [c3b0] | (simp only [i64_w, i32_w]; rw [c3b0]) | skip)
    replace H := GD H; obtain ⟨c4, H⟩ := H
    have c4b0 : decide (0 ≤ x11_1) = true := decide_eq_true c4
    clear c4
    replace H := GD H; obtain ⟨c5, H⟩ := H
    have c5b0 : decide (x11_1 < (l0.length : Int)) = true := decide_eq_true c5
    clear c5
    have H' := Aside0.mk H
    clear H
    have p1833 : 0 ≤ (x11_1 : Int) := of_decide_eq_true AS
    have q1833 : (x11_1 : Int) < (l0.length : Int) := of_decide_eq_true AS
    obtain ⟨ad1833, e1833, hx1833_0⟩ := Kd.at_string (HM.came HR0.out) x11_1 p1833 q1833
    cases e1833
    replace p1833 := eq_true p1833
    replace q1833 := eq_true q1833
    go_wp2
    go_loopg [6, 7] k1 (fun kq v6 v7 w' => ∃ (x6_2 : Int) (x7_2 : Int), v6 = .int .i64 x6_2 ∧ v7 = .int .i64 x7_2 ∧ Aside0 (impl_DepthsOf.l1 kq l0 x3_1 x11_1 (rdOf ByteArray.empty l0 x11_1) x6_2 x7_2 l0 (l0.length : Int) x11_1 = some r) ∧ Aside0 (kq ≤ k1) ∧ Mem w [] w' [rowR (Kd.int .i64) 3 u3 x3_1])
    case atStart => exact ⟨((-1)), (wrap64 (x11_1 - 1)), RS, RS, H', ⟨Nat.le_refl _⟩, (MD HM).pick [0]⟩
    case round =>
     clear H' HM
     obtain ⟨x6_2, x7_2, rfl, rfl, HA, HK2, HM⟩ := hrel
     cases gk with
     | zero => exact absurd HA.out (by simp [impl_DepthsOf.l1])
     | succ k2 =>
      have H := HA.out
      clear HA
      simp only [impl_DepthsOf.l1] at H
      go_upto_if 19 with (fail)
      replace H := IT H; rcases H with ⟨c6, H⟩ | ⟨c6, H⟩
      ·have c6b0 : decide (0 ≤ x7_2) = true := decide_eq_true c6
       clear c6
       (first | rw [c6b0] | (simp only [i64_w, i32_w]; rw [c6b0]) | skip)
       replace H := GD H; obtain ⟨c7, H⟩ := H
       have c7b0 : decide (0 ≤ x7_2) = true := decide_eq_true c7
       clear c7
       replace H := GD H; obtain ⟨c8, H⟩ := H
       have c8b0 : decide (x7_2 < (l0.length : Int)) = true := decide_eq_true c8
       clear c8
       have p1834 : 0 ≤ (x7_2 : Int) := of_decide_eq_true AS
       have q1834 : (x7_2 : Int) < (l0.length : Int) := of_decide_eq_true AS
       obtain ⟨ad1834, e1834, hx1834_0⟩ := Kd.at_string (HM.came HR0.out) x7_2 p1834 q1834
       obtain rfl := Option.some.inj e1834
       replace p1834 := eq_true p1834
       replace q1834 := eq_true q1834
       go_upto_if 27 with (fail)
       replace H := IT H; rcases H with ⟨c9, H⟩ | ⟨c9, H⟩
       ·have c9b0 : ((rdOf ByteArray.empty l0 x7_2).toList == (rdOf ByteArray.empty l0 x11_1).toList) = true := beq_iff_eq.mpr c9
        have c9b1 : ((rdOf ByteArray.empty l0 x7_2).toList != (rdOf ByteArray.empty l0 x11_1).toList) = false := bne_eq_false_iff_eq.mpr c9
        clear c9
        (first | rw [c9b0] | (simp only [i64_w, i32_w]; rw [c9b0]) | skip)
        replace H := GD H; obtain ⟨c10, H⟩ := H
        have c10b0 := eq_true c10
        have c10b1 : decide (0 ≤ (wrap64 (x7_2 + 1))) = true := decide_eq_true c10
        replace H := GD H; obtain ⟨c11, H⟩ := H
        have c11b0 := eq_true c11
        have c11b1 : decide ((wrap64 (x7_2 + 1)) ≤ x11_1) = true := decide_eq_true c11
        replace H := GD H; obtain ⟨c12, H⟩ := H
        have c12b0 := eq_true c12
        have c12b1 : decide (x11_1 ≤ (l0.length : Int)) = true := decide_eq_true c12
        clear c12
        replace H := BN H; obtain ⟨t1836, A14, H⟩ := H
        replace H := GD H; obtain ⟨c17, H⟩ := H
        have LMc17 := Aside0.mk c17
        clear c17
        have H' := Aside0.mk H
        clear H
        go_wp2_with (first | ((with_reducible refine gate_sl (t := 24) rfl ?_); refine pRm 24 9 Kd.string _ _ _ (wrap64 (x7_2 + 1)) x11_1 l0 (some ad1833) c0 rfl Try.underlying24 info9 (HM.came HR0.out) HC0.out (of_decide_eq_true AS) (of_decide_eq_true AS) (of_decide_eq_true AS) ?_; intro Yx13 bx13 hYx13 hbx13; have HYx13 := Aside0.mk hYx13; have HBx13 := Aside0.mk hbx13; clear hYx13 hbx13) | ((with_reducible refine gC 27 rfl ?_); refine pC (some 33) rfl #[.slice Yx13 ((l0.take (x11_1 : Int).toNat).drop ((wrap64 (x7_2 + 1)) : Int).toNat).length bx13] rfl Try.func27 (impl_Distinct.calls k2 _ _ ((l0.take (x11_1 : Int).toNat).drop ((wrap64 (x7_2 + 1)) : Int).toNat) t1836 _ HYx13.out HBx13.out A14.out) ?_; rintro e w15 ⟨v1837, rfl, hR⟩; refine ⟨_, rfl, ?_⟩; replace HM := HM.call hR; clear hR; obtain ⟨Xo16, ko16, eo16⟩ := HM.rdR 1 rfl; subst eo16) | ((with_reducible refine gN 37 rfl ?_); refine pL 37 (Kd.int .i64) 3 [(t1836.length : Int)] [.int .i64 (t1836.length : Int)] (Reps.one (show Kd.M (Kd.int .i64) _ _ _ (t1836.length : Int) [.int .i64 (t1836.length : Int)] from rfl) (Reps.none _ _)) HM rfl ?_; clear HM; intro v19 w18 HM; obtain ⟨Xv19, kv19, ev19⟩ := HM.rdR 2 rfl; subst ev19) | ((with_reducible refine gate_builtin (b := .append) (xs := #[.tmp 35, .tmp 37]) rfl ?_); refine pA 0 (.tmp 35) (.tmp 37) 60 3 (Kd.int .i64) u3 x3_1 [(t1836.length : Int)] Xv19 ([(t1836.length : Int)].length) kv19 HM rfl Try.underlying60 info3 rfl (HM.CR 2 rfl).2.2 (by have h_ := LMc17.out; simp only [List.length_singleton]; omega) ?_; clear HM; intro v1840 w20 HM))
        go_roundg k2
        case measure => have := HK1.out; have := HK2.out; omega
        case rel => exact ⟨((x3_1 ++ [(t1836.length : Int)])), (wrap64 (x11_1 + 1)), RS, H', ⟨by have := HK1.out; have := HK2.out; omega⟩, (MD HM).pick [0]⟩
       ·have c9b0 : ((rdOf ByteArray.empty l0 x7_2).toList == (rdOf ByteArray.empty l0 x11_1).toList) = false := beq_eq_false_iff_ne.mpr c9
        have c9b1 : ((rdOf ByteArray.empty l0 x7_2).toList != (rdOf ByteArray.empty l0 x11_1).toList) = true := bne_iff_ne.mpr c9
        (first | rw [c9b0] | (simp only [i64_w, i32_w]; rw [c9b0]) | skip)
        have H' := Aside0.mk H
        clear H
        go_wp2
        go_roundg k2
        case measure => have := HK1.out; have := HK2.out; omega
        case rel => exact ⟨(x6_2), (wrap64 (x7_2 - 1)), RS, RS, H', ⟨by have := HK1.out; have := HK2.out; omega⟩, (MD HM).pick [0]⟩
      ·have c6b0 : decide (0 ≤ x7_2) = false := decide_eq_false c6
       clear c6
       (first | rw [c6b0] | (simp only [i64_w, i32_w]; rw [c6b0]) | skip)
       replace H := GD H; obtain ⟨c21, H⟩ := H
       have LMc21 := Aside0.mk c21
       clear c21
       have H' := Aside0.mk H
       clear H
       go_wp2_with (first | ((with_reducible refine gN 37 rfl ?_); refine pL 37 (Kd.int .i64) 3 [x6_2] [.int .i64 x6_2] (Reps.one (show Kd.M (Kd.int .i64) _ _ _ x6_2 [.int .i64 x6_2] from rfl) (Reps.none _ _)) HM rfl ?_; clear HM; intro v23 w22 HM; obtain ⟨Xv23, kv23, ev23⟩ := HM.rdR 1 rfl; subst ev23) | ((with_reducible refine gate_builtin (b := .append) (xs := #[.tmp 35, .tmp 37]) rfl ?_); refine pA 0 (.tmp 35) (.tmp 37) 60 3 (Kd.int .i64) u3 x3_1 [x6_2] Xv23 ([x6_2].length) kv23 HM rfl Try.underlying60 info3 rfl (HM.CR 1 rfl).2.2 (by have h_ := LMc21.out; simp only [List.length_singleton]; omega) ?_; clear HM; intro v1843 w24 HM))
       go_roundg k2
       case measure => have := HK1.out; have := HK2.out; omega
       case rel => exact ⟨((x3_1 ++ [x6_2])), (wrap64 (x11_1 + 1)), RS, H', ⟨by have := HK1.out; have := HK2.out; omega⟩, (MD HM).pick [0]⟩
   ·have c3b0 : decide (x11_1 < (l0.length : Int)) = false := decide_eq_false c3
    clear c3
    (first | rw [c3b0] | (simp only [i64_w, i32_w]; rw [c3b0]) | skip)
    obtain rfl := Option.some.inj H
    go_wp2
    go_ret
    exact ⟨_, ER, (MD HM).pick [0]⟩
end Go.Proofs.Ytanakbmhclpamaa.G

namespace Go.Proofs.Ytanakbmhclpamaa.G
open Go.RowKit Go.Proofs.YtanakbmhclpamaaW.PrintWords Go.Proofs.YtanakbmhclpamaaW.PrintLast Go.Proofs.YtanakbmhclpamaaW.PrintMore Go.Proofs.Ytanakbmhclpamaa.Sh
attribute [local go_sem] max2_int min2_int max_two min_two max_three min_three max_four min_four
set_option linter.unusedVariables false
set_option linter.unusedSimpArgs false
def impl_MissesAt.l0 : Nat → Int → Int → List Int → Int → Int → Option (Int)
 | 0, _, _, _, _, _ => none
 | k + 1, x1, x5, x8, x9, x10 => if x10 < x9 then (if 0 ≤ x10 then (if x10 < (x8.length : Int) then (if (rd x8 x10) < 0 then (impl_MissesAt.l0 k x1 (wrap64 (x5 + 1)) x8 x9 (wrap64 (x10 + 1))) else (if (rd x8 x10) ≥ x1 then (impl_MissesAt.l0 k x1 (wrap64 (x5 + 1)) x8 x9 (wrap64 (x10 + 1))) else (impl_MissesAt.l0 k x1 x5 x8 x9 (wrap64 (x10 + 1))))) else (none)) else (none)) else (some x5)
def impl_MissesAt.f (k : Nat) (l0 : List Int) (a1 : Int) : Option (Int) := impl_MissesAt.l0 k a1 0 l0 (l0.length : Int) 0
set_option maxHeartbeats 8000000 in
set_option maxRecDepth 100000 in
theorem impl_MissesAt.calls (k : Nat) (A0 : Option Addr) (c0 : Nat) (l0 : List Int) (a1 : Int) (r : Int) (w : World) (hr0 : Kd.C (Kd.int .i64) w A0 l0.length l0) (hc0 : l0.length ≤ c0) (h : impl_MissesAt.f k l0 a1 = some r) :
  Calls Try.prog 44 #[.slice A0 l0.length c0, .int .i64 a1] w fun e w' => e = .returned (.int .i64 r) ∧ Drawn0 w w' := by
 have HR0 := Aside0.mk hr0
 have HC0 := Aside0.mk hc0
 clear hr0 hc0
 have H : (impl_MissesAt.l0 k a1 0 l0 (l0.length : Int) 0) = some r := h
 clear h
 have H' := Aside0.mk H
 clear H
 go_enter Try.func44, Try.ntmps44
 go_wp2
 go_loopg [5, 10] k (fun kq v5 v10 w' => ∃ (x5_1 : Int) (x10_1 : Int), v5 = .int .i64 x5_1 ∧ v10 = .int .i64 x10_1 ∧ Aside0 (impl_MissesAt.l0 kq a1 x5_1 l0 (l0.length : Int) x10_1 = some r) ∧ Aside0 (kq ≤ k) ∧ Drawn0 w w')
 case atStart => exact ⟨(0), (0), RS, RS, H', ⟨Nat.le_refl _⟩, DR⟩
 case round =>
  clear H'
  try clear p2
  obtain ⟨x5_1, x10_1, rfl, rfl, HA, HK1, ⟨m1, rfl⟩⟩ := hrel
  cases gk with
  | zero => exact absurd HA.out (by simp [impl_MissesAt.l0])
  | succ k1 =>
   have H := HA.out
   clear HA
   simp only [impl_MissesAt.l0] at H
   by_cases c3 : x10_1 < (l0.length : Int)
   ·rw [if_pos c3] at H
    have c3b0 : decide (x10_1 < (l0.length : Int)) = true := decide_eq_true c3
    clear c3
    by_cases c4 : 0 ≤ x10_1
    ·rw [if_pos c4] at H
     have c4b0 : decide (0 ≤ x10_1) = true := decide_eq_true c4
     clear c4
     by_cases c5 : x10_1 < (l0.length : Int)
     ·rw [if_pos c5] at H
      have c5b0 : decide (x10_1 < (l0.length : Int)) = true := decide_eq_true c5
      clear c5
      by_cases c6 : (rd l0 x10_1) < 0
      ·rw [if_pos c6] at H
       have c6b0 : decide ((rd l0 x10_1) < 0) = true := decide_eq_true c6
       clear c6
       have H' := Aside0.mk H
       clear H
       have p1846 : 0 ≤ (x10_1 : Int) := of_decide_eq_true AS
       have q1846 : x10_1 < (l0.length : Int) := of_decide_eq_true AS
       obtain ⟨ad1846, e1846, hx1846_0⟩ := Kd.at_int HR0.out x10_1 p1846 q1846
       cases e1846
       replace p1846 := eq_true p1846
       replace q1846 := eq_true q1846
       go_wp2
       go_roundg k1
       case measure => have := HK1.out; omega
       case rel => exact ⟨(wrap64 (x5_1 + 1)), (wrap64 (x10_1 + 1)), RS, RS, H', ⟨by have := HK1.out; omega⟩, DR⟩
      ·rw [if_neg c6] at H
       have c6b0 : decide ((rd l0 x10_1) < 0) = false := decide_eq_false c6
       clear c6
       by_cases c7 : (rd l0 x10_1) ≥ a1
       ·rw [if_pos c7] at H
        have c7b0 : decide (a1 ≤ (rd l0 x10_1)) = true := decide_eq_true c7
        clear c7
        have H' := Aside0.mk H
        clear H
        have p1846 : 0 ≤ (x10_1 : Int) := of_decide_eq_true AS
        have q1846 : x10_1 < (l0.length : Int) := of_decide_eq_true AS
        obtain ⟨ad1846, e1846, hx1846_0⟩ := Kd.at_int HR0.out x10_1 p1846 q1846
        cases e1846
        replace p1846 := eq_true p1846
        replace q1846 := eq_true q1846
        go_wp2
        go_roundg k1
        case measure => have := HK1.out; omega
        case rel => exact ⟨(wrap64 (x5_1 + 1)), (wrap64 (x10_1 + 1)), RS, RS, H', ⟨by have := HK1.out; omega⟩, DR⟩
       ·rw [if_neg c7] at H
        have c7b0 : decide (a1 ≤ (rd l0 x10_1)) = false := decide_eq_false c7
        clear c7
        have H' := Aside0.mk H
        clear H
        have p1846 : 0 ≤ (x10_1 : Int) := of_decide_eq_true AS
        have q1846 : x10_1 < (l0.length : Int) := of_decide_eq_true AS
        obtain ⟨ad1846, e1846, hx1846_0⟩ := Kd.at_int HR0.out x10_1 p1846 q1846
        cases e1846
        replace p1846 := eq_true p1846
        replace q1846 := eq_true q1846
        go_wp2
        go_roundg k1
        case measure => have := HK1.out; omega
        case rel => exact ⟨(x5_1), (wrap64 (x10_1 + 1)), RS, RS, H', ⟨by have := HK1.out; omega⟩, DR⟩
     ·rw [if_neg c5] at H
      exact absurd H (by simp)
    ·rw [if_neg c4] at H
     exact absurd H (by simp)
   ·rw [if_neg c3] at H
    have c3b0 : decide (x10_1 < (l0.length : Int)) = false := decide_eq_false c3
    clear c3
    obtain rfl := Option.some.inj H
    go_wp2
    go_ret
    exact ⟨by first | rfl | (simp; done) | (simp [*]; done), DR⟩
def laws_hasText.l0 : Nat → ByteArray → List ByteArray → Int → Int → Option (Bool)
 | 0, _, _, _, _ => none
 | k + 1, x1, x7, x8, x9 => if x9 < x8 then (if 0 ≤ x9 then (if x9 < (x7.length : Int) then (if (rdOf ByteArray.empty x7 x9).toList = x1.toList then (some true) else (laws_hasText.l0 k x1 x7 x8 (wrap64 (x9 + 1)))) else (none)) else (none)) else (some false)
def laws_hasText.f (k : Nat) (l0 : List ByteArray) (a1 : ByteArray) : Option (Bool) := laws_hasText.l0 k a1 l0 (l0.length : Int) 0
set_option maxHeartbeats 8000000 in
set_option maxRecDepth 100000 in
theorem laws_hasText.calls (k : Nat) (A0 : Option Addr) (c0 : Nat) (l0 : List ByteArray) (a1 : ByteArray) (r : Bool) (w : World) (hr0 : Kd.C Kd.string w A0 l0.length l0) (hc0 : l0.length ≤ c0) (h : laws_hasText.f k l0 a1 = some r) :
  Calls Try.prog 45 #[.slice A0 l0.length c0, .string a1] w fun e w' => e = .returned (.bool r) ∧ Drawn0 w w' := by
 have HR0 := Aside0.mk hr0
 have HC0 := Aside0.mk hc0
 clear hr0 hc0
 have H : (laws_hasText.l0 k a1 l0 (l0.length : Int) 0) = some r := h
 clear h
 have H' := Aside0.mk H
 clear H
 go_enter Try.func45, Try.ntmps45
 go_wp2
 go_loopg [9] k (fun kq v9 w' => ∃ (x9_1 : Int), v9 = .int .i64 x9_1 ∧ Aside0 (laws_hasText.l0 kq a1 l0 (l0.length : Int) x9_1 = some r) ∧ Aside0 (kq ≤ k) ∧ Drawn0 w w')
 case atStart => exact ⟨(0), RS, H', ⟨Nat.le_refl _⟩, DR⟩
 case round =>
  clear H'
  try clear p2
  obtain ⟨x9_1, rfl, HA, HK1, ⟨m1, rfl⟩⟩ := hrel
  cases gk with
  | zero => exact absurd HA.out (by simp [laws_hasText.l0])
  | succ k1 =>
   have H := HA.out
   clear HA
   simp only [laws_hasText.l0] at H
   by_cases c3 : x9_1 < (l0.length : Int)
   ·rw [if_pos c3] at H
    have c3b0 : decide (x9_1 < (l0.length : Int)) = true := decide_eq_true c3
    clear c3
    by_cases c4 : 0 ≤ x9_1
    ·rw [if_pos c4] at H
     have c4b0 : decide (0 ≤ x9_1) = true := decide_eq_true c4
     clear c4
     by_cases c5 : x9_1 < (l0.length : Int)
     ·rw [if_pos c5] at H
      have c5b0 : decide (x9_1 < (l0.length : Int)) = true := decide_eq_true c5
      clear c5
      by_cases c6 : (rdOf ByteArray.empty l0 x9_1).toList = a1.toList
      ·rw [if_pos c6] at H
       have c6b0 : ((rdOf ByteArray.empty l0 x9_1).toList == a1.toList) = true := beq_iff_eq.mpr c6
       have c6b1 : ((rdOf ByteArray.empty l0 x9_1).toList != a1.toList) = false := bne_eq_false_iff_eq.mpr c6
       clear c6
       obtain rfl := Option.some.inj H
       have p1848 : 0 ≤ (x9_1 : Int) := of_decide_eq_true AS
       have q1848 : x9_1 < (l0.length : Int) := of_decide_eq_true AS
       obtain ⟨ad1848, e1848, hx1848_0⟩ := Kd.at_string HR0.out x9_1 p1848 q1848
       cases e1848
       replace p1848 := eq_true p1848
       replace q1848 := eq_true q1848
       go_wp2
       go_ret
       exact ⟨by first | rfl | (simp; done) | (simp [*]; done), DR⟩
      ·rw [if_neg c6] at H
       have c6b0 : ((rdOf ByteArray.empty l0 x9_1).toList == a1.toList) = false := beq_eq_false_iff_ne.mpr c6
       have c6b1 : ((rdOf ByteArray.empty l0 x9_1).toList != a1.toList) = true := bne_iff_ne.mpr c6
       have H' := Aside0.mk H
       clear H
       have p1848 : 0 ≤ (x9_1 : Int) := of_decide_eq_true AS
       have q1848 : x9_1 < (l0.length : Int) := of_decide_eq_true AS
       obtain ⟨ad1848, e1848, hx1848_0⟩ := Kd.at_string HR0.out x9_1 p1848 q1848
       cases e1848
       replace p1848 := eq_true p1848
       replace q1848 := eq_true q1848
       go_wp2
       go_roundg k1
       case measure => have := HK1.out; omega
       case rel => exact ⟨(wrap64 (x9_1 + 1)), RS, H', ⟨by have := HK1.out; omega⟩, DR⟩
     ·rw [if_neg c5] at H
      exact absurd H (by simp)
    ·rw [if_neg c4] at H
     exact absurd H (by simp)
   ·rw [if_neg c3] at H
    have c3b0 : decide (x9_1 < (l0.length : Int)) = false := decide_eq_false c3
    clear c3
    obtain rfl := Option.some.inj H
    go_wp2
    go_ret
    exact ⟨by first | rfl | (simp; done) | (simp [*]; done), DR⟩
def spec_l12Has.l0 : Nat → ByteArray → List ByteArray → Int → Int → Option (Bool)
 | 0, _, _, _, _ => none
 | k + 1, x1, x7, x8, x9 => if x9 < x8 then (if 0 ≤ x9 then (if x9 < (x7.length : Int) then (if (rdOf ByteArray.empty x7 x9).toList = x1.toList then (some true) else (spec_l12Has.l0 k x1 x7 x8 (wrap64 (x9 + 1)))) else (none)) else (none)) else (some false)
def spec_l12Has.f (k : Nat) (l0 : List ByteArray) (a1 : ByteArray) : Option (Bool) := spec_l12Has.l0 k a1 l0 (l0.length : Int) 0
set_option maxHeartbeats 8000000 in
set_option maxRecDepth 100000 in
theorem spec_l12Has.calls (k : Nat) (A0 : Option Addr) (c0 : Nat) (l0 : List ByteArray) (a1 : ByteArray) (r : Bool) (w : World) (hr0 : Kd.C Kd.string w A0 l0.length l0) (hc0 : l0.length ≤ c0) (h : spec_l12Has.f k l0 a1 = some r) :
  Calls Try.prog 69 #[.slice A0 l0.length c0, .string a1] w fun e w' => e = .returned (.bool r) ∧ Drawn0 w w' := by
 have HR0 := Aside0.mk hr0
 have HC0 := Aside0.mk hc0
 clear hr0 hc0
 have H : (spec_l12Has.l0 k a1 l0 (l0.length : Int) 0) = some r := h
 clear h
 have H' := Aside0.mk H
 clear H
 go_enter Try.func69, Try.ntmps69
 go_wp2
 go_loopg [9] k (fun kq v9 w' => ∃ (x9_1 : Int), v9 = .int .i64 x9_1 ∧ Aside0 (spec_l12Has.l0 kq a1 l0 (l0.length : Int) x9_1 = some r) ∧ Aside0 (kq ≤ k) ∧ Drawn0 w w')
 case atStart => exact ⟨(0), RS, H', ⟨Nat.le_refl _⟩, DR⟩
 case round =>
  clear H'
  try clear p2
  obtain ⟨x9_1, rfl, HA, HK1, ⟨m1, rfl⟩⟩ := hrel
  cases gk with
  | zero => exact absurd HA.out (by simp [spec_l12Has.l0])
  | succ k1 =>
   have H := HA.out
   clear HA
   simp only [spec_l12Has.l0] at H
   by_cases c3 : x9_1 < (l0.length : Int)
   ·rw [if_pos c3] at H
    have c3b0 : decide (x9_1 < (l0.length : Int)) = true := decide_eq_true c3
    clear c3
    by_cases c4 : 0 ≤ x9_1
    ·rw [if_pos c4] at H
     have c4b0 : decide (0 ≤ x9_1) = true := decide_eq_true c4
     clear c4
     by_cases c5 : x9_1 < (l0.length : Int)
     ·rw [if_pos c5] at H
      have c5b0 : decide (x9_1 < (l0.length : Int)) = true := decide_eq_true c5
      clear c5
      by_cases c6 : (rdOf ByteArray.empty l0 x9_1).toList = a1.toList
      ·rw [if_pos c6] at H
       have c6b0 : ((rdOf ByteArray.empty l0 x9_1).toList == a1.toList) = true := beq_iff_eq.mpr c6
       have c6b1 : ((rdOf ByteArray.empty l0 x9_1).toList != a1.toList) = false := bne_eq_false_iff_eq.mpr c6
       clear c6
       obtain rfl := Option.some.inj H
       have p1850 : 0 ≤ (x9_1 : Int) := of_decide_eq_true AS
       have q1850 : x9_1 < (l0.length : Int) := of_decide_eq_true AS
       obtain ⟨ad1850, e1850, hx1850_0⟩ := Kd.at_string HR0.out x9_1 p1850 q1850
       cases e1850
       replace p1850 := eq_true p1850
       replace q1850 := eq_true q1850
       go_wp2
       go_ret
       exact ⟨by first | rfl | (simp; done) | (simp [*]; done), DR⟩
      ·rw [if_neg c6] at H
       have c6b0 : ((rdOf ByteArray.empty l0 x9_1).toList == a1.toList) = false := beq_eq_false_iff_ne.mpr c6
       have c6b1 : ((rdOf ByteArray.empty l0 x9_1).toList != a1.toList) = true := bne_iff_ne.mpr c6
       have H' := Aside0.mk H
       clear H
       have p1850 : 0 ≤ (x9_1 : Int) := of_decide_eq_true AS
       have q1850 : x9_1 < (l0.length : Int) := of_decide_eq_true AS
       obtain ⟨ad1850, e1850, hx1850_0⟩ := Kd.at_string HR0.out x9_1 p1850 q1850
       cases e1850
       replace p1850 := eq_true p1850
       replace q1850 := eq_true q1850
       go_wp2
       go_roundg k1
       case measure => have := HK1.out; omega
       case rel => exact ⟨(wrap64 (x9_1 + 1)), RS, H', ⟨by have := HK1.out; omega⟩, DR⟩
     ·rw [if_neg c5] at H
      exact absurd H (by simp)
    ·rw [if_neg c4] at H
     exact absurd H (by simp)
   ·rw [if_neg c3] at H
    have c3b0 : decide (x9_1 < (l0.length : Int)) = false := decide_eq_false c3
    clear c3
    obtain rfl := Option.some.inj H
    go_wp2
    go_ret
    exact ⟨by first | rfl | (simp; done) | (simp [*]; done), DR⟩
end Go.Proofs.Ytanakbmhclpamaa.G

namespace Go.Proofs.Ytanakbmhclpamaa.G
open Go.RowKit Go.Proofs.YtanakbmhclpamaaW.PrintWords Go.Proofs.YtanakbmhclpamaaW.PrintLast Go.Proofs.YtanakbmhclpamaaW.PrintMore Go.Proofs.Ytanakbmhclpamaa.Sh
attribute [local go_sem] max2_int min2_int max_two min_two max_three min_three max_four min_four
set_option linter.unusedVariables false
set_option linter.unusedSimpArgs false
open Go.Proofs.Ytanakbmhclpamaa.Mm
def spec_Distinct.l0 : Nat → List ByteArray → List ByteArray → Int → Int → Option (List ByteArray)
 | 0, _, _, _, _ => none
 | k + 1, x3, x7, x8, x9 => if x9 < x8 then (if 0 ≤ x9 then (if x9 < (x7.length : Int) then ((spec_l12Has.f k x3 (rdOf ByteArray.empty x7 x9)).bind fun t1855 => (if t1855 = true then (spec_Distinct.l0 k x3 x7 x8 (wrap64 (x9 + 1))) else (if x3.length < 8796093022208 then (spec_Distinct.l0 k (x3 ++ [rdOf ByteArray.empty x7 x9]) x7 x8 (wrap64 (x9 + 1))) else (none)))) else (none)) else (none)) else (some x3)
def spec_Distinct.f (k : Nat) (l0 : List ByteArray) : Option (List ByteArray) := spec_Distinct.l0 k (([] : List ByteArray)) l0 (l0.length : Int) 0
set_option maxHeartbeats 8000000 in
set_option maxRecDepth 100000 in
theorem spec_Distinct.calls (k : Nat) (A0 : Option Addr) (c0 : Nat) (l0 : List ByteArray) (r : List ByteArray) (w : World) (hr0 : Kd.C Kd.string w A0 l0.length l0) (hc0 : l0.length ≤ c0) (h : spec_Distinct.f k l0 = some r) :
  Calls Try.prog 46 #[.slice A0 l0.length c0] w fun e w' => ∃ v0_ : Value, e = .returned (v0_) ∧ Mem w [] w' [rowR Kd.string 9 v0_ r] := by
 have HR0 := Aside0.mk hr0
 have HC0 := Aside0.mk hc0
 clear hr0 hc0
 have HM := Mem.nil w
 have H := h
 clear h
 unfold spec_Distinct.f at H
 go_enter Try.func46, Try.ntmps46
 have H' := Aside0.mk H
 clear H
 go_wp2_with (first | ((with_reducible refine gN 6 rfl ?_); refine pL 6 Kd.string 9 ([] : List ByteArray) [] (Reps.none _ _) HM rfl ?_; clear HM; intro v1852 w2 HM))
 go_loopg [3, 9] k (fun kq v3 v9 w' => ∃ (x3_1 : List ByteArray) (x9_1 : Int), v9 = .int .i64 x9_1 ∧ Aside0 (spec_Distinct.l0 kq x3_1 l0 (l0.length : Int) x9_1 = some r) ∧ Aside0 (kq ≤ k) ∧ Mem w [] w' [rowR Kd.string 9 v3 x3_1])
 case atStart => exact ⟨((([] : List ByteArray))), (0), RS, H', ⟨Nat.le_refl _⟩, (MD HM).pick [0]⟩
 case round =>
  clear H' HM
  obtain ⟨x3_1, x9_1, rfl, HA, HK1, HM⟩ := hrel
  cases gk with
  | zero => exact absurd HA.out (by simp [spec_Distinct.l0])
  | succ k1 =>
   have H := HA.out
   clear HA
   simp only [spec_Distinct.l0] at H
   go_upto_if 10 with (fail)
   replace H := IT H; rcases H with ⟨c3, H⟩ | ⟨c3, H⟩
   ·have c3b0 : decide (x9_1 < (l0.length : Int)) = true := decide_eq_true c3
    clear c3
    (first | rw [c3b0] | (simp only [i64_w, i32_w]; rw [c3b0]) | skip)
    replace H := GD H; obtain ⟨c4, H⟩ := H
    have c4b0 : decide (0 ≤ x9_1) = true := decide_eq_true c4
    clear c4
    replace H := GD H; obtain ⟨c5, H⟩ := H
    have c5b0 : decide (x9_1 < (l0.length : Int)) = true := decide_eq_true c5
    clear c5
    replace H := BN H; obtain ⟨t1855, A6, H⟩ := H
    have p1854 : 0 ≤ (x9_1 : Int) := of_decide_eq_true AS
    have q1854 : (x9_1 : Int) < (l0.length : Int) := of_decide_eq_true AS
    obtain ⟨ad1854, e1854, hx1854_0⟩ := Kd.at_string (HM.came HR0.out) x9_1 p1854 q1854
    cases e1854
    replace p1854 := eq_true p1854
    replace q1854 := eq_true q1854
    obtain ⟨Xo8, ko8, eo8⟩ := HM.rdR 0 rfl
    subst eo8
    go_upto_if 16 with (first | ((with_reducible refine gC 69 rfl ?_); refine pC (some 15) rfl #[.slice Xo8 x3_1.length ko8, .string (rdOf ByteArray.empty l0 x9_1)] rfl Try.func69 (spec_l12Has.calls k1 _ _ x3_1 (rdOf ByteArray.empty l0 x9_1) t1855 _ (HM.CR 0 rfl).2.2 (HM.CR 0 rfl).2.1 A6.out) ?_; rintro e w7 ⟨rfl, hd⟩; refine ⟨_, rfl, ?_⟩; replace HM := HM.drawn hd; clear hd))
    replace H := IB H
    rcases H with ⟨c9, H⟩ | ⟨c9, H⟩
    ·subst c9
     have H' := Aside0.mk H
     clear H
     go_wp2
     go_roundg k1
     case measure => have := HK1.out; omega
     case rel => exact ⟨(x3_1), (wrap64 (x9_1 + 1)), RS, H', ⟨by have := HK1.out; omega⟩, (MD HM).pick [0]⟩
    ·subst c9
     replace H := GD H; obtain ⟨c10, H⟩ := H
     have LMc10 := Aside0.mk c10
     clear c10
     have H' := Aside0.mk H
     clear H
     go_wp2_with (first | ((with_reducible refine gN 19 rfl ?_); refine pL 19 Kd.string 9 [rdOf ByteArray.empty l0 x9_1] [.string (rdOf ByteArray.empty l0 x9_1)] (Reps.one (show Kd.M Kd.string _ _ _ (rdOf ByteArray.empty l0 x9_1) [.string (rdOf ByteArray.empty l0 x9_1)] from rfl) (Reps.none _ _)) HM rfl ?_; clear HM; intro v12 w11 HM; obtain ⟨Xv12, kv12, ev12⟩ := HM.rdR 1 rfl; subst ev12) | ((with_reducible refine gate_builtin (b := .append) (xs := #[.tmp 17, .tmp 19]) rfl ?_); refine pA 0 (.tmp 17) (.tmp 19) 24 9 Kd.string (.slice Xo8 x3_1.length ko8) x3_1 [rdOf ByteArray.empty l0 x9_1] Xv12 ([rdOf ByteArray.empty l0 x9_1].length) kv12 HM rfl Try.underlying24 info9 rfl (HM.CR 1 rfl).2.2 (by have h_ := LMc10.out; simp only [List.length_singleton]; omega) ?_; clear HM; intro v1857 w13 HM))
     go_roundg k1
     case measure => have := HK1.out; omega
     case rel => exact ⟨((x3_1 ++ [rdOf ByteArray.empty l0 x9_1])), (wrap64 (x9_1 + 1)), RS, H', ⟨by have := HK1.out; omega⟩, (MD HM).pick [0]⟩
   ·have c3b0 : decide (x9_1 < (l0.length : Int)) = false := decide_eq_false c3
    clear c3
    (first | rw [c3b0] | (simp only [i64_w, i32_w]; rw [c3b0]) | skip)
    obtain rfl := Option.some.inj H
    go_wp2
    go_ret
    exact ⟨_, ER, (MD HM).pick [0]⟩
mutual
def laws_FnLru.j0 : Nat → List ByteArray → Int → Bool → Int → Int → Int → Int → Int → Int → Option (Bool)
 | 0, _, _, _, _, _, _, _, _, _ => none
 | k + 1, x3, x4, x51, x1867000, x1867001, x1867002, x1868000, x1868001, x1868002 => if x51 = true then (none) else ((impl_Holds.f k x1868000 x1868001 x1868002 x3).bind fun t1877 => ((impl_Holds.f k x1867000 x1867001 x1867002 x3).bind fun t1880 => ((impl_Distinct.f k x3).bind fun t1883 => (if (t1883.length : Int) > x4 then (laws_FnLru.j1 k x3 t1877 t1880 x4) else (laws_FnLru.j1 k x3 t1877 t1880 (t1883.length : Int))))))
def laws_FnLru.j1 : Nat → List ByteArray → List ByteArray → List ByteArray → Int → Option (Bool)
 | 0, _, _, _, _ => none
 | k + 1, x3, x8, x9, x10 => laws_FnLru.l0 k x3 x8 x9 x10 x9 (x9.length : Int) 0
def laws_FnLru.l0 : Nat → List ByteArray → List ByteArray → List ByteArray → Int → List ByteArray → Int → Int → Option (Bool)
 | 0, _, _, _, _, _, _, _ => none
 | k + 1, x3, x8, x9, x10, x65, x66, x67 => if x67 < x66 then (if 0 ≤ x67 then (if x67 < (x65.length : Int) then ((laws_hasText.f k x8 (rdOf ByteArray.empty x65 x67)).bind fun t1887 => (if t1887 = true then (laws_FnLru.l0 k x3 x8 x9 x10 x65 x66 (wrap64 (x67 + 1))) else (none))) else (none)) else (none)) else (if (x9.length : Int) = x10 then ((spec_Distinct.f k x3).bind fun t1888 => ((impl_Distinct.f k x3).bind fun t1891 => (some ((t1888.length : Int) == (t1891.length : Int))))) else (none))
end
def laws_FnLru.f (k : Nat) (l0 : List Int) : Option (Bool) := if (l0.length : Int) > 1048576 then (some true) else ((spec_MakeAsks.f k l0 24).bind fun t1859 => ((spec_MakeNum.f k l0 5).bind fun t1862 => ((impl_DepthsOf.f k t1859).bind fun t1863 => (if (t1863.length : Int) = (t1859.length : Int) then ((impl_CountOf.f k 2 (wrap64 (1 + t1862)) 0 t1859).bind fun bt1868 => ((impl_MissesAt.f k t1863 (wrap64 (1 + t1862))).bind fun t1872 => (if bt1868.2.2.1 = t1872 then ((impl_CountOf.f k 2 (wrap64 (1 + t1862)) 0 t1859).bind fun bt1873 => (laws_FnLru.j0 k t1859 (wrap64 (1 + t1862)) (bt1873.1 != (t1859.length : Int)) 2 (wrap64 (1 + t1862)) 0 2 (wrap64 ((wrap64 (1 + t1862)) + 1)) 0)) else (laws_FnLru.j0 k t1859 (wrap64 (1 + t1862)) true 2 (wrap64 (1 + t1862)) 0 2 (wrap64 ((wrap64 (1 + t1862)) + 1)) 0)))) else (laws_FnLru.j0 k t1859 (wrap64 (1 + t1862)) true 2 (wrap64 (1 + t1862)) 0 2 (wrap64 ((wrap64 (1 + t1862)) + 1)) 0)))))
set_option maxHeartbeats 8000000 in
set_option maxRecDepth 100000 in
theorem laws_FnLru.calls (k : Nat) (A0 : Option Addr) (c0 : Nat) (l0 : List Int) (r : Bool) (w : World) (hr0 : Kd.C (Kd.int .u8) w A0 l0.length l0) (hc0 : l0.length ≤ c0) (h : laws_FnLru.f k l0 = some r) :
  Calls Try.prog 10 #[.slice A0 l0.length c0] w fun e w' => e = .returned (.bool r) ∧ Below w.heap.size w w' := by
 have hu28 := Try.underlying28
 have hfd36_2 : ∀ (x0 x1 x2 x3 : Value) (w : World), Sem.run Try.prog (Instr.field 36 (.agg #[x0, x1, x2, x3]) 2) w = .ok x2 w := fun _ _ _ _ _ => rfl
 have hfd36_0 : ∀ (x0 x1 x2 x3 : Value) (w : World), Sem.run Try.prog (Instr.field 36 (.agg #[x0, x1, x2, x3]) 0) w = .ok x0 w := fun _ _ _ _ _ => rfl
 have HR0 := Aside0.mk hr0
 have HC0 := Aside0.mk hc0
 clear hr0 hc0
 have HM := Mem.nil w
 have H := h
 clear h
 unfold laws_FnLru.f at H
 go_enter Try.func10, Try.ntmps10
 go_upto_if 15 with (fail)
 replace H := IT H; rcases H with ⟨c2, H⟩ | ⟨c2, H⟩
 ·replace c2 : (l0.length : Int) > 1048576 := c2
  have c2b0 : decide (1048576 < (l0.length : Int)) = true := decide_eq_true c2
  have c2b1 : decide (1048576 < l0.length) = true := decide_eq_true (by omega)
  have c2b9 : decide (1048576 < l0.length) = true := decide_eq_true (by omega)
  clear c2
  (first | rw [c2b0] | rw [c2b9] | (simp only [i64_w, i32_w]; rw [c2b0]) | skip)
  obtain rfl := Option.some.inj H
  go_wp2
  go_ret
  exact ⟨ER, HM.bel⟩
 ·replace c2 : ¬ ((l0.length : Int) > 1048576) := c2
  have c2b0 : decide (1048576 < (l0.length : Int)) = false := decide_eq_false c2
  have c2b1 : decide (1048576 < l0.length) = false := decide_eq_false (by omega)
  have c2b9 : decide (1048576 < l0.length) = false := decide_eq_false (by omega)
  clear c2
  (first | rw [c2b0] | rw [c2b9] | (simp only [i64_w, i32_w]; rw [c2b0]) | skip)
  replace H := BN H; obtain ⟨t1859, A3, H⟩ := H
  replace H := BN H; obtain ⟨t1862, A5, H⟩ := H
  replace H := BN H; obtain ⟨t1863, A7, H⟩ := H
  have HC14 := Aside0.mk H
  clear H
  go_upto_region 8 with (first | ((with_reducible refine gC 28 rfl ?_); refine pC (some 17) rfl #[.slice A0 l0.length c0, .int .i64 24] rfl Try.func28 (spec_MakeAsks.calls k _ _ l0 24 t1859 _ (HM.came HR0.out) HC0.out A3.out) ?_; rintro e w4 ⟨v1860, rfl, hR⟩; refine ⟨_, rfl, ?_⟩; replace HM := HM.call hR; clear hR) | ((with_reducible refine gC 29 rfl ?_); refine pC (some 19) rfl #[.slice A0 l0.length c0, .int .i64 5] rfl Try.func29 (spec_MakeNum.calls k _ _ l0 5 t1862 _ (HM.came HR0.out) HC0.out A5.out) ?_; rintro e w6 ⟨rfl, hR⟩; refine ⟨_, rfl, ?_⟩; replace HM := HM.call hR; clear hR; obtain ⟨Xo9, ko9, eo9⟩ := HM.rdR 0 rfl; subst eo9) | ((with_reducible refine gC 43 rfl ?_); refine pC (some 22) rfl #[.slice Xo9 t1859.length ko9] rfl Try.func43 (impl_DepthsOf.calls k _ _ t1859 t1863 _ (HM.CR 0 rfl).2.2 (HM.CR 0 rfl).2.1 A7.out) ?_; rintro e w8 ⟨v1864, rfl, hR⟩; refine ⟨_, rfl, ?_⟩; replace HM := HM.call hR; clear hR) | ((with_reducible refine gN 6 rfl ?_); refine pB 6 28 [.int .i64 0, .int .i64 0, .int .i64 0] HM rfl ?_; clear HM; intro gb1866 w10 HM) | ((with_reducible refine gS 6 rfl ?_); refine pS 2 6 0 [.int .i64 2, .int .i64 (wrap64 (1 + t1862)), .int .i64 0] HM rfl rfl ?_; clear HM; intro w11 HM) | ((with_reducible refine gN 7 rfl ?_); refine pB 7 28 [.int .i64 0, .int .i64 0, .int .i64 0] HM rfl ?_; clear HM; intro gb1867 w12 HM) | ((with_reducible refine gS 7 rfl ?_); refine pS 3 7 0 [.int .i64 2, .int .i64 (wrap64 ((wrap64 (1 + t1862)) + 1)), .int .i64 0] HM rfl rfl ?_; clear HM; intro w13 HM))
  replace HM := nzM HM
  try simp only [Act.put, List.setIfInBounds_toArray, List.set_cons_zero, List.set_cons_succ]
  go_cut [51] (fun v51 wc => ∃ (kq : Nat) (x51_13 : Bool), v51 = .bool x51_13 ∧ Aside0 (laws_FnLru.j0 kq t1859 (wrap64 (1 + t1862)) x51_13 2 (wrap64 (1 + t1862)) 0 2 (wrap64 ((wrap64 (1 + t1862)) + 1)) 0 = some r) ∧ Aside0 (kq ≤ k) ∧ Mem w [] wc [rowR Kd.string 9 (.slice Xo9 t1859.length ko9) t1859, box 28 gb1866 [.int .i64 2, .int .i64 (wrap64 (1 + t1862)), .int .i64 0], box 28 gb1867 [.int .i64 2, .int .i64 (wrap64 ((wrap64 (1 + t1862)) + 1)), .int .i64 0]])
  case first =>
   have H := HC14.out
   clear HC14
   replace H := IT H; rcases H with ⟨c16, H⟩ | ⟨c16, H⟩
   ·have c16b0 : ((t1863.length : Int) == (t1859.length : Int)) = true := beq_iff_eq.mpr c16
    have c16b1 : ((t1863.length : Int) != (t1859.length : Int)) = false := bne_eq_false_iff_eq.mpr c16
    have c16b2 : (t1863.length == t1859.length) = true := by first | simpa using c16 | (simp at c16 ⊢; omega)
    clear c16
    replace H := BN H; obtain ⟨⟨t1868, t1869, t1870, t1871⟩, A18, H⟩ := H
    replace H := BN H; obtain ⟨t1872, A20, H⟩ := H
    replace H := IT H; rcases H with ⟨c22, H⟩ | ⟨c22, H⟩
    ·have c22b0 : (t1870 == t1872) = true := beq_iff_eq.mpr c22
     have c22b1 : (t1870 != t1872) = false := bne_eq_false_iff_eq.mpr c22
     clear c22
     replace H := BN H; obtain ⟨⟨t1873, t1874, t1875, t1876⟩, A24, H⟩ := H
     have H' := Aside0.mk H
     clear H
     obtain ⟨Xo15, ko15, eo15⟩ := HM.rdR 1 rfl
     subst eo15
     obtain ⟨z17_0, z17_1, z17_2, Z17_0, Z17_1, Z17_2⟩ := bk3 (HM.bx 2 rfl)
     go_wp2_with (first | ((with_reducible refine gC 22 rfl ?_); refine pC (some 36) rfl #[.agg #[.int .i64 2, .int .i64 (wrap64 (1 + t1862)), .int .i64 0], .slice Xo9 t1859.length ko9] rfl Try.func22 (impl_CountOf.calls k 2 (wrap64 (1 + t1862)) 0 _ _ t1859 t1868 t1869 t1870 t1871 _ (HM.CR 0 rfl).2.2 (HM.CR 0 rfl).2.1 A18.out) ?_; rintro e w19 ⟨rfl, hR⟩; refine ⟨_, rfl, ?_⟩; replace HM := HM.call hR; clear hR) | ((with_reducible refine gC 44 rfl ?_); refine pC (some 40) rfl #[.slice Xo15 t1863.length ko15, .int .i64 (wrap64 (1 + t1862))] rfl Try.func44 (impl_MissesAt.calls k _ _ t1863 (wrap64 (1 + t1862)) t1872 _ (HM.CR 1 rfl).2.2 (HM.CR 1 rfl).2.1 A20.out) ?_; rintro e w21 ⟨rfl, hd⟩; refine ⟨_, rfl, ?_⟩; replace HM := HM.drawn hd; clear hd; obtain ⟨z23_0, z23_1, z23_2, Z23_0, Z23_1, Z23_2⟩ := bk3 (HM.bx 2 rfl)) | ((with_reducible refine gC 22 rfl ?_); refine pC (some 46) rfl #[.agg #[.int .i64 2, .int .i64 (wrap64 (1 + t1862)), .int .i64 0], .slice Xo9 t1859.length ko9] rfl Try.func22 (impl_CountOf.calls k 2 (wrap64 (1 + t1862)) 0 _ _ t1859 t1873 t1874 t1875 t1876 _ (HM.CR 0 rfl).2.2 (HM.CR 0 rfl).2.1 A24.out) ?_; rintro e w25 ⟨rfl, hR⟩; refine ⟨_, rfl, ?_⟩; replace HM := HM.call hR; clear hR))
     go_meet
     case rel => exact ⟨_, ((t1873 != (t1859.length : Int))), RS, H', ⟨by first | omega | exact Nat.le_refl _⟩, (MD HM).pick [0, 2, 3]⟩
    ·have c22b0 : (t1870 == t1872) = false := beq_eq_false_iff_ne.mpr c22
     have c22b1 : (t1870 != t1872) = true := bne_iff_ne.mpr c22
     have H' := Aside0.mk H
     clear H
     obtain ⟨Xo15, ko15, eo15⟩ := HM.rdR 1 rfl
     subst eo15
     obtain ⟨z17_0, z17_1, z17_2, Z17_0, Z17_1, Z17_2⟩ := bk3 (HM.bx 2 rfl)
     go_wp2_with (first | ((with_reducible refine gC 22 rfl ?_); refine pC (some 36) rfl #[.agg #[.int .i64 2, .int .i64 (wrap64 (1 + t1862)), .int .i64 0], .slice Xo9 t1859.length ko9] rfl Try.func22 (impl_CountOf.calls k 2 (wrap64 (1 + t1862)) 0 _ _ t1859 t1868 t1869 t1870 t1871 _ (HM.CR 0 rfl).2.2 (HM.CR 0 rfl).2.1 A18.out) ?_; rintro e w19 ⟨rfl, hR⟩; refine ⟨_, rfl, ?_⟩; replace HM := HM.call hR; clear hR) | ((with_reducible refine gC 44 rfl ?_); refine pC (some 40) rfl #[.slice Xo15 t1863.length ko15, .int .i64 (wrap64 (1 + t1862))] rfl Try.func44 (impl_MissesAt.calls k _ _ t1863 (wrap64 (1 + t1862)) t1872 _ (HM.CR 1 rfl).2.2 (HM.CR 1 rfl).2.1 A20.out) ?_; rintro e w21 ⟨rfl, hd⟩; refine ⟨_, rfl, ?_⟩; replace HM := HM.drawn hd; clear hd))
     go_meet
     case rel => exact ⟨_, (true), RS, H', ⟨by first | omega | exact Nat.le_refl _⟩, (MD HM).pick [0, 2, 3]⟩
   ·have c16b0 : ((t1863.length : Int) == (t1859.length : Int)) = false := beq_eq_false_iff_ne.mpr c16
    have c16b1 : ((t1863.length : Int) != (t1859.length : Int)) = true := bne_iff_ne.mpr c16
    have c16b2 : (t1863.length == t1859.length) = false := by first | simpa using c16 | (simp at c16 ⊢; omega)
    have H' := Aside0.mk H
    clear H
    obtain ⟨Xo15, ko15, eo15⟩ := HM.rdR 1 rfl
    subst eo15
    go_wp2
    go_meet
    case rel => exact ⟨_, (true), RS, H', ⟨by first | omega | exact Nat.le_refl _⟩, (MD HM).pick [0, 2, 3]⟩
  case rest =>
   clear HC14 HM
   obtain ⟨kq, x51_13, rfl, HA, HJ13, HM⟩ := hcut
   cases kq with
   | zero => exact absurd HA.out (by simp [laws_FnLru.j0])
   | succ kj13 =>
    have H := HA.out
    clear HA
    simp only [laws_FnLru.j0] at H
    replace H := GN H
    obtain ⟨c26, H⟩ := H
    replace c26 := Bool.eq_false_iff.mpr c26
    subst c26
    replace H := BN H; obtain ⟨t1877, A28, H⟩ := H
    replace H := BN H; obtain ⟨t1880, A31, H⟩ := H
    replace H := BN H; obtain ⟨t1883, A33, H⟩ := H
    have HC36 := Aside0.mk H
    clear H
    obtain ⟨z27_0, z27_1, z27_2, Z27_0, Z27_1, Z27_2⟩ := bk3 (HM.bx 2 rfl)
    go_upto_if 63 with (first | ((with_reducible refine gC 25 rfl ?_); refine pC (some 54) rfl #[.agg #[.int .i64 2, .int .i64 (wrap64 ((wrap64 (1 + t1862)) + 1)), .int .i64 0], .slice Xo9 t1859.length ko9] rfl Try.func25 (impl_Holds.calls kj13 2 (wrap64 ((wrap64 (1 + t1862)) + 1)) 0 _ _ t1859 t1877 _ (HM.CR 0 rfl).2.2 (HM.CR 0 rfl).2.1 A28.out) ?_; rintro e w29 ⟨v1878, rfl, hR⟩; refine ⟨_, rfl, ?_⟩; replace HM := HM.call hR; clear hR; obtain ⟨z30_0, z30_1, z30_2, Z30_0, Z30_1, Z30_2⟩ := bk3 (HM.bx 1 rfl)) | ((with_reducible refine gC 25 rfl ?_); refine pC (some 57) rfl #[.agg #[.int .i64 2, .int .i64 (wrap64 (1 + t1862)), .int .i64 0], .slice Xo9 t1859.length ko9] rfl Try.func25 (impl_Holds.calls kj13 2 (wrap64 (1 + t1862)) 0 _ _ t1859 t1880 _ (HM.CR 0 rfl).2.2 (HM.CR 0 rfl).2.1 A31.out) ?_; rintro e w32 ⟨v1881, rfl, hR⟩; refine ⟨_, rfl, ?_⟩; replace HM := HM.call hR; clear hR) | ((with_reducible refine gC 27 rfl ?_); refine pC (some 59) rfl #[.slice Xo9 t1859.length ko9] rfl Try.func27 (impl_Distinct.calls kj13 _ _ t1859 t1883 _ (HM.CR 0 rfl).2.2 (HM.CR 0 rfl).2.1 A33.out) ?_; rintro e w34 ⟨v1884, rfl, hR⟩; refine ⟨_, rfl, ?_⟩; replace HM := HM.call hR; clear hR; obtain ⟨Xo35, ko35, eo35⟩ := HM.rdR 5 rfl; subst eo35))
    replace HM := nzM HM
    go_cut [10] (fun v10 wc => ∃ (kq : Nat) (x10_35 : Int), v10 = .int .i64 x10_35 ∧ Aside0 (laws_FnLru.j1 kq t1859 t1877 t1880 x10_35 = some r) ∧ Aside0 (kq ≤ kj13) ∧ Mem w [] wc [rowR Kd.string 9 (.slice Xo9 t1859.length ko9) t1859, rowR Kd.string 9 v1878 t1877, rowR Kd.string 9 v1881 t1880])
    case first =>
     have H := HC36.out
     clear HC36
     go_upto_if 63 with (fail)
     replace H := IT H; rcases H with ⟨c37, H⟩ | ⟨c37, H⟩
     ·have c37b0 : decide ((wrap64 (1 + t1862)) < (t1883.length : Int)) = true := decide_eq_true c37
      clear c37
      (first | rw [c37b0] | (simp only [i64_w, i32_w]; rw [c37b0]) | skip)
      have H' := Aside0.mk H
      clear H
      go_wp2
      go_meet
      case rel => exact ⟨_, ((wrap64 (1 + t1862))), RS, H', ⟨by have := HJ13.out; first | omega | exact Nat.le_refl _⟩, (MD HM).pick [0, 3, 4]⟩
     ·have c37b0 : decide ((wrap64 (1 + t1862)) < (t1883.length : Int)) = false := decide_eq_false c37
      clear c37
      (first | rw [c37b0] | (simp only [i64_w, i32_w]; rw [c37b0]) | skip)
      have H' := Aside0.mk H
      clear H
      go_wp2
      go_meet
      case rel => exact ⟨_, ((t1883.length : Int)), RS, H', ⟨by have := HJ13.out; first | omega | exact Nat.le_refl _⟩, (MD HM).pick [0, 3, 4]⟩
    case rest =>
     clear HC36 HM
     obtain ⟨kq, x10_35, rfl, HA, HJ35, HM⟩ := hcut
     cases kq with
     | zero => exact absurd HA.out (by simp [laws_FnLru.j1])
     | succ kj35 =>
      have H := HA.out
      clear HA
      simp only [laws_FnLru.j1] at H
      have H' := Aside0.mk H
      clear H
      obtain ⟨Xo38, ko38, eo38⟩ := HM.rdR 2 rfl
      subst eo38
      go_wp2
      go_loopg [67] kj35 (fun kq v67 w' => ∃ (x67_3 : Int), v67 = .int .i64 x67_3 ∧ Aside0 (laws_FnLru.l0 kq t1859 t1877 t1880 x10_35 t1880 (t1880.length : Int) x67_3 = some r) ∧ Aside0 (kq ≤ kj35) ∧ Mem w [] w' [rowR Kd.string 9 (.slice Xo9 t1859.length ko9) t1859, rowR Kd.string 9 v1878 t1877, rowR Kd.string 9 (.slice Xo38 t1880.length ko38) t1880])
      case atStart => exact ⟨(0), RS, H', ⟨Nat.le_refl _⟩, (MD HM).pick [0, 1, 2]⟩
      case round =>
       clear H' HM
       obtain ⟨x67_3, rfl, HA, HK3, HM⟩ := hrel
       cases gk with
       | zero => exact absurd HA.out (by simp [laws_FnLru.l0])
       | succ k3 =>
        have H := HA.out
        clear HA
        simp only [laws_FnLru.l0] at H
        go_upto_if 68 with (fail)
        replace H := IT H; rcases H with ⟨c39, H⟩ | ⟨c39, H⟩
        ·have c39b0 : decide (x67_3 < (t1880.length : Int)) = true := decide_eq_true c39
         clear c39
         (first | rw [c39b0] | (simp only [i64_w, i32_w]; rw [c39b0]) | skip)
         replace H := GD H; obtain ⟨c40, H⟩ := H
         have c40b0 : decide (0 ≤ x67_3) = true := decide_eq_true c40
         clear c40
         replace H := GD H; obtain ⟨c41, H⟩ := H
         have c41b0 : decide (x67_3 < (t1880.length : Int)) = true := decide_eq_true c41
         clear c41
         replace H := BN H; obtain ⟨t1887, A42, H⟩ := H
         replace H := GD H
         obtain ⟨c45, H⟩ := H
         subst c45
         have H' := Aside0.mk H
         clear H
         have p1886 : 0 ≤ (x67_3 : Int) := of_decide_eq_true AS
         have q1886 : (x67_3 : Int) < (t1880.length : Int) := of_decide_eq_true AS
         obtain ⟨ad1886, e1886, hx1886_0⟩ := Kd.at_string (HM.CR 2 rfl).2.2 x67_3 p1886 q1886
         cases e1886
         replace p1886 := eq_true p1886
         replace q1886 := eq_true q1886
         obtain ⟨Xo44, ko44, eo44⟩ := HM.rdR 1 rfl
         subst eo44
         go_wp2_with (first | ((with_reducible refine gC 45 rfl ?_); refine pC (some 73) rfl #[.slice Xo44 t1877.length ko44, .string (rdOf ByteArray.empty t1880 x67_3)] rfl Try.func45 (laws_hasText.calls k3 _ _ t1877 (rdOf ByteArray.empty t1880 x67_3) true _ (HM.CR 1 rfl).2.2 (HM.CR 1 rfl).2.1 A42.out) ?_; rintro e w43 ⟨rfl, hd⟩; refine ⟨_, rfl, ?_⟩; replace HM := HM.drawn hd; clear hd))
         go_roundg k3
         case measure => have := HJ13.out; have := HJ35.out; have := HK3.out; omega
         case rel => exact ⟨(wrap64 (x67_3 + 1)), RS, H', ⟨by have := HJ13.out; have := HJ35.out; have := HK3.out; omega⟩, (MD HM).pick [0, 1, 2]⟩
        ·have c39b0 : decide (x67_3 < (t1880.length : Int)) = false := decide_eq_false c39
         clear c39
         (first | rw [c39b0] | (simp only [i64_w, i32_w]; rw [c39b0]) | skip)
         replace H := GD H; obtain ⟨c46, H⟩ := H
         have c46b0 : ((t1880.length : Int) == x10_35) = true := beq_iff_eq.mpr c46
         have c46b1 : ((t1880.length : Int) != x10_35) = false := bne_eq_false_iff_eq.mpr c46
         clear c46
         replace H := BN H; obtain ⟨t1888, A47, H⟩ := H
         replace H := BN H; obtain ⟨t1891, A50, H⟩ := H
         obtain rfl := Option.some.inj H
         go_wp2_with (first | ((with_reducible refine gC 46 rfl ?_); refine pC (some 82) rfl #[.slice Xo9 t1859.length ko9] rfl Try.func46 (spec_Distinct.calls k3 _ _ t1859 t1888 _ (HM.CR 0 rfl).2.2 (HM.CR 0 rfl).2.1 A47.out) ?_; rintro e w48 ⟨v1889, rfl, hR⟩; refine ⟨_, rfl, ?_⟩; replace HM := HM.call hR; clear hR; obtain ⟨Xo49, ko49, eo49⟩ := HM.rdR 3 rfl; subst eo49) | ((with_reducible refine gC 27 rfl ?_); refine pC (some 85) rfl #[.slice Xo9 t1859.length ko9] rfl Try.func27 (impl_Distinct.calls k3 _ _ t1859 t1891 _ (HM.CR 0 rfl).2.2 (HM.CR 0 rfl).2.1 A50.out) ?_; rintro e w51 ⟨v1892, rfl, hR⟩; refine ⟨_, rfl, ?_⟩; replace HM := HM.call hR; clear hR; obtain ⟨Xo52, ko52, eo52⟩ := HM.rdR 4 rfl; subst eo52))
         go_ret
         exact ⟨ER, HM.bel⟩
end Go.Proofs.Ytanakbmhclpamaa.G
