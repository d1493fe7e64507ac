/- Part 5 of the claim FnExactOpsDo, merged by pack.py (this session's program) out of: the print's words, cut to what is needed; texts that gen.py printed (it runs the kit's print in place); texts of this session. -/
import Derived.Test.YtdeijmofaapgdaaKFnExactOpsDo1
import Derived.Test.YtdeijmofaapgdaaKFnExactOpsDo3
import Derived.Test.YtdeijmofaapgdaaKFnExactOpsDo4
namespace Go.Proofs.Ytdeijmofaapgdaa.Mm
end Go.Proofs.Ytdeijmofaapgdaa.Mm
namespace Go.Proofs.Ytdeijmofaapgdaa.Sh
end Go.Proofs.Ytdeijmofaapgdaa.Sh
namespace Go.Proofs.Ytdeijmofaapgdaa.G
open Go.RowKit Go.Proofs.YtdeijmofaapgdaaW.PrintWords Go.Proofs.YtdeijmofaapgdaaW.PrintLast Go.Proofs.YtdeijmofaapgdaaW.PrintMore Go.Proofs.Ytdeijmofaapgdaa.Sh
attribute [local go_sem] max2_int min2_int max_two min_two max_three min_three max_four min_four
set_option linter.unusedVariables false
set_option linter.unusedSimpArgs false
open Go.Proofs.Ytdeijmofaapgdaa.Mm
def impl_OpDo.j0 : Nat → Bool → Int → Int → List (S95) → List (S95) → List Int → Int → ByteArray → ByteArray → Option (Int × Int × (List (S95)) × (List (S95)) × List Int × Bool × ByteArray × ByteArray × Bool)
 | 0, _, _, _, _, _, _, _, _, _ => none
 | k + 1, x23, x777000, x777001, x777002, x777003, x777004, x778000, x778001, x778002 => if x23 = true then (some (0, 0, ([] : List (S95)), ([] : List (S95)), ([] : List Int), false, (⟨#[]⟩ : ByteArray), (⟨#[]⟩ : ByteArray), false)) else (if x778000 = 1 then ((impl_Get.f k x777000 x777001 x777002 x777003 x777004 x778001).bind fun bt782 => (some (bt782.1, bt782.2.1, bt782.2.2.1, bt782.2.2.2.1, bt782.2.2.2.2.1, bt782.2.2.2.2.2.2, bt782.2.2.2.2.2.1, (⟨#[]⟩ : ByteArray), true))) else (if x778000 = 2 then ((impl_Put.f k x777000 x777001 x777002 x777003 x777004 x778001 x778002).bind fun bt796 => (if (bt796.2.2.2.2.2.1.length : Int) > 0 then (if 0 < (bt796.2.2.2.2.2.1.length : Int) then (some (bt796.1, bt796.2.1, bt796.2.2.1, bt796.2.2.2.1, bt796.2.2.2.2.1, true, (⟨#[]⟩ : ByteArray), rdOf ByteArray.empty bt796.2.2.2.2.2.1 0, true)) else (none)) else (some (bt796.1, bt796.2.1, bt796.2.2.1, bt796.2.2.2.1, bt796.2.2.2.2.1, true, (⟨#[]⟩ : ByteArray), (⟨#[]⟩ : ByteArray), true)))) else ((impl_Drop.f k x777000 x777001 x777002 x777003 x777004 x778001).bind fun bt814 => (some (bt814.1, bt814.2.1, bt814.2.2.1, bt814.2.2.2.1, bt814.2.2.2.2.1, bt814.2.2.2.2.2, (⟨#[]⟩ : ByteArray), (⟨#[]⟩ : ByteArray), true)))))
def impl_OpDo.f (k : Nat) (a0_0 : Int) (a0_1 : Int) (l0_2 : List (S95)) (l0_3 : List (S95)) (l0_4 : List Int) (a1_0 : Int) (a1_1 : ByteArray) (a1_2 : ByteArray) : Option (Int × Int × (List (S95)) × (List (S95)) × List Int × Bool × ByteArray × ByteArray × Bool) := (impl_ThreeOk.f k a0_0 a0_1 l0_2 l0_3 l0_4).bind fun t780 => (if t780 = true then ((impl_OpOk.f k a1_0 a1_1 a1_2).bind fun t781 => (impl_OpDo.j0 k (!t781) a0_0 a0_1 l0_2 l0_3 l0_4 a1_0 a1_1 a1_2)) else (impl_OpDo.j0 k true a0_0 a0_1 l0_2 l0_3 l0_4 a1_0 a1_1 a1_2))
theorem impl_OpDo.mono_l : ∀ k, (∀ y0 y1 y2 y3 y4 y5 y6 y7 y8, LeO (impl_OpDo.j0 k y0 y1 y2 y3 y4 y5 y6 y7 y8) (impl_OpDo.j0 (k + 1) y0 y1 y2 y3 y4 y5 y6 y7 y8))
 | 0 => fun _ _ _ _ _ _ _ _ _ r h => by simp [impl_OpDo.j0] at h
 | k + 1 => by
  have ih0 := impl_OpDo.mono_l k
  ·intro y0 y1 y2 y3 y4 y5 y6 y7 y8
   unfold impl_OpDo.j0
   repeat' first | (with_reducible first | exact ih0 _ _ _ _ _ _ _ _ _ | exact impl_Drop.mono _ _ _ _ _ _ _ | exact impl_Get.mono _ _ _ _ _ _ _ | exact impl_OpOk.mono _ _ _ _ | exact impl_Put.mono _ _ _ _ _ _ _ _ | exact impl_ThreeOk.mono _ _ _ _ _ _ | exact LeO.refl _ | exact LeO.none _ | refine LeO.ite ?_ ?_ | refine LeO.bind ?_ (fun _ => ?_)) | exact ih0 _ _ _ _ _ _ _ _ _ | exact impl_Drop.mono _ _ _ _ _ _ _ | exact impl_Get.mono _ _ _ _ _ _ _ | exact impl_OpOk.mono _ _ _ _ | exact impl_Put.mono _ _ _ _ _ _ _ _ | exact impl_ThreeOk.mono _ _ _ _ _ _ | exact LeO.none _ | refine LeO.ite ?_ ?_ | refine LeO.bind ?_ (fun _ => ?_)
theorem impl_OpDo.mono : ∀ a0 a1 a2 a3 a4 a5 a6 a7 k, LeO (impl_OpDo.f k a0 a1 a2 a3 a4 a5 a6 a7) (impl_OpDo.f (k + 1) a0 a1 a2 a3 a4 a5 a6 a7) := by
 intro a0 a1 a2 a3 a4 a5 a6 a7 k
 have ih0 := impl_OpDo.mono_l k
 unfold impl_OpDo.f
 repeat' first | (with_reducible first | exact ih0 _ _ _ _ _ _ _ _ _ | exact impl_Drop.mono _ _ _ _ _ _ _ | exact impl_Get.mono _ _ _ _ _ _ _ | exact impl_OpOk.mono _ _ _ _ | exact impl_Put.mono _ _ _ _ _ _ _ _ | exact impl_ThreeOk.mono _ _ _ _ _ _ | exact LeO.refl _ | exact LeO.none _ | refine LeO.ite ?_ ?_ | refine LeO.bind ?_ (fun _ => ?_)) | exact ih0 _ _ _ _ _ _ _ _ _ | exact impl_Drop.mono _ _ _ _ _ _ _ | exact impl_Get.mono _ _ _ _ _ _ _ | exact impl_OpOk.mono _ _ _ _ | exact impl_Put.mono _ _ _ _ _ _ _ _ | exact impl_ThreeOk.mono _ _ _ _ _ _ | exact LeO.none _ | refine LeO.ite ?_ ?_ | refine LeO.bind ?_ (fun _ => ?_)
def impl_OpDo.T12 : Bool × List (List Nat × List Nat) := (true, [([], []), ([], []), ([0, 0], [0]), ([1, 2, 0, 1, 2], [1]), ([3, 0, 1, 2, 3], [])])
def impl_OpDo.B12 : List Nat := [0, 0, 1, 7, 15]
theorem impl_OpDo.tab12 : rtab .any (opsOf Try.f11 12) = impl_OpDo.T12 := by kernel_rfl
theorem impl_OpDo.bits12 : waitsOk impl_OpDo.T12.2 impl_OpDo.B12 = true := by kernel_rfl
set_option maxHeartbeats 8000000 in
set_option maxRecDepth 100000 in
theorem impl_OpDo.calls (k : Nat) (a0_0 : Int) (a0_1 : Int) (A0_2 : Option Addr) (c0_2 : Nat) (l0_2 : List (S95)) (A0_3 : Option Addr) (c0_3 : Nat) (l0_3 : List (S95)) (A0_4 : Option Addr) (c0_4 : Nat) (l0_4 : List Int) (a1_0 : Int) (a1_1 : ByteArray) (a1_2 : ByteArray) (r1 : Int) (r2 : Int) (r3 : List (S95)) (r4 : List (S95)) (r5 : List Int) (r6 : Bool) (r7 : ByteArray) (r8 : ByteArray) (r9 : Bool) (w : World) (hr0_2 : Kd.C k95 w A0_2 l0_2.length l0_2) (hc0_2 : l0_2.length ≤ c0_2) (hr0_3 : Kd.C k95 w A0_3 l0_3.length l0_3) (hc0_3 : l0_3.length ≤ c0_3) (hr0_4 : Kd.C (Kd.int .i64) w A0_4 l0_4.length l0_4) (hc0_4 : l0_4.length ≤ c0_4) (h : impl_OpDo.f k a0_0 a0_1 l0_2 l0_3 l0_4 a1_0 a1_1 a1_2 = some (r1, r2, r3, r4, r5, r6, r7, r8, r9)) :
  Calls Try.prog 11 #[.agg #[.int .i64 a0_0, .int .i64 a0_1, .slice A0_2 l0_2.length c0_2, .slice A0_3 l0_3.length c0_3, .slice A0_4 l0_4.length c0_4], .agg #[.int .i64 a1_0, .string a1_1, .string a1_2]] w fun e w' => ∃ v2_ v3_ v4_ : Value, e = .returned (.tuple #[.agg #[.int .i64 r1, .int .i64 r2, v2_, v3_, v4_], .agg #[.bool r6, .string r7, .string r8], .bool r9]) ∧ Mem w [] w' [rowR k95 95 v2_ r3, rowR k95 95 v3_ r4, rowR (Kd.int .i64) 3 v4_ r5] := by
 have hu32 := Try.underlying32
 have hu38 := Try.underlying38
 have hu34 := Try.underlying34
 have HR0_2 := Aside0.mk hr0_2
 have HC0_2 := Aside0.mk hc0_2
 clear hr0_2 hc0_2
 have HR0_3 := Aside0.mk hr0_3
 have HC0_3 := Aside0.mk hc0_3
 clear hr0_3 hc0_3
 have HR0_4 := Aside0.mk hr0_4
 have HC0_4 := Aside0.mk hc0_4
 clear hr0_4 hc0_4
 have HM := Mem.nil w
 have H := h
 clear h
 unfold impl_OpDo.f at H
 go_enter Try.func11, Try.ntmps11
 have HC7 := Aside0.mk H
 clear H
 go_upto_region 1 with (first | ((with_reducible refine gate_dst (N := 2) rfl ?_); refine pB 2 32 [.int .i64 a0_0, .int .i64 a0_1, .slice A0_2 l0_2.length c0_2, .slice A0_3 l0_3.length c0_3, .slice A0_4 l0_4.length c0_4] HM rfl ?_; clear HM; intro gb776 w3 HM) | ((with_reducible refine gate_dst (N := 3) rfl ?_); refine pB 3 38 [.int .i64 a1_0, .string a1_1, .string a1_2] HM rfl ?_; clear HM; intro gb777 w4 HM) | ((with_reducible refine gate_dst (N := 4) rfl ?_); refine pB 4 32 [.int .i64 0, .int .i64 0, .slice none 0 0, .slice none 0 0, .slice none 0 0] HM rfl ?_; clear HM; intro gb778 w5 HM) | ((with_reducible refine gate_dst (N := 5) rfl ?_); refine pB 5 34 [.bool false, .string (⟨#[]⟩ : ByteArray), .string (⟨#[]⟩ : ByteArray)] HM rfl ?_; clear HM; intro gb779 w6 HM))
 replace HM := nzM HM
 go_cut [23] (fun v23 wc => ∃ (kq : Nat) (x23_6 : Bool), v23 = .bool x23_6 ∧ Aside0 (impl_OpDo.j0 kq x23_6 a0_0 a0_1 l0_2 l0_3 l0_4 a1_0 a1_1 a1_2 = some (r1, r2, r3, r4, r5, r6, r7, r8, r9)) ∧ Aside0 (kq ≤ k) ∧ Mem w [] wc [box 32 gb776 [.int .i64 a0_0, .int .i64 a0_1, .slice A0_2 l0_2.length c0_2, .slice A0_3 l0_3.length c0_3, .slice A0_4 l0_4.length c0_4], box 38 gb777 [.int .i64 a1_0, .string a1_1, .string a1_2], box 32 gb778 [.int .i64 0, .int .i64 0, .slice none 0 0, .slice none 0 0, .slice none 0 0], box 34 gb779 [.bool false, .string (⟨#[]⟩ : ByteArray), .string (⟨#[]⟩ : ByteArray)]])
 case first =>
  have H := HC7.out
  clear HC7
  replace H := BN H; obtain ⟨t780, A9, H⟩ := H
  replace H := IB H
  rcases H with ⟨c11, H⟩ | ⟨c11, H⟩
  ·subst c11
   replace H := BN H; obtain ⟨t781, A13, H⟩ := H
   have H' := Aside0.mk H
   clear H
   obtain ⟨hcz8_0, hcz8_1, hcz8_2, hcz8_3, hcz8_4, hfz8_0, hfz8_1, hfz8_2, hfz8_3, hfz8_4⟩ := bk5 (HM.bx 0 rfl)
   go_wp2_with (first | ((with_reducible refine gate_callee (f := 27) rfl ?_); refine pC (some 17) rfl #[.agg #[.int .i64 a0_0, .int .i64 a0_1, .slice A0_2 l0_2.length c0_2, .slice A0_3 l0_3.length c0_3, .slice A0_4 l0_4.length c0_4]] rfl Try.func27 (impl_ThreeOk.calls k a0_0 a0_1 _ _ l0_2 _ _ l0_3 _ _ l0_4 true _ (HM.came HR0_2.out) HC0_2.out (HM.came HR0_3.out) HC0_3.out (HM.came HR0_4.out) HC0_4.out A9.out) ?_; rintro e w10 ⟨rfl, hR⟩; refine ⟨_, rfl, ?_⟩; replace HM := HM.call hR; clear hR; obtain ⟨hcz12_0, hcz12_1, hcz12_2, hfz12_0, hfz12_1, hfz12_2⟩ := bk3 (HM.bx 1 rfl)) | ((with_reducible refine gate_callee (f := 39) rfl ?_); refine pC (some 21) rfl #[.agg #[.int .i64 a1_0, .string a1_1, .string a1_2]] rfl Try.func39 (impl_OpOk.calls k a1_0 a1_1 a1_2 t781 _ A13.out) ?_; rintro e w14 ⟨rfl, hR⟩; refine ⟨_, rfl, ?_⟩; replace HM := HM.call hR; clear hR))
   go_meet
   case rel => exact ⟨_, (!t781), RS, H', ⟨by first | omega | exact Nat.le_refl _⟩, (MD HM).pick [0, 1, 2, 3]⟩
  ·subst c11
   have H' := Aside0.mk H
   clear H
   obtain ⟨hcz8_0, hcz8_1, hcz8_2, hcz8_3, hcz8_4, hfz8_0, hfz8_1, hfz8_2, hfz8_3, hfz8_4⟩ := bk5 (HM.bx 0 rfl)
   go_wp2_with (first | ((with_reducible refine gate_callee (f := 27) rfl ?_); refine pC (some 17) rfl #[.agg #[.int .i64 a0_0, .int .i64 a0_1, .slice A0_2 l0_2.length c0_2, .slice A0_3 l0_3.length c0_3, .slice A0_4 l0_4.length c0_4]] rfl Try.func27 (impl_ThreeOk.calls k a0_0 a0_1 _ _ l0_2 _ _ l0_3 _ _ l0_4 false _ (HM.came HR0_2.out) HC0_2.out (HM.came HR0_3.out) HC0_3.out (HM.came HR0_4.out) HC0_4.out A9.out) ?_; rintro e w10 ⟨rfl, hR⟩; refine ⟨_, rfl, ?_⟩; replace HM := HM.call hR; clear hR))
   go_meet
   case rel => exact ⟨_, (true), RS, H', ⟨by first | omega | exact Nat.le_refl _⟩, (MD HM).pick [0, 1, 2, 3]⟩
 case rest =>
  clear HC7 HM
  obtain ⟨kq, x23_6, rfl, HA, HJ6, HM⟩ := hcut
  cases kq with
  | zero => exact absurd HA.out (by simp [impl_OpDo.j0])
  | succ kj6 =>
   have H := HA.out
   clear HA
   simp only [impl_OpDo.j0] at H
   go_upto_if 23 with (fail)
   replace H := IB H
   rcases H with ⟨c15, H⟩ | ⟨c15, H⟩
   ·subst c15
    simp only [Option.some.injEq, Prod.mk.injEq] at H
    obtain ⟨rfl, rfl, rfl, rfl, rfl, rfl, rfl, rfl, rfl⟩ := H
    go_wp2_with (first | ((with_reducible refine gate_st (p := 4) rfl ?_); refine pS 2 4 0 [.int .i64 0, .int .i64 0, .slice none 0 0, .slice none 0 0, .slice none 0 0] HM rfl rfl ?_; clear HM; intro w16 HM) | ((with_reducible refine gate_st (p := 5) rfl ?_); refine pS 3 5 0 [.bool false, .string (⟨#[]⟩ : ByteArray), .string (⟨#[]⟩ : ByteArray)] HM rfl rfl ?_; clear HM; intro w17 HM; replace HM := HM.nl k95 95; replace HM := HM.nl k95 95; replace HM := HM.nl (Kd.int .i64) 3))
    refine bodyPost_ret (results_list (rs := [.cell 4 32, .cell 5 34, .tmp 6]) rfl (by simp) (.cell gb778 32 #[.int .i64 0, .int .i64 0, .slice none 0 0, .slice none 0 0, .slice none 0 0] (0, 0) _ rfl (HM.bx 2 rfl) Try.underlying32 rfl (by kernel_rfl) (.cell gb779 34 #[.bool false, .string (⟨#[]⟩ : ByteArray), .string (⟨#[]⟩ : ByteArray)] (0, 0) _ rfl (HM.bx 3 rfl) Try.underlying34 rfl (by kernel_rfl) (.tmp .nil)))) rfl ?_
    exact ⟨_, _, _, ER, (MD HM).pick [4, 5, 6]⟩
   ·subst c15
    obtain ⟨hcz18_0, hcz18_1, hcz18_2, hfz18_0, hfz18_1, hfz18_2⟩ := bk3 (HM.bx 1 rfl)
    go_upto_if 28 with (fail)
    replace H := IT H; rcases H with ⟨c19, H⟩ | ⟨c19, H⟩
    ·have c19b0 : (a1_0 == 1) = true := beq_iff_eq.mpr c19
     have c19b1 : (a1_0 != 1) = false := bne_eq_false_iff_eq.mpr c19
     clear c19
     (first | rw [c19b0] | (simp only [i64_w, i32_w]; rw [c19b0]) | skip)
     replace H := BN H; obtain ⟨⟨t782, t783, t784, t787, t790, t793, t794⟩, A21, H⟩ := H
     simp only [Option.some.injEq, Prod.mk.injEq] at H
     obtain ⟨rfl, rfl, rfl, rfl, rfl, rfl, rfl, rfl, rfl⟩ := H
     obtain ⟨hcz20_0, hcz20_1, hcz20_2, hcz20_3, hcz20_4, hfz20_0, hfz20_1, hfz20_2, hfz20_3, hfz20_4⟩ := bk5 (HM.bx 0 rfl)
     go_wp2_with (first | ((with_reducible refine gate_callee (f := 28) rfl ?_); refine pC (some 34) rfl #[.agg #[.int .i64 a0_0, .int .i64 a0_1, .slice A0_2 l0_2.length c0_2, .slice A0_3 l0_3.length c0_3, .slice A0_4 l0_4.length c0_4], .string a1_1] rfl Try.func28 (impl_Get.calls kj6 a0_0 a0_1 _ _ l0_2 _ _ l0_3 _ _ l0_4 a1_1 t782 t783 t784 t787 t790 t793 t794 _ (HM.came HR0_2.out) HC0_2.out (HM.came HR0_3.out) HC0_3.out (HM.came HR0_4.out) HC0_4.out A21.out) ?_; rintro e w22 ⟨v785, v788, v791, rfl, hR⟩; refine ⟨_, rfl, ?_⟩; replace HM := HM.call hR; clear hR) | ((with_reducible refine gate_dst (N := 7) rfl ?_); refine pB 7 32 [.int .i64 0, .int .i64 0, .slice none 0 0, .slice none 0 0, .slice none 0 0] HM rfl ?_; clear HM; intro gb795 w23 HM; obtain ⟨Xo24, ko24, eo24⟩ := HM.rdR 4 rfl; subst eo24; obtain ⟨Xo25, ko25, eo25⟩ := HM.rdR 5 rfl; subst eo25; obtain ⟨Xo26, ko26, eo26⟩ := HM.rdR 6 rfl; subst eo26) | ((with_reducible refine gate_st (p := 7) rfl ?_); refine pS 7 7 0 [.int .i64 t782, .int .i64 t783, .slice Xo24 t784.length ko24, .slice Xo25 t787.length ko25, .slice Xo26 t790.length ko26] HM rfl rfl ?_; clear HM; intro w27 HM; obtain ⟨hcz28_0, hcz28_1, hcz28_2, hcz28_3, hcz28_4, hfz28_0, hfz28_1, hfz28_2, hfz28_3, hfz28_4⟩ := bk5 (HM.bx 7 rfl)) | ((with_reducible refine gate_st (p := 4) rfl ?_); refine pS 2 4 0 [.int .i64 t782, .int .i64 t783, .slice Xo24 t784.length ko24, .slice Xo25 t787.length ko25, .slice Xo26 t790.length ko26] HM rfl rfl ?_; clear HM; intro w29 HM) | ((with_reducible refine gate_st (p := 5) rfl ?_); refine pS 3 5 0 [.bool t794, .string t793, .string (⟨#[]⟩ : ByteArray)] HM rfl rfl ?_; clear HM; intro w30 HM))
     refine bodyPost_ret (results_list (rs := [.cell 4 32, .cell 5 34, .tmp 6]) rfl (by simp) (.cell gb778 32 #[.int .i64 t782, .int .i64 t783, .slice Xo24 t784.length ko24, .slice Xo25 t787.length ko25, .slice Xo26 t790.length ko26] (0, 0) _ rfl (HM.bx 2 rfl) Try.underlying32 rfl (by kernel_rfl) (.cell gb779 34 #[.bool t794, .string t793, .string (⟨#[]⟩ : ByteArray)] (0, 0) _ rfl (HM.bx 3 rfl) Try.underlying34 rfl (by kernel_rfl) (.tmp .nil)))) rfl ?_
     exact ⟨_, _, _, ER, (MD HM).pick [4, 5, 6]⟩
    ·have c19b0 : (a1_0 == 1) = false := beq_eq_false_iff_ne.mpr c19
     have c19b1 : (a1_0 != 1) = true := bne_iff_ne.mpr c19
     (first | rw [c19b0] | (simp only [i64_w, i32_w]; rw [c19b0]) | skip)
     go_upto_if 42 with (fail)
     replace H := IT H; rcases H with ⟨c31, H⟩ | ⟨c31, H⟩
     ·have c31b0 : (a1_0 == 2) = true := beq_iff_eq.mpr c31
      have c31b1 : (a1_0 != 2) = false := bne_eq_false_iff_eq.mpr c31
      clear c31
      (first | rw [c31b0] | (simp only [i64_w, i32_w]; rw [c31b0]) | skip)
      replace H := BN H; obtain ⟨⟨t796, t797, t798, t801, t804, t807, t810⟩, A33, H⟩ := H
      obtain ⟨hcz32_0, hcz32_1, hcz32_2, hcz32_3, hcz32_4, hfz32_0, hfz32_1, hfz32_2, hfz32_3, hfz32_4⟩ := bk5 (HM.bx 0 rfl)
      go_upto_if 57 with (first | ((with_reducible refine gate_callee (f := 40) rfl ?_); refine pC (some 50) rfl #[.agg #[.int .i64 a0_0, .int .i64 a0_1, .slice A0_2 l0_2.length c0_2, .slice A0_3 l0_3.length c0_3, .slice A0_4 l0_4.length c0_4], .string a1_1, .string a1_2] rfl Try.func40 (impl_Put.calls kj6 a0_0 a0_1 _ _ l0_2 _ _ l0_3 _ _ l0_4 a1_1 a1_2 t796 t797 t798 t801 t804 t807 t810 _ (HM.came HR0_2.out) HC0_2.out (HM.came HR0_3.out) HC0_3.out (HM.came HR0_4.out) HC0_4.out A33.out) ?_; rintro e w34 ⟨v799, v802, v805, v808, rfl, hR⟩; refine ⟨_, rfl, ?_⟩; replace HM := HM.call hR; clear hR) | ((with_reducible refine gate_dst (N := 10) rfl ?_); refine pB 10 32 [.int .i64 0, .int .i64 0, .slice none 0 0, .slice none 0 0, .slice none 0 0] HM rfl ?_; clear HM; intro gb811 w35 HM; obtain ⟨Xo36, ko36, eo36⟩ := HM.rdR 4 rfl; subst eo36; obtain ⟨Xo37, ko37, eo37⟩ := HM.rdR 5 rfl; subst eo37; obtain ⟨Xo38, ko38, eo38⟩ := HM.rdR 6 rfl; subst eo38) | ((with_reducible refine gate_st (p := 10) rfl ?_); refine pS 8 10 0 [.int .i64 t796, .int .i64 t797, .slice Xo36 t798.length ko36, .slice Xo37 t801.length ko37, .slice Xo38 t804.length ko38] HM rfl rfl ?_; clear HM; intro w39 HM) | ((with_reducible refine gate_dst (N := 13) rfl ?_); refine pB 13 34 [.bool false, .string (⟨#[]⟩ : ByteArray), .string (⟨#[]⟩ : ByteArray)] HM rfl ?_; clear HM; intro gb812 w40 HM) | ((with_reducible refine gate_st (p := 13) rfl ?_); refine pS 9 13 0 [.bool true, .string (⟨#[]⟩ : ByteArray), .string (⟨#[]⟩ : ByteArray)] HM rfl rfl ?_; clear HM; intro w41 HM; obtain ⟨Xo42, ko42, eo42⟩ := HM.rdR 7 rfl; subst eo42))
      replace HM := nzM HM
      replace H := IT H; rcases H with ⟨c43, H⟩ | ⟨c43, H⟩
      ·replace c43 : (t807.length : Int) > 0 := c43
       have c43b0 : decide (0 < (t807.length : Int)) = true := decide_eq_true c43
       have c43b1 : decide (0 < t807.length) = true := decide_eq_true (by omega)
       have c43b9 : decide (0 < t807.length) = true := decide_eq_true (by omega)
       clear c43
       (first | rw [c43b0] | rw [c43b9] | (simp only [i64_w, i32_w]; rw [c43b0]) | skip)
       replace H := GD H; obtain ⟨c44, H⟩ := H
       replace c44 : 0 < (t807.length : Int) := c44
       have c44b0 : decide (0 < (t807.length : Int)) = true := decide_eq_true c44
       have c44b1 : decide (0 < t807.length) = true := decide_eq_true (by omega)
       have c44b9 : decide (0 < t807.length) = true := decide_eq_true (by omega)
       clear c44
       have p813 : 0 ≤ (0 : Int) := (by omega)
       have q813 : (0 : Int) < (t807.length : Int) := of_decide_eq_true AS
       obtain ⟨ad813, e813, hx813_0⟩ := Kd.at_string (HM.CR 7 rfl).2.2 0 p813 q813
       cases e813
       have qi813 : (0 < t807.length) = True := eq_true (by omega)
       (try rw [show ((0 : Int)).toNat = 0 from rfl] at hx813_0)
       (try rw [Addr.add_zero'] at hx813_0)
       replace p813 := eq_true p813
       replace q813 := eq_true q813
       try go_wp2_with (first | ((with_reducible refine gate_st (p := 61) rfl ?_); refine pS 9 61 2 [.string (rdOf ByteArray.empty t807 0)] HM rfl rfl ?_; clear HM; intro w45 HM))
       refine RGN 5 [0, 1, 2, 3, 4] (fun a0 b a w' => a = putSel a0 b [(0, 62, .agg #[.int .i64 t796, .int .i64 t797, .slice Xo36 t798.length ko36, .slice Xo37 t801.length ko37, .slice Xo38 t804.length ko38]), (1, 63, .agg #[.bool true, .string (⟨#[]⟩ : ByteArray), .string (rdOf ByteArray.empty t807 0)]), (4, 6, .bool true)] ∧ Mem w [] w' [box 32 gb776 [.int .i64 a0_0, .int .i64 a0_1, .slice A0_2 l0_2.length c0_2, .slice A0_3 l0_3.length c0_3, .slice A0_4 l0_4.length c0_4], box 38 gb777 [.int .i64 a1_0, .string a1_1, .string a1_2], sel (b 2) (box 32 gb778 [.int .i64 t796, .int .i64 t797, .slice Xo36 t798.length ko36, .slice Xo37 t801.length ko37, .slice Xo38 t804.length ko38]) (box 32 gb778 [.int .i64 0, .int .i64 0, .slice none 0 0, .slice none 0 0, .slice none 0 0]), sel (b 3) (box 34 gb779 [.bool true, .string (⟨#[]⟩ : ByteArray), .string (rdOf ByteArray.empty t807 0)]) (box 34 gb779 [.bool false, .string (⟨#[]⟩ : ByteArray), .string (⟨#[]⟩ : ByteArray)]), rowR k95 95 (.slice Xo36 t798.length ko36) t798, rowR k95 95 (.slice Xo37 t801.length ko37) t801, rowR (Kd.int .i64) 3 (.slice Xo38 t804.length ko38) t804, rowR Kd.string 9 (.slice (some ad813) t807.length ko42) t807, box 32 gb811 [.int .i64 t796, .int .i64 t797, .slice Xo36 t798.length ko36, .slice Xo37 t801.length ko37, .slice Xo38 t804.length ko38], box 34 gb812 [.bool true, .string (⟨#[]⟩ : ByteArray), .string (rdOf ByteArray.empty t807 0)]]) impl_OpDo.tab12 impl_OpDo.bits12 ?_ ?_ ?_
       ·exact ⟨PS0' rfl _, (HM.drew).pick [0, 1, 2, 3, 4, 5, 6, 7, 8, 9]⟩
       ·clear HM
        refine steps_cons ?_ ?_
        ·rintro b a w ⟨ha, HM⟩ hb hon hoff
         refine ⟨_, rfl, fun K hK => ?_⟩
         obtain ⟨hcz50_0, hcz50_1, hcz50_2, hcz50_3, hcz50_4, hfz50_0, hfz50_1, hfz50_2, hfz50_3, hfz50_4⟩ := bk5 (HM.bx 8 rfl)
         have e10 := POF ha 10
         replace ha := Aside0.mk ha
         exact VL (.agg #[.int .i64 t796, .int .i64 t797, .slice Xo36 t798.length ko36, .slice Xo37 t801.length ko37, .slice Xo38 t804.length ko38]) (hK.out _ _ ⟨PUT ha 0 hb, HM⟩)
        refine steps_cons ?_ ?_
        ·rintro b a w ⟨ha, HM⟩ hb hon hoff
         refine ⟨_, rfl, fun K hK => ?_⟩
         obtain ⟨hcz51_0, hcz51_1, hcz51_2, hfz51_0, hfz51_1, hfz51_2⟩ := bk3 (HM.bx 9 rfl)
         have e13 := POF ha 13
         replace ha := Aside0.mk ha
         exact VL (.agg #[.bool true, .string (⟨#[]⟩ : ByteArray), .string (rdOf ByteArray.empty t807 0)]) (hK.out _ _ ⟨PUT ha 1 hb, HM⟩)
        refine steps_cons ?_ ?_
        ·rintro b a w ⟨ha, HM⟩ hb hon hoff
         refine ⟨_, rfl, fun K hK => ?_⟩
         replace HM := HM.sF 2 rfl hb
         have e4 := POF ha 4
         have e62 := PON ha 0 (hon 0 (by kernel_rfl))
         replace ha := Aside0.mk ha
         refine ST (eS 2 4 0 [.int .i64 t796, .int .i64 t797, .slice Xo36 t798.length ko36, .slice Xo37 t801.length ko37, .slice Xo38 t804.length ko38] HM rfl rfl ?_ (hp := (eval_of e4)) (hx := (by rw [eval_of e62]; rfl)))
         clear HM
         intro w52 HM
         exact hK.out _ _ ⟨PUS ha, (HM).pick [0, 1, 2, 3, 4, 5, 6, 7, 8, 9]⟩
        refine steps_cons ?_ ?_
        ·rintro b a w ⟨ha, HM⟩ hb hon hoff
         refine ⟨_, rfl, fun K hK => ?_⟩
         replace HM := HM.sF 3 rfl hb
         have e5 := POF ha 5
         have e63 := PON ha 1 (hon 1 (by kernel_rfl))
         replace ha := Aside0.mk ha
         refine ST (eS 3 5 0 [.bool true, .string (⟨#[]⟩ : ByteArray), .string (rdOf ByteArray.empty t807 0)] HM rfl rfl ?_ (hp := (eval_of e5)) (hx := (by rw [eval_of e63]; rfl)))
         clear HM
         intro w53 HM
         exact hK.out _ _ ⟨PUS ha, (HM).pick [0, 1, 2, 3, 4, 5, 6, 7, 8, 9]⟩
        refine steps_cons ?_ ?_
        ·rintro b a w ⟨ha, HM⟩ hb hon hoff
         refine ⟨_, rfl, fun K hK => ?_⟩
         replace ha := Aside0.mk ha
         exact VL (.bool true) (hK.out _ _ ⟨PUT ha 2 hb, HM⟩)
        exact steps_nil
       rintro _ w54 ⟨rfl, HM⟩
       replace HM := HM.sT 2 rfl rfl
       replace HM := HM.sT 3 rfl rfl
       simp only [putSel, if_true, Act.put, List.setIfInBounds_toArray, List.set_cons_zero, List.set_cons_succ, gt_iff_lt, ge_iff_le]
       simp only [Option.some.injEq, Prod.mk.injEq] at H
       obtain ⟨rfl, rfl, rfl, rfl, rfl, rfl, rfl, rfl, rfl⟩ := H
       go_wp2
       refine bodyPost_ret (results_list (rs := [.cell 4 32, .cell 5 34, .tmp 6]) rfl (by simp) (.cell gb778 32 #[.int .i64 t796, .int .i64 t797, .slice Xo36 t798.length ko36, .slice Xo37 t801.length ko37, .slice Xo38 t804.length ko38] (0, 0) _ rfl (HM.bx 2 rfl) Try.underlying32 rfl (by kernel_rfl) (.cell gb779 34 #[.bool true, .string (⟨#[]⟩ : ByteArray), .string (rdOf ByteArray.empty t807 0)] (0, 0) _ rfl (HM.bx 3 rfl) Try.underlying34 rfl (by kernel_rfl) (.tmp .nil)))) rfl ?_
       exact ⟨_, _, _, ER, (MD HM).pick [4, 5, 6]⟩
      ·replace c43 : ¬ ((t807.length : Int) > 0) := c43
       have c43b0 : decide (0 < (t807.length : Int)) = false := decide_eq_false c43
       have c43b1 : decide (0 < t807.length) = false := decide_eq_false (by omega)
       have c43b9 : decide (0 < t807.length) = false := decide_eq_false (by omega)
       clear c43
       (first | rw [c43b0] | rw [c43b9] | (simp only [i64_w, i32_w]; rw [c43b0]) | skip)
       try go_wp2
       refine RGN 5 [0, 1, 2, 3, 4] (fun a0 b a w' => a = putSel a0 b [(0, 62, .agg #[.int .i64 t796, .int .i64 t797, .slice Xo36 t798.length ko36, .slice Xo37 t801.length ko37, .slice Xo38 t804.length ko38]), (1, 63, .agg #[.bool true, .string (⟨#[]⟩ : ByteArray), .string (⟨#[]⟩ : ByteArray)]), (4, 6, .bool true)] ∧ Mem w [] w' [box 32 gb776 [.int .i64 a0_0, .int .i64 a0_1, .slice A0_2 l0_2.length c0_2, .slice A0_3 l0_3.length c0_3, .slice A0_4 l0_4.length c0_4], box 38 gb777 [.int .i64 a1_0, .string a1_1, .string a1_2], sel (b 2) (box 32 gb778 [.int .i64 t796, .int .i64 t797, .slice Xo36 t798.length ko36, .slice Xo37 t801.length ko37, .slice Xo38 t804.length ko38]) (box 32 gb778 [.int .i64 0, .int .i64 0, .slice none 0 0, .slice none 0 0, .slice none 0 0]), sel (b 3) (box 34 gb779 [.bool true, .string (⟨#[]⟩ : ByteArray), .string (⟨#[]⟩ : ByteArray)]) (box 34 gb779 [.bool false, .string (⟨#[]⟩ : ByteArray), .string (⟨#[]⟩ : ByteArray)]), rowR k95 95 (.slice Xo36 t798.length ko36) t798, rowR k95 95 (.slice Xo37 t801.length ko37) t801, rowR (Kd.int .i64) 3 (.slice Xo38 t804.length ko38) t804, rowR Kd.string 9 (.slice Xo42 t807.length ko42) t807, box 32 gb811 [.int .i64 t796, .int .i64 t797, .slice Xo36 t798.length ko36, .slice Xo37 t801.length ko37, .slice Xo38 t804.length ko38], box 34 gb812 [.bool true, .string (⟨#[]⟩ : ByteArray), .string (⟨#[]⟩ : ByteArray)]]) impl_OpDo.tab12 impl_OpDo.bits12 ?_ ?_ ?_
       ·exact ⟨PS0' rfl _, (HM.drew).pick [0, 1, 2, 3, 4, 5, 6, 7, 8, 9]⟩
       ·clear HM
        refine steps_cons ?_ ?_
        ·rintro b a w ⟨ha, HM⟩ hb hon hoff
         refine ⟨_, rfl, fun K hK => ?_⟩
         obtain ⟨hcz59_0, hcz59_1, hcz59_2, hcz59_3, hcz59_4, hfz59_0, hfz59_1, hfz59_2, hfz59_3, hfz59_4⟩ := bk5 (HM.bx 8 rfl)
         have e10 := POF ha 10
         replace ha := Aside0.mk ha
         exact VL (.agg #[.int .i64 t796, .int .i64 t797, .slice Xo36 t798.length ko36, .slice Xo37 t801.length ko37, .slice Xo38 t804.length ko38]) (hK.out _ _ ⟨PUT ha 0 hb, HM⟩)
        refine steps_cons ?_ ?_
        ·rintro b a w ⟨ha, HM⟩ hb hon hoff
         refine ⟨_, rfl, fun K hK => ?_⟩
         obtain ⟨hcz60_0, hcz60_1, hcz60_2, hfz60_0, hfz60_1, hfz60_2⟩ := bk3 (HM.bx 9 rfl)
         have e13 := POF ha 13
         replace ha := Aside0.mk ha
         exact VL (.agg #[.bool true, .string (⟨#[]⟩ : ByteArray), .string (⟨#[]⟩ : ByteArray)]) (hK.out _ _ ⟨PUT ha 1 hb, HM⟩)
        refine steps_cons ?_ ?_
        ·rintro b a w ⟨ha, HM⟩ hb hon hoff
         refine ⟨_, rfl, fun K hK => ?_⟩
         replace HM := HM.sF 2 rfl hb
         have e4 := POF ha 4
         have e62 := PON ha 0 (hon 0 (by kernel_rfl))
         replace ha := Aside0.mk ha
         refine ST (eS 2 4 0 [.int .i64 t796, .int .i64 t797, .slice Xo36 t798.length ko36, .slice Xo37 t801.length ko37, .slice Xo38 t804.length ko38] HM rfl rfl ?_ (hp := (eval_of e4)) (hx := (by rw [eval_of e62]; rfl)))
         clear HM
         intro w61 HM
         exact hK.out _ _ ⟨PUS ha, (HM).pick [0, 1, 2, 3, 4, 5, 6, 7, 8, 9]⟩
        refine steps_cons ?_ ?_
        ·rintro b a w ⟨ha, HM⟩ hb hon hoff
         refine ⟨_, rfl, fun K hK => ?_⟩
         replace HM := HM.sF 3 rfl hb
         have e5 := POF ha 5
         have e63 := PON ha 1 (hon 1 (by kernel_rfl))
         replace ha := Aside0.mk ha
         refine ST (eS 3 5 0 [.bool true, .string (⟨#[]⟩ : ByteArray), .string (⟨#[]⟩ : ByteArray)] HM rfl rfl ?_ (hp := (eval_of e5)) (hx := (by rw [eval_of e63]; rfl)))
         clear HM
         intro w62 HM
         exact hK.out _ _ ⟨PUS ha, (HM).pick [0, 1, 2, 3, 4, 5, 6, 7, 8, 9]⟩
        refine steps_cons ?_ ?_
        ·rintro b a w ⟨ha, HM⟩ hb hon hoff
         refine ⟨_, rfl, fun K hK => ?_⟩
         replace ha := Aside0.mk ha
         exact VL (.bool true) (hK.out _ _ ⟨PUT ha 2 hb, HM⟩)
        exact steps_nil
       rintro _ w63 ⟨rfl, HM⟩
       replace HM := HM.sT 2 rfl rfl
       replace HM := HM.sT 3 rfl rfl
       simp only [putSel, if_true, Act.put, List.setIfInBounds_toArray, List.set_cons_zero, List.set_cons_succ, gt_iff_lt, ge_iff_le]
       simp only [Option.some.injEq, Prod.mk.injEq] at H
       obtain ⟨rfl, rfl, rfl, rfl, rfl, rfl, rfl, rfl, rfl⟩ := H
       go_wp2
       refine bodyPost_ret (results_list (rs := [.cell 4 32, .cell 5 34, .tmp 6]) rfl (by simp) (.cell gb778 32 #[.int .i64 t796, .int .i64 t797, .slice Xo36 t798.length ko36, .slice Xo37 t801.length ko37, .slice Xo38 t804.length ko38] (0, 0) _ rfl (HM.bx 2 rfl) Try.underlying32 rfl (by kernel_rfl) (.cell gb779 34 #[.bool true, .string (⟨#[]⟩ : ByteArray), .string (⟨#[]⟩ : ByteArray)] (0, 0) _ rfl (HM.bx 3 rfl) Try.underlying34 rfl (by kernel_rfl) (.tmp .nil)))) rfl ?_
       exact ⟨_, _, _, ER, (MD HM).pick [4, 5, 6]⟩
     ·have c31b0 : (a1_0 == 2) = false := beq_eq_false_iff_ne.mpr c31
      have c31b1 : (a1_0 != 2) = true := bne_iff_ne.mpr c31
      (first | rw [c31b0] | (simp only [i64_w, i32_w]; rw [c31b0]) | skip)
      replace H := BN H; obtain ⟨⟨t814, t815, t816, t819, t822, t825⟩, A65, H⟩ := H
      simp only [Option.some.injEq, Prod.mk.injEq] at H
      obtain ⟨rfl, rfl, rfl, rfl, rfl, rfl, rfl, rfl, rfl⟩ := H
      obtain ⟨hcz64_0, hcz64_1, hcz64_2, hcz64_3, hcz64_4, hfz64_0, hfz64_1, hfz64_2, hfz64_3, hfz64_4⟩ := bk5 (HM.bx 0 rfl)
      go_wp2_with (first | ((with_reducible refine gate_callee (f := 41) rfl ?_); refine pC (some 68) rfl #[.agg #[.int .i64 a0_0, .int .i64 a0_1, .slice A0_2 l0_2.length c0_2, .slice A0_3 l0_3.length c0_3, .slice A0_4 l0_4.length c0_4], .string a1_1] rfl Try.func41 (impl_Drop.calls kj6 a0_0 a0_1 _ _ l0_2 _ _ l0_3 _ _ l0_4 a1_1 t814 t815 t816 t819 t822 t825 _ (HM.came HR0_2.out) HC0_2.out (HM.came HR0_3.out) HC0_3.out (HM.came HR0_4.out) HC0_4.out A65.out) ?_; rintro e w66 ⟨v817, v820, v823, rfl, hR⟩; refine ⟨_, rfl, ?_⟩; replace HM := HM.call hR; clear hR) | ((with_reducible refine gate_dst (N := 14) rfl ?_); refine pB 14 32 [.int .i64 0, .int .i64 0, .slice none 0 0, .slice none 0 0, .slice none 0 0] HM rfl ?_; clear HM; intro gb826 w67 HM; obtain ⟨Xo68, ko68, eo68⟩ := HM.rdR 4 rfl; subst eo68; obtain ⟨Xo69, ko69, eo69⟩ := HM.rdR 5 rfl; subst eo69; obtain ⟨Xo70, ko70, eo70⟩ := HM.rdR 6 rfl; subst eo70) | ((with_reducible refine gate_st (p := 14) rfl ?_); refine pS 7 14 0 [.int .i64 t814, .int .i64 t815, .slice Xo68 t816.length ko68, .slice Xo69 t819.length ko69, .slice Xo70 t822.length ko70] HM rfl rfl ?_; clear HM; intro w71 HM; obtain ⟨hcz72_0, hcz72_1, hcz72_2, hcz72_3, hcz72_4, hfz72_0, hfz72_1, hfz72_2, hfz72_3, hfz72_4⟩ := bk5 (HM.bx 7 rfl)) | ((with_reducible refine gate_st (p := 4) rfl ?_); refine pS 2 4 0 [.int .i64 t814, .int .i64 t815, .slice Xo68 t816.length ko68, .slice Xo69 t819.length ko69, .slice Xo70 t822.length ko70] HM rfl rfl ?_; clear HM; intro w73 HM) | ((with_reducible refine gate_st (p := 5) rfl ?_); refine pS 3 5 0 [.bool t825, .string (⟨#[]⟩ : ByteArray), .string (⟨#[]⟩ : ByteArray)] HM rfl rfl ?_; clear HM; intro w74 HM))
      refine bodyPost_ret (results_list (rs := [.cell 4 32, .cell 5 34, .tmp 6]) rfl (by simp) (.cell gb778 32 #[.int .i64 t814, .int .i64 t815, .slice Xo68 t816.length ko68, .slice Xo69 t819.length ko69, .slice Xo70 t822.length ko70] (0, 0) _ rfl (HM.bx 2 rfl) Try.underlying32 rfl (by kernel_rfl) (.cell gb779 34 #[.bool t825, .string (⟨#[]⟩ : ByteArray), .string (⟨#[]⟩ : ByteArray)] (0, 0) _ rfl (HM.bx 3 rfl) Try.underlying34 rfl (by kernel_rfl) (.tmp .nil)))) rfl ?_
      exact ⟨_, _, _, ER, (MD HM).pick [4, 5, 6]⟩
def impl_OpsDo.l0 : Nat → List (S34) → List (S38) → Int → Int → Int → Int → List (S95) → List (S95) → List Int → Option (Int × Int × (List (S95)) × (List (S95)) × List Int × (List (S34)))
 | 0, _, _, _, _, _, _, _, _, _ => none
 | k + 1, x7, x20, x21, x22, x1068000, x1068001, x1068002, x1068003, x1068004 => if x22 < x21 then (if 0 ≤ x22 then (if x22 < (x20.length : Int) then ((impl_OpDo.f k x1068000 x1068001 x1068002 x1068003 x1068004 ((rd_T38 x20 x22).f0) ((rd_T38 x20 x22).f1) ((rd_T38 x20 x22).f2)).bind fun bt1073 => (if bt1073.2.2.2.2.2.2.2.2 = true then (if x7.length < 3518437208883 then (impl_OpsDo.l0 k (x7 ++ [(⟨bt1073.2.2.2.2.2.1, bt1073.2.2.2.2.2.2.1, bt1073.2.2.2.2.2.2.2.1⟩ : S34)]) x20 x21 (wrap64 (x22 + 1)) bt1073.1 bt1073.2.1 bt1073.2.2.1 bt1073.2.2.2.1 bt1073.2.2.2.2.1) else (none)) else (some (x1068000, x1068001, x1068002, x1068003, x1068004, x7)))) else (none)) else (none)) else (some (x1068000, x1068001, x1068002, x1068003, x1068004, x7))
def impl_OpsDo.f (k : Nat) (a0_0 : Int) (a0_1 : Int) (l0_2 : List (S95)) (l0_3 : List (S95)) (l0_4 : List Int) (l1 : List (S38)) : Option (Int × Int × (List (S95)) × (List (S95)) × List Int × (List (S34))) := (impl_ThreeOk.f k a0_0 a0_1 l0_2 l0_3 l0_4).bind fun t1055 => (if t1055 = true then ((impl_copyThree.f a0_0 a0_1 l0_2 l0_3 l0_4).bind fun bt1056 => (impl_OpsDo.l0 k (([] : List (S34))) l1 (l1.length : Int) 0 bt1056.1 bt1056.2.1 bt1056.2.2.1 bt1056.2.2.2.1 bt1056.2.2.2.2)) else (some (0, 0, ([] : List (S95)), ([] : List (S95)), ([] : List Int), ([] : List (S34)))))
theorem impl_OpsDo.mono_l : ∀ k, (∀ y0 y1 y2 y3 y4 y5 y6 y7 y8, LeO (impl_OpsDo.l0 k y0 y1 y2 y3 y4 y5 y6 y7 y8) (impl_OpsDo.l0 (k + 1) y0 y1 y2 y3 y4 y5 y6 y7 y8))
 | 0 => fun _ _ _ _ _ _ _ _ _ r h => by simp [impl_OpsDo.l0] at h
 | k + 1 => by
  have ih0 := impl_OpsDo.mono_l k
  ·intro y0 y1 y2 y3 y4 y5 y6 y7 y8
   unfold impl_OpsDo.l0
   repeat' first | (with_reducible first | exact ih0 _ _ _ _ _ _ _ _ _ | exact impl_OpDo.mono _ _ _ _ _ _ _ _ _ | exact impl_ThreeOk.mono _ _ _ _ _ _ | exact LeO.refl _ | exact LeO.none _ | refine LeO.ite ?_ ?_ | refine LeO.bind ?_ (fun _ => ?_)) | exact ih0 _ _ _ _ _ _ _ _ _ | exact impl_OpDo.mono _ _ _ _ _ _ _ _ _ | exact impl_ThreeOk.mono _ _ _ _ _ _ | exact LeO.none _ | refine LeO.ite ?_ ?_ | refine LeO.bind ?_ (fun _ => ?_)
theorem impl_OpsDo.mono : ∀ a0 a1 a2 a3 a4 a5 k, LeO (impl_OpsDo.f k a0 a1 a2 a3 a4 a5) (impl_OpsDo.f (k + 1) a0 a1 a2 a3 a4 a5) := by
 intro a0 a1 a2 a3 a4 a5 k
 have ih0 := impl_OpsDo.mono_l k
 unfold impl_OpsDo.f
 repeat' first | (with_reducible first | exact ih0 _ _ _ _ _ _ _ _ _ | exact impl_OpDo.mono _ _ _ _ _ _ _ _ _ | exact impl_ThreeOk.mono _ _ _ _ _ _ | exact LeO.refl _ | exact LeO.none _ | refine LeO.ite ?_ ?_ | refine LeO.bind ?_ (fun _ => ?_)) | exact ih0 _ _ _ _ _ _ _ _ _ | exact impl_OpDo.mono _ _ _ _ _ _ _ _ _ | exact impl_ThreeOk.mono _ _ _ _ _ _ | exact LeO.none _ | refine LeO.ite ?_ ?_ | refine LeO.bind ?_ (fun _ => ?_)
set_option maxHeartbeats 8000000 in
set_option maxRecDepth 100000 in
theorem impl_OpsDo.calls (k : Nat) (a0_0 : Int) (a0_1 : Int) (A0_2 : Option Addr) (c0_2 : Nat) (l0_2 : List (S95)) (A0_3 : Option Addr) (c0_3 : Nat) (l0_3 : List (S95)) (A0_4 : Option Addr) (c0_4 : Nat) (l0_4 : List Int) (A1 : Option Addr) (c1 : Nat) (l1 : List (S38)) (r1 : Int) (r2 : Int) (r3 : List (S95)) (r4 : List (S95)) (r5 : List Int) (r6 : List (S34)) (w : World) (hr0_2 : Kd.C k95 w A0_2 l0_2.length l0_2) (hc0_2 : l0_2.length ≤ c0_2) (hr0_3 : Kd.C k95 w A0_3 l0_3.length l0_3) (hc0_3 : l0_3.length ≤ c0_3) (hr0_4 : Kd.C (Kd.int .i64) w A0_4 l0_4.length l0_4) (hc0_4 : l0_4.length ≤ c0_4) (hr1 : Kd.C k38 w A1 l1.length l1) (hc1 : l1.length ≤ c1) (h : impl_OpsDo.f k a0_0 a0_1 l0_2 l0_3 l0_4 l1 = some (r1, r2, r3, r4, r5, r6)) :
  Calls Try.prog 19 #[.agg #[.int .i64 a0_0, .int .i64 a0_1, .slice A0_2 l0_2.length c0_2, .slice A0_3 l0_3.length c0_3, .slice A0_4 l0_4.length c0_4], .slice A1 l1.length c1] w fun e w' => ∃ v2_ v3_ v4_ v5_ : Value, e = .returned (.tuple #[.agg #[.int .i64 r1, .int .i64 r2, v2_, v3_, v4_], v5_]) ∧ Mem w [] w' [rowR k95 95 v2_ r3, rowR k95 95 v3_ r4, rowR (Kd.int .i64) 3 v4_ r5, rowR k34 34 v5_ r6] := by
 have hu32 := Try.underlying32
 have hu38 := Try.underlying38
 have hu34 := Try.underlying34
 have HR0_2 := Aside0.mk hr0_2
 have HC0_2 := Aside0.mk hc0_2
 clear hr0_2 hc0_2
 have HR0_3 := Aside0.mk hr0_3
 have HC0_3 := Aside0.mk hc0_3
 clear hr0_3 hc0_3
 have HR0_4 := Aside0.mk hr0_4
 have HC0_4 := Aside0.mk hc0_4
 clear hr0_4 hc0_4
 have HR1 := Aside0.mk hr1
 have HC1 := Aside0.mk hc1
 clear hr1 hc1
 have HM := Mem.nil w
 have H := h
 clear h
 unfold impl_OpsDo.f at H
 go_enter Try.func19, Try.ntmps19
 replace H := BN H; obtain ⟨t1055, A6, H⟩ := H
 go_upto_if 15 with (first | ((with_reducible refine gate_dst (N := 2) rfl ?_); refine pB 2 32 [.int .i64 a0_0, .int .i64 a0_1, .slice A0_2 l0_2.length c0_2, .slice A0_3 l0_3.length c0_3, .slice A0_4 l0_4.length c0_4] HM rfl ?_; clear HM; intro gb1053 w3 HM) | ((with_reducible refine gate_dst (N := 4) rfl ?_); refine pB 4 32 [.int .i64 0, .int .i64 0, .slice none 0 0, .slice none 0 0, .slice none 0 0] HM rfl ?_; clear HM; intro gb1054 w4 HM; obtain ⟨hcz5_0, hcz5_1, hcz5_2, hcz5_3, hcz5_4, hfz5_0, hfz5_1, hfz5_2, hfz5_3, hfz5_4⟩ := bk5 (HM.bx 0 rfl)) | ((with_reducible refine gate_callee (f := 27) rfl ?_); refine pC (some 14) rfl #[.agg #[.int .i64 a0_0, .int .i64 a0_1, .slice A0_2 l0_2.length c0_2, .slice A0_3 l0_3.length c0_3, .slice A0_4 l0_4.length c0_4]] rfl Try.func27 (impl_ThreeOk.calls k a0_0 a0_1 _ _ l0_2 _ _ l0_3 _ _ l0_4 t1055 _ (HM.came HR0_2.out) HC0_2.out (HM.came HR0_3.out) HC0_3.out (HM.came HR0_4.out) HC0_4.out A6.out) ?_; rintro e w7 ⟨rfl, hR⟩; refine ⟨_, rfl, ?_⟩; replace HM := HM.call hR; clear hR))
 replace HM := nzM HM
 replace H := IB H
 rcases H with ⟨c8, H⟩ | ⟨c8, H⟩
 ·subst c8
  replace H := BN H; obtain ⟨⟨t1056, t1057, t1058, t1061, t1064⟩, A10, H⟩ := H
  have H' := Aside0.mk H
  clear H
  obtain ⟨hcz9_0, hcz9_1, hcz9_2, hcz9_3, hcz9_4, hfz9_0, hfz9_1, hfz9_2, hfz9_3, hfz9_4⟩ := bk5 (HM.bx 0 rfl)
  go_wp2_with (first | ((with_reducible refine gate_callee (f := 49) rfl ?_); refine pC (some 18) rfl #[.agg #[.int .i64 a0_0, .int .i64 a0_1, .slice A0_2 l0_2.length c0_2, .slice A0_3 l0_3.length c0_3, .slice A0_4 l0_4.length c0_4]] rfl Try.func49 (impl_copyThree.calls a0_0 a0_1 _ _ l0_2 _ _ l0_3 _ _ l0_4 t1056 t1057 t1058 t1061 t1064 _ (HM.came HR0_2.out) HC0_2.out (HM.came HR0_3.out) HC0_3.out (HM.came HR0_4.out) HC0_4.out A10.out) ?_; rintro e w11 ⟨v1059, v1062, v1065, rfl, hR⟩; refine ⟨_, rfl, ?_⟩; replace HM := HM.call hR; clear hR) | ((with_reducible refine gate_dst (N := 6) rfl ?_); refine pB 6 32 [.int .i64 0, .int .i64 0, .slice none 0 0, .slice none 0 0, .slice none 0 0] HM rfl ?_; clear HM; intro gb1067 w12 HM; obtain ⟨Xo13, ko13, eo13⟩ := HM.rdR 2 rfl; subst eo13; obtain ⟨Xo14, ko14, eo14⟩ := HM.rdR 3 rfl; subst eo14; obtain ⟨Xo15, ko15, eo15⟩ := HM.rdR 4 rfl; subst eo15) | ((with_reducible refine gate_st (p := 6) rfl ?_); refine pS 5 6 0 [.int .i64 t1056, .int .i64 t1057, .slice Xo13 t1058.length ko13, .slice Xo14 t1061.length ko14, .slice Xo15 t1064.length ko15] HM rfl rfl ?_; clear HM; intro w16 HM) | ((with_reducible refine gate_dst (N := 19) rfl ?_); refine pL 19 k34 34 ([] : List (S34)) [] (Reps.none _ _) HM rfl ?_; clear HM; intro v1069 w17 HM))
  go_loopg [7, 22] k (fun kq v7 v22 w' => ∃ (x7_1 : List (S34)) (x22_1 : Int) (x1068000_1 : Int) (x1068001_1 : Int) (x1068002_1 : List (S95)) (x1068003_1 : List (S95)) (x1068004_1 : List Int) (u1068002 : Value) (u1068003 : Value) (u1068004 : Value), v22 = .int .i64 x22_1 ∧ Aside0 (impl_OpsDo.l0 kq x7_1 l1 (l1.length : Int) x22_1 x1068000_1 x1068001_1 x1068002_1 x1068003_1 x1068004_1 = some (r1, r2, r3, r4, r5, r6)) ∧ Aside0 (kq ≤ k) ∧ Mem w [] w' [rowR k34 34 v7 x7_1, rowR k95 95 u1068002 x1068002_1, rowR k95 95 u1068003 x1068003_1, rowR (Kd.int .i64) 3 u1068004 x1068004_1, box 32 gb1053 [.int .i64 a0_0, .int .i64 a0_1, .slice A0_2 l0_2.length c0_2, .slice A0_3 l0_3.length c0_3, .slice A0_4 l0_4.length c0_4], box 32 gb1054 [.int .i64 0, .int .i64 0, .slice none 0 0, .slice none 0 0, .slice none 0 0], box 32 gb1067 [.int .i64 x1068000_1, .int .i64 x1068001_1, u1068002, u1068003, u1068004]])
  case atStart => exact ⟨((([] : List (S34)))), (0), (t1056), (t1057), (t1058), (t1061), (t1064), (.slice Xo13 t1058.length ko13), (.slice Xo14 t1061.length ko14), (.slice Xo15 t1064.length ko15), RS, H', ⟨Nat.le_refl _⟩, (MD HM).pick [6, 2, 3, 4, 0, 1, 5]⟩
  case round =>
   clear H' HM
   obtain ⟨x7_1, x22_1, x1068000_1, x1068001_1, x1068002_1, x1068003_1, x1068004_1, u1068002, u1068003, u1068004, rfl, HA, HK1, HM⟩ := hrel
   cases gk with
   | zero => exact absurd HA.out (by simp [impl_OpsDo.l0])
   | succ k1 =>
    have H := HA.out
    clear HA
    simp only [impl_OpsDo.l0] at H
    go_upto_if 23 with (fail)
    replace H := IT H; rcases H with ⟨c18, H⟩ | ⟨c18, H⟩
    ·have c18b0 : decide (x22_1 < (l1.length : Int)) = true := decide_eq_true c18
     clear c18
     (first | rw [c18b0] | (simp only [i64_w, i32_w]; rw [c18b0]) | skip)
     replace H := GD H; obtain ⟨c19, H⟩ := H
     have c19b0 : decide (0 ≤ x22_1) = true := decide_eq_true c19
     clear c19
     replace H := GD H; obtain ⟨c20, H⟩ := H
     have c20b0 : decide (x22_1 < (l1.length : Int)) = true := decide_eq_true c20
     clear c20
     replace H := BN H; obtain ⟨⟨t1073, t1074, t1075, t1078, t1081, t1084, t1085, t1086, t1087⟩, A25, H⟩ := H
     have p1071 : 0 ≤ (x22_1 : Int) := of_decide_eq_true AS
     have q1071 : (x22_1 : Int) < (l1.length : Int) := of_decide_eq_true AS
     obtain ⟨ad1071, e1071, hx1071_0, hx1071_1, hx1071_2⟩ := at_T38 (HM.came HR1.out) x22_1 p1071 q1071
     cases e1071
     replace p1071 := eq_true p1071
     replace q1071 := eq_true q1071
     go_upto_if 34 with (first | ((with_reducible refine gate_dst (N := 9) rfl ?_); refine pB 9 38 [.int .i64 0, .string (⟨#[]⟩ : ByteArray), .string (⟨#[]⟩ : ByteArray)] HM rfl ?_; clear HM; intro gb1072 w21 HM) | ((with_reducible refine gate_st (p := 9) rfl ?_); refine pS 7 9 0 [.int .i64 ((rd_T38 l1 x22_1).f0), .string ((rd_T38 l1 x22_1).f1), .string ((rd_T38 l1 x22_1).f2)] HM rfl rfl ?_; clear HM; intro w22 HM; obtain ⟨hcz23_0, hcz23_1, hcz23_2, hcz23_3, hcz23_4, hfz23_0, hfz23_1, hfz23_2, hfz23_3, hfz23_4⟩ := bk5 (HM.bx 6 rfl); obtain ⟨hcz24_0, hcz24_1, hcz24_2, hfz24_0, hfz24_1, hfz24_2⟩ := bk3 (HM.bx 7 rfl); obtain ⟨Xo27, ko27, eo27⟩ := HM.rdR 1 rfl; subst eo27; obtain ⟨Xo28, ko28, eo28⟩ := HM.rdR 2 rfl; subst eo28; obtain ⟨Xo29, ko29, eo29⟩ := HM.rdR 3 rfl; subst eo29) | ((with_reducible refine gate_callee (f := 11) rfl ?_); refine pC (some 29) rfl #[.agg #[.int .i64 x1068000_1, .int .i64 x1068001_1, .slice Xo27 x1068002_1.length ko27, .slice Xo28 x1068003_1.length ko28, .slice Xo29 x1068004_1.length ko29], .agg #[.int .i64 ((rd_T38 l1 x22_1).f0), .string ((rd_T38 l1 x22_1).f1), .string ((rd_T38 l1 x22_1).f2)]] rfl Try.func11 (impl_OpDo.calls k1 x1068000_1 x1068001_1 _ _ x1068002_1 _ _ x1068003_1 _ _ x1068004_1 ((rd_T38 l1 x22_1).f0) ((rd_T38 l1 x22_1).f1) ((rd_T38 l1 x22_1).f2) t1073 t1074 t1075 t1078 t1081 t1084 t1085 t1086 t1087 _ (HM.CR 1 rfl).2.2 (HM.CR 1 rfl).2.1 (HM.CR 2 rfl).2.2 (HM.CR 2 rfl).2.1 (HM.CR 3 rfl).2.2 (HM.CR 3 rfl).2.1 A25.out) ?_; rintro e w26 ⟨v1076, v1079, v1082, rfl, hR⟩; refine ⟨_, rfl, ?_⟩; replace HM := HM.call hR; clear hR) | ((with_reducible refine gate_dst (N := 10) rfl ?_); refine pB 10 32 [.int .i64 0, .int .i64 0, .slice none 0 0, .slice none 0 0, .slice none 0 0] HM rfl ?_; clear HM; intro gb1088 w30 HM) | ((with_reducible refine gate_dst (N := 11) rfl ?_); refine pB 11 34 [.bool false, .string (⟨#[]⟩ : ByteArray), .string (⟨#[]⟩ : ByteArray)] HM rfl ?_; clear HM; intro gb1089 w31 HM; obtain ⟨Xo32, ko32, eo32⟩ := HM.rdR 8 rfl; subst eo32; obtain ⟨Xo33, ko33, eo33⟩ := HM.rdR 9 rfl; subst eo33; obtain ⟨Xo34, ko34, eo34⟩ := HM.rdR 10 rfl; subst eo34) | ((with_reducible refine gate_st (p := 10) rfl ?_); refine pS 11 10 0 [.int .i64 t1073, .int .i64 t1074, .slice Xo32 t1075.length ko32, .slice Xo33 t1078.length ko33, .slice Xo34 t1081.length ko34] HM rfl rfl ?_; clear HM; intro w35 HM) | ((with_reducible refine gate_st (p := 11) rfl ?_); refine pS 12 11 0 [.bool t1084, .string t1085, .string t1086] HM rfl rfl ?_; clear HM; intro w36 HM))
     replace HM := nzM HM
     replace H := IB H
     rcases H with ⟨c37, H⟩ | ⟨c37, H⟩
     ·subst c37
      replace H := GD H; obtain ⟨c41, H⟩ := H
      have LMc41 := Aside0.mk c41
      clear c41
      have H' := Aside0.mk H
      clear H
      obtain ⟨hcz38_0, hcz38_1, hcz38_2, hcz38_3, hcz38_4, hfz38_0, hfz38_1, hfz38_2, hfz38_3, hfz38_4⟩ := bk5 (HM.bx 11 rfl)
      go_wp2_with (first | ((with_reducible refine gate_st (p := 6) rfl ?_); refine pS 6 6 0 [.int .i64 t1073, .int .i64 t1074, .slice Xo32 t1075.length ko32, .slice Xo33 t1078.length ko33, .slice Xo34 t1081.length ko34] HM rfl rfl ?_; clear HM; intro w39 HM; obtain ⟨hcz40_0, hcz40_1, hcz40_2, hfz40_0, hfz40_1, hfz40_2⟩ := bk3 (HM.bx 12 rfl)) | ((with_reducible refine gate_dst (N := 38) rfl ?_); refine pL 38 k34 34 [(⟨t1084, t1085, t1086⟩ : S34)] [.bool t1084, .string t1085, .string t1086] (Reps.c3 (show Kd.M k34 _ _ _ (⟨t1084, t1085, t1086⟩ : S34) [.bool t1084, .string t1085, .string t1086] from (k34_mkM _ _ _ (⟨t1084, t1085, t1086⟩ : S34))) (Reps.none _ _)) HM rfl ?_; clear HM; intro v43 w42 HM; obtain ⟨Xv43, kv43, ev43⟩ := HM.rdR 13 rfl; subst ev43) | ((with_reducible refine gate_builtin (b := .append) (xs := #[.tmp 36, .tmp 38]) rfl ?_); refine pA 0 (.tmp 36) (.tmp 38) 46 34 k34 u7 x7_1 [(⟨t1084, t1085, t1086⟩ : S34)] Xv43 ([(⟨t1084, t1085, t1086⟩ : S34)].length) kv43 HM rfl Try.underlying46 info34 rfl (HM.CR 13 rfl).2.2 (by have h_ := LMc41.out; simp only [List.length_singleton]; omega) ?_; clear HM; intro v1091 w44 HM))
      go_roundg k1
      case measure => have := HK1.out; omega
      case rel => exact ⟨((x7_1 ++ [(⟨t1084, t1085, t1086⟩ : S34)])), (wrap64 (x22_1 + 1)), (t1073), (t1074), (t1075), (t1078), (t1081), (.slice Xo32 t1075.length ko32), (.slice Xo33 t1078.length ko33), (.slice Xo34 t1081.length ko34), RS, H', ⟨by have := HK1.out; omega⟩, (MD HM).pick [0, 8, 9, 10, 4, 5, 6]⟩
     ·subst c37
      simp only [Option.some.injEq, Prod.mk.injEq] at H
      obtain ⟨rfl, rfl, rfl, rfl, rfl, rfl⟩ := H
      obtain ⟨hcz45_0, hcz45_1, hcz45_2, hcz45_3, hcz45_4, hfz45_0, hfz45_1, hfz45_2, hfz45_3, hfz45_4⟩ := bk5 (HM.bx 6 rfl)
      go_wp2_with (first | ((with_reducible refine gate_st (p := 4) rfl ?_); refine pS 5 4 0 [.int .i64 x1068000_1, .int .i64 x1068001_1, .slice Xo27 x1068002_1.length ko27, .slice Xo28 x1068003_1.length ko28, .slice Xo29 x1068004_1.length ko29] HM rfl rfl ?_; clear HM; intro w46 HM))
      refine bodyPost_ret (results_ct rfl _ _ gb1054 32 #[.int .i64 x1068000_1, .int .i64 x1068001_1, .slice Xo27 x1068002_1.length ko27, .slice Xo28 x1068003_1.length ko28, .slice Xo29 x1068004_1.length ko29] (0, 0) _ rfl (HM.bx 5 rfl) Try.underlying32 rfl (by kernel_rfl)) rfl ?_
      exact ⟨_, _, _, _, ER, (MD HM).pick [1, 2, 3, 0]⟩
    ·have c18b0 : decide (x22_1 < (l1.length : Int)) = false := decide_eq_false c18
     clear c18
     (first | rw [c18b0] | (simp only [i64_w, i32_w]; rw [c18b0]) | skip)
     simp only [Option.some.injEq, Prod.mk.injEq] at H
     obtain ⟨rfl, rfl, rfl, rfl, rfl, rfl⟩ := H
     obtain ⟨hcz47_0, hcz47_1, hcz47_2, hcz47_3, hcz47_4, hfz47_0, hfz47_1, hfz47_2, hfz47_3, hfz47_4⟩ := bk5 (HM.bx 6 rfl)
     obtain ⟨Xo48, ko48, eo48⟩ := HM.rdR 1 rfl
     subst eo48
     obtain ⟨Xo49, ko49, eo49⟩ := HM.rdR 2 rfl
     subst eo49
     obtain ⟨Xo50, ko50, eo50⟩ := HM.rdR 3 rfl
     subst eo50
     go_wp2_with (first | ((with_reducible refine gate_st (p := 4) rfl ?_); refine pS 5 4 0 [.int .i64 x1068000_1, .int .i64 x1068001_1, .slice Xo48 x1068002_1.length ko48, .slice Xo49 x1068003_1.length ko49, .slice Xo50 x1068004_1.length ko50] HM rfl rfl ?_; clear HM; intro w51 HM))
     refine bodyPost_ret (results_ct rfl _ _ gb1054 32 #[.int .i64 x1068000_1, .int .i64 x1068001_1, .slice Xo48 x1068002_1.length ko48, .slice Xo49 x1068003_1.length ko49, .slice Xo50 x1068004_1.length ko50] (0, 0) _ rfl (HM.bx 5 rfl) Try.underlying32 rfl (by kernel_rfl)) rfl ?_
     exact ⟨_, _, _, _, ER, (MD HM).pick [1, 2, 3, 0]⟩
 ·subst c8
  simp only [Option.some.injEq, Prod.mk.injEq] at H
  obtain ⟨rfl, rfl, rfl, rfl, rfl, rfl⟩ := H
  go_wp2_with (first | ((with_reducible refine gate_st (p := 4) rfl ?_); refine pS 1 4 0 [.int .i64 0, .int .i64 0, .slice none 0 0, .slice none 0 0, .slice none 0 0] HM rfl rfl ?_; clear HM; intro w52 HM; replace HM := HM.nl k95 95; replace HM := HM.nl k95 95; replace HM := HM.nl (Kd.int .i64) 3; replace HM := HM.nl k34 34))
  refine bodyPost_ret (results_ct rfl _ _ gb1054 32 #[.int .i64 0, .int .i64 0, .slice none 0 0, .slice none 0 0, .slice none 0 0] (0, 0) _ rfl (HM.bx 1 rfl) Try.underlying32 rfl (by kernel_rfl)) rfl ?_
  exact ⟨_, _, _, _, ER, (MD HM).pick [2, 3, 4, 5]⟩
def laws_eqReply.f (a0_0 : Bool) (a0_1 : ByteArray) (a0_2 : ByteArray) (a1_0 : Bool) (a1_1 : ByteArray) (a1_2 : ByteArray) : Option (Bool) := if (a0_0 != a1_0) = true then (none) else (if a0_1.toList = a1_1.toList then (if a0_2.toList = a1_2.toList then (some true) else (none)) else (none))
set_option maxHeartbeats 8000000 in
set_option maxRecDepth 100000 in
theorem laws_eqReply.calls (a0_0 : Bool) (a0_1 : ByteArray) (a0_2 : ByteArray) (a1_0 : Bool) (a1_1 : ByteArray) (a1_2 : ByteArray) (r : Bool) (w : World)  (h : laws_eqReply.f a0_0 a0_1 a0_2 a1_0 a1_1 a1_2 = some r) :
  Calls Try.prog 13 #[.agg #[.bool a0_0, .string a0_1, .string a0_2], .agg #[.bool a1_0, .string a1_1, .string a1_2]] w fun e w' => e = .returned (.bool r) ∧ Mem w [] w' [] := by
 have hu34 := Try.underlying34
 have HM := Mem.nil w
 have H := h
 clear h
 unfold laws_eqReply.f at H
 go_enter Try.func13, Try.ntmps13
 replace H := GN H; obtain ⟨c7, H⟩ := H
 have c7b0 : (a0_0 != a1_0) = false := by simpa using c7
 (try (have c7b1 : decide (a0_0 = a1_0) = true := by simpa using c7))
 (try (have c7b2 : (a0_0 == a1_0) = true := by simpa using c7))
 have c7b8 := c7
 try simp at c7b8
 clear c7
 replace H := GD H; obtain ⟨c8, H⟩ := H
 have c8b0 : (a0_1.toList == a1_1.toList) = true := beq_iff_eq.mpr c8
 have c8b1 : (a0_1.toList != a1_1.toList) = false := bne_eq_false_iff_eq.mpr c8
 clear c8
 replace H := GD H; obtain ⟨c9, H⟩ := H
 have c9b0 : (a0_2.toList == a1_2.toList) = true := beq_iff_eq.mpr c9
 have c9b1 : (a0_2.toList != a1_2.toList) = false := bne_eq_false_iff_eq.mpr c9
 clear c9
 obtain rfl := Option.some.inj H
 go_wp2_with (first | ((with_reducible refine gate_dst (N := 2) rfl ?_); refine pB 2 34 [.bool a0_0, .string a0_1, .string a0_2] HM rfl ?_; clear HM; intro gb844 w3 HM) | ((with_reducible refine gate_dst (N := 3) rfl ?_); refine pB 3 34 [.bool a1_0, .string a1_1, .string a1_2] HM rfl ?_; clear HM; intro gb845 w4 HM; obtain ⟨hcz5_0, hcz5_1, hcz5_2, hfz5_0, hfz5_1, hfz5_2⟩ := bk3 (HM.bx 0 rfl); obtain ⟨hcz6_0, hcz6_1, hcz6_2, hfz6_0, hfz6_1, hfz6_2⟩ := bk3 (HM.bx 1 rfl)))
 go_ret
 exact ⟨ER, (MD HM).pick []⟩
def laws_eqReplyS.l0 : Nat → List (S34) → List (S34) → Int → Option (Bool)
 | 0, _, _, _ => none
 | k + 1, x0, x1, x5 => if x5 < (x0.length : Int) then (if 0 ≤ x5 then (if x5 < (x1.length : Int) then ((laws_eqReply.f ((rd_T34 x0 x5).f0) ((rd_T34 x0 x5).f1) ((rd_T34 x0 x5).f2) ((rd_T34 x1 x5).f0) ((rd_T34 x1 x5).f1) ((rd_T34 x1 x5).f2)).bind fun t1099 => (if t1099 = true then (laws_eqReplyS.l0 k x0 x1 (wrap64 (x5 + 1))) else (none))) else (none)) else (none)) else (some true)
def laws_eqReplyS.f (k : Nat) (l0 : List (S34)) (l1 : List (S34)) : Option (Bool) := if (l0.length : Int) = (l1.length : Int) then (laws_eqReplyS.l0 k l0 l1 0) else (none)
theorem laws_eqReplyS.mono_l : ∀ k, (∀ y0 y1 y2, LeO (laws_eqReplyS.l0 k y0 y1 y2) (laws_eqReplyS.l0 (k + 1) y0 y1 y2))
 | 0 => fun _ _ _ r h => by simp [laws_eqReplyS.l0] at h
 | k + 1 => by
  have ih0 := laws_eqReplyS.mono_l k
  ·intro y0 y1 y2
   unfold laws_eqReplyS.l0
   repeat' first | (with_reducible first | exact ih0 _ _ _ | exact LeO.refl _ | exact LeO.none _ | refine LeO.ite ?_ ?_ | refine LeO.bind ?_ (fun _ => ?_)) | exact ih0 _ _ _ | exact LeO.none _ | refine LeO.ite ?_ ?_ | refine LeO.bind ?_ (fun _ => ?_)
theorem laws_eqReplyS.mono : ∀ a0 a1 k, LeO (laws_eqReplyS.f k a0 a1) (laws_eqReplyS.f (k + 1) a0 a1) := by
 intro a0 a1 k
 have ih0 := laws_eqReplyS.mono_l k
 unfold laws_eqReplyS.f
 repeat' first | (with_reducible first | exact ih0 _ _ _ | exact LeO.refl _ | exact LeO.none _ | refine LeO.ite ?_ ?_ | refine LeO.bind ?_ (fun _ => ?_)) | exact ih0 _ _ _ | exact LeO.none _ | refine LeO.ite ?_ ?_ | refine LeO.bind ?_ (fun _ => ?_)
def laws_eqReplyS.T6 : Bool × List (List Nat × List Nat) := (true, [([], []), ([], []), ([0, 1], [0, 1]), ([2], [2]), ([], []), ([], []), ([4, 5], [4, 5]), ([6], [6]), ([3, 7], [3, 7]), ([8], [8])])
def laws_eqReplyS.B6 : List Nat := [0, 0, 3, 7, 0, 0, 48, 112, 255, 511]
theorem laws_eqReplyS.tab6 : rtab .any (opsOf Try.f20 6) = laws_eqReplyS.T6 := by kernel_rfl
theorem laws_eqReplyS.bits6 : waitsOk laws_eqReplyS.T6.2 laws_eqReplyS.B6 = true := by kernel_rfl
set_option maxHeartbeats 8000000 in
set_option maxRecDepth 100000 in
theorem laws_eqReplyS.calls (k : Nat) (A0 : Option Addr) (c0 : Nat) (l0 : List (S34)) (A1 : Option Addr) (c1 : Nat) (l1 : List (S34)) (r : Bool) (w : World) (hr0 : Kd.C k34 w A0 l0.length l0) (hc0 : l0.length ≤ c0) (hr1 : Kd.C k34 w A1 l1.length l1) (hc1 : l1.length ≤ c1) (h : laws_eqReplyS.f k l0 l1 = some r) :
  Calls Try.prog 20 #[.slice A0 l0.length c0, .slice A1 l1.length c1] w fun e w' => e = .returned (.bool r) ∧ Mem w [] w' [] := by
 have hu34 := Try.underlying34
 have HR0 := Aside0.mk hr0
 have HC0 := Aside0.mk hc0
 clear hr0 hc0
 have HR1 := Aside0.mk hr1
 have HC1 := Aside0.mk hc1
 clear hr1 hc1
 have HM := Mem.nil w
 have H := h
 clear h
 unfold laws_eqReplyS.f at H
 go_enter Try.func20, Try.ntmps20
 replace H := GD H; obtain ⟨c3, H⟩ := H
 have c3b0 : ((l0.length : Int) == (l1.length : Int)) = true := beq_iff_eq.mpr c3
 have c3b1 : ((l0.length : Int) != (l1.length : Int)) = false := bne_eq_false_iff_eq.mpr c3
 have c3b2 : (l0.length == l1.length) = true := by first | simpa using c3 | (simp at c3 ⊢; omega)
 clear c3
 have H' := Aside0.mk H
 clear H
 go_wp2
 go_loopg [5] k (fun kq v5 w' => ∃ (x5_1 : Int), v5 = .int .i64 x5_1 ∧ Aside0 (laws_eqReplyS.l0 kq l0 l1 x5_1 = some r) ∧ Aside0 (kq ≤ k) ∧ Mem w [] w' [])
 case atStart => exact ⟨(0), RS, H', ⟨Nat.le_refl _⟩, (MD HM).pick []⟩
 case round =>
  clear H' HM
  obtain ⟨x5_1, rfl, HA, HK1, HM⟩ := hrel
  cases gk with
  | zero => exact absurd HA.out (by simp [laws_eqReplyS.l0])
  | succ k1 =>
   have H := HA.out
   clear HA
   simp only [laws_eqReplyS.l0] at H
   go_upto_if 14 with (fail)
   replace H := IT H; rcases H with ⟨c4, H⟩ | ⟨c4, H⟩
   ·have c4b0 : decide (x5_1 < (l0.length : Int)) = true := decide_eq_true c4
    clear c4
    (first | rw [c4b0] | (simp only [i64_w, i32_w]; rw [c4b0]) | skip)
    try go_wp2
    replace H := GD H; obtain ⟨c5, H⟩ := H
    have c5b0 : decide (0 ≤ x5_1) = true := decide_eq_true c5
    clear c5
    replace H := GD H; obtain ⟨c6, H⟩ := H
    have c6b0 : decide (x5_1 < (l1.length : Int)) = true := decide_eq_true c6
    clear c6
    replace H := BN H; obtain ⟨t1099, A7, H⟩ := H
    have p1097 : 0 ≤ (x5_1 : Int) := of_decide_eq_true AS
    have q1097 : (x5_1 : Int) < (l0.length : Int) := of_decide_eq_true AS
    obtain ⟨ad1097, e1097, hx1097_0, hx1097_1, hx1097_2⟩ := at_T34 (HM.came HR0.out) x5_1 p1097 q1097
    cases e1097
    replace p1097 := eq_true p1097
    replace q1097 := eq_true q1097
    have p1098 : 0 ≤ (x5_1 : Int) := of_decide_eq_true AS
    have q1098 : (x5_1 : Int) < (l1.length : Int) := of_decide_eq_true AS
    obtain ⟨ad1098, e1098, hx1098_0, hx1098_1, hx1098_2⟩ := at_T34 (HM.came HR1.out) x5_1 p1098 q1098
    cases e1098
    replace p1098 := eq_true p1098
    replace q1098 := eq_true q1098
    refine RGN 10 [0, 1, 2, 3, 4, 5, 6, 7, 8, 9] (fun a0 b a w' => a = putSel a0 b [(0, 17, .slice (some ad1097) l0.length c0), (1, 18, .int .i64 x5_1), (2, 19, .pointer (some (ad1097.add ((x5_1).toNat * 3)))), (3, 20, .agg #[.bool ((rd_T34 l0 x5_1).f0), .string ((rd_T34 l0 x5_1).f1), .string ((rd_T34 l0 x5_1).f2)]), (4, 21, .slice (some ad1098) l1.length c1), (5, 22, .int .i64 x5_1), (6, 23, .pointer (some (ad1098.add ((x5_1).toNat * 3)))), (7, 24, .agg #[.bool ((rd_T34 l1 x5_1).f0), .string ((rd_T34 l1 x5_1).f1), .string ((rd_T34 l1 x5_1).f2)]), (8, 25, .bool t1099), (9, 26, .bool (!t1099))] ∧ Mem w [] w' []) laws_eqReplyS.tab6 laws_eqReplyS.bits6 ?_ ?_ ?_
    ·exact ⟨PS0' rfl _, (HM.drew).pick []⟩
    ·clear HM
     refine steps_cons ?_ ?_
     ·rintro b a w ⟨ha, HM⟩ hb hon hoff
      refine ⟨_, rfl, fun K hK => ?_⟩
      have e0 := POF ha 0
      replace ha := Aside0.mk ha
      exact VL (.slice (some ad1097) l0.length c0) (hK.out _ _ ⟨PUT ha 0 hb, HM⟩)
     refine steps_cons ?_ ?_
     ·rintro b a w ⟨ha, HM⟩ hb hon hoff
      refine ⟨_, rfl, fun K hK => ?_⟩
      have e5 := POF ha 5
      replace ha := Aside0.mk ha
      exact VL (.int .i64 x5_1) (hK.out _ _ ⟨PUT ha 1 hb, HM⟩)
     refine steps_cons ?_ ?_
     ·rintro b a w ⟨ha, HM⟩ hb hon hoff
      refine ⟨_, rfl, fun K hK => ?_⟩
      have p1097 : 0 ≤ (x5_1 : Int) := of_decide_eq_true AS
      have q1097 : (x5_1 : Int) < (l0.length : Int) := of_decide_eq_true AS
      obtain ⟨ad1097, e1097, hx1097_0, hx1097_1, hx1097_2⟩ := at_T34 (HM.came HR0.out) x5_1 p1097 q1097
      obtain rfl := Option.some.inj e1097
      replace p1097 := eq_true p1097
      replace q1097 := eq_true q1097
      have e17 := PON ha 0 (hon 0 (by kernel_rfl))
      have e18 := PON ha 1 (hon 1 (by kernel_rfl))
      replace ha := Aside0.mk ha
      exact VL (.pointer (some (ad1097.add ((x5_1).toNat * 3)))) (hK.out _ _ ⟨PUT ha 2 hb, HM⟩)
     refine steps_cons ?_ ?_
     ·rintro b a w ⟨ha, HM⟩ hb hon hoff
      refine ⟨_, rfl, fun K hK => ?_⟩
      have p1097 : 0 ≤ (x5_1 : Int) := of_decide_eq_true AS
      have q1097 : (x5_1 : Int) < (l0.length : Int) := of_decide_eq_true AS
      obtain ⟨ad1097, e1097, hx1097_0, hx1097_1, hx1097_2⟩ := at_T34 (HM.came HR0.out) x5_1 p1097 q1097
      obtain rfl := Option.some.inj e1097
      replace p1097 := eq_true p1097
      replace q1097 := eq_true q1097
      have e19 := PON ha 2 (hon 2 (by kernel_rfl))
      replace ha := Aside0.mk ha
      exact VL (.agg #[.bool ((rd_T34 l0 x5_1).f0), .string ((rd_T34 l0 x5_1).f1), .string ((rd_T34 l0 x5_1).f2)]) (hK.out _ _ ⟨PUT ha 3 hb, HM⟩)
     refine steps_cons ?_ ?_
     ·rintro b a w ⟨ha, HM⟩ hb hon hoff
      refine ⟨_, rfl, fun K hK => ?_⟩
      have e1 := POF ha 1
      replace ha := Aside0.mk ha
      exact VL (.slice (some ad1098) l1.length c1) (hK.out _ _ ⟨PUT ha 4 hb, HM⟩)
     refine steps_cons ?_ ?_
     ·rintro b a w ⟨ha, HM⟩ hb hon hoff
      refine ⟨_, rfl, fun K hK => ?_⟩
      have e5 := POF ha 5
      replace ha := Aside0.mk ha
      exact VL (.int .i64 x5_1) (hK.out _ _ ⟨PUT ha 5 hb, HM⟩)
     refine steps_cons ?_ ?_
     ·rintro b a w ⟨ha, HM⟩ hb hon hoff
      refine ⟨_, rfl, fun K hK => ?_⟩
      have p1098 : 0 ≤ (x5_1 : Int) := of_decide_eq_true AS
      have q1098 : (x5_1 : Int) < (l1.length : Int) := of_decide_eq_true AS
      obtain ⟨ad1098, e1098, hx1098_0, hx1098_1, hx1098_2⟩ := at_T34 (HM.came HR1.out) x5_1 p1098 q1098
      obtain rfl := Option.some.inj e1098
      replace p1098 := eq_true p1098
      replace q1098 := eq_true q1098
      have e21 := PON ha 4 (hon 4 (by kernel_rfl))
      have e22 := PON ha 5 (hon 5 (by kernel_rfl))
      replace ha := Aside0.mk ha
      exact VL (.pointer (some (ad1098.add ((x5_1).toNat * 3)))) (hK.out _ _ ⟨PUT ha 6 hb, HM⟩)
     refine steps_cons ?_ ?_
     ·rintro b a w ⟨ha, HM⟩ hb hon hoff
      refine ⟨_, rfl, fun K hK => ?_⟩
      have p1098 : 0 ≤ (x5_1 : Int) := of_decide_eq_true AS
      have q1098 : (x5_1 : Int) < (l1.length : Int) := of_decide_eq_true AS
      obtain ⟨ad1098, e1098, hx1098_0, hx1098_1, hx1098_2⟩ := at_T34 (HM.came HR1.out) x5_1 p1098 q1098
      obtain rfl := Option.some.inj e1098
      replace p1098 := eq_true p1098
      replace q1098 := eq_true q1098
      have e23 := PON ha 6 (hon 6 (by kernel_rfl))
      replace ha := Aside0.mk ha
      exact VL (.agg #[.bool ((rd_T34 l1 x5_1).f0), .string ((rd_T34 l1 x5_1).f1), .string ((rd_T34 l1 x5_1).f2)]) (hK.out _ _ ⟨PUT ha 7 hb, HM⟩)
     refine steps_cons ?_ ?_
     ·rintro b a w ⟨ha, HM⟩ hb hon hoff
      refine ⟨_, rfl, fun K hK => ?_⟩
      have e20 := PON ha 3 (hon 3 (by kernel_rfl))
      have e24 := PON ha 7 (hon 7 (by kernel_rfl))
      replace ha := Aside0.mk ha
      refine ST (eC (some 25) rfl #[.agg #[.bool ((rd_T34 l0 x5_1).f0), .string ((rd_T34 l0 x5_1).f1), .string ((rd_T34 l0 x5_1).f2)], .agg #[.bool ((rd_T34 l1 x5_1).f0), .string ((rd_T34 l1 x5_1).f1), .string ((rd_T34 l1 x5_1).f2)]] rfl Try.func13 (laws_eqReply.calls ((rd_T34 l0 x5_1).f0) ((rd_T34 l0 x5_1).f1) ((rd_T34 l0 x5_1).f2) ((rd_T34 l1 x5_1).f0) ((rd_T34 l1 x5_1).f1) ((rd_T34 l1 x5_1).f2) t1099 _ A7.out) ?_ (hargs := by (simp only [List.map_toArray, List.map_cons, List.map_nil, evc, eval_of e20, eval_of e24]) <;> rfl))
      rintro e w9 ⟨rfl, hR⟩
      refine ⟨_, rfl, ?_⟩
      replace HM := HM.call hR
      clear hR
      exact hK.out _ _ ⟨PUT ha 8 hb, (HM).pick []⟩
     refine steps_cons ?_ ?_
     ·rintro b a w ⟨ha, HM⟩ hb hon hoff
      refine ⟨_, rfl, fun K hK => ?_⟩
      have e25 := PON ha 8 (hon 8 (by kernel_rfl))
      replace ha := Aside0.mk ha
      exact VL (.bool (!t1099)) (hK.out _ _ ⟨PUT ha 9 hb, HM⟩)
     exact steps_nil
    rintro _ w10 ⟨rfl, HM⟩
    simp only [putSel, if_true, Act.put, List.setIfInBounds_toArray, List.set_cons_zero, List.set_cons_succ, gt_iff_lt, ge_iff_le]
    replace H := GD H
    obtain ⟨c11, H⟩ := H
    subst c11
    have H' := Aside0.mk H
    clear H
    go_wp2
    go_roundg k1
    case measure => have := HK1.out; omega
    case rel => exact ⟨(wrap64 (x5_1 + 1)), RS, H', ⟨by have := HK1.out; omega⟩, (MD HM).pick []⟩
   ·have c4b0 : decide (x5_1 < (l0.length : Int)) = false := decide_eq_false c4
    clear c4
    (first | rw [c4b0] | (simp only [i64_w, i32_w]; rw [c4b0]) | skip)
    obtain rfl := Option.some.inj H
    go_wp2
    go_ret
    exact ⟨ER, (MD HM).pick []⟩
def laws_eqOp.f (a0_0 : Int) (a0_1 : ByteArray) (a0_2 : ByteArray) (a1_0 : Int) (a1_1 : ByteArray) (a1_2 : ByteArray) : Option (Bool) := if a0_0 = a1_0 then (if a0_1.toList = a1_1.toList then (if a0_2.toList = a1_2.toList then (some true) else (none)) else (none)) else (none)
set_option maxHeartbeats 8000000 in
set_option maxRecDepth 100000 in
theorem laws_eqOp.calls (a0_0 : Int) (a0_1 : ByteArray) (a0_2 : ByteArray) (a1_0 : Int) (a1_1 : ByteArray) (a1_2 : ByteArray) (r : Bool) (w : World)  (h : laws_eqOp.f a0_0 a0_1 a0_2 a1_0 a1_1 a1_2 = some r) :
  Calls Try.prog 50 #[.agg #[.int .i64 a0_0, .string a0_1, .string a0_2], .agg #[.int .i64 a1_0, .string a1_1, .string a1_2]] w fun e w' => e = .returned (.bool r) ∧ Mem w [] w' [] := by
 have hu38 := Try.underlying38
 have HM := Mem.nil w
 have H := h
 clear h
 unfold laws_eqOp.f at H
 go_enter Try.func50, Try.ntmps50
 replace H := GD H; obtain ⟨c7, H⟩ := H
 have c7b0 : (a0_0 == a1_0) = true := beq_iff_eq.mpr c7
 have c7b1 : (a0_0 != a1_0) = false := bne_eq_false_iff_eq.mpr c7
 clear c7
 replace H := GD H; obtain ⟨c8, H⟩ := H
 have c8b0 : (a0_1.toList == a1_1.toList) = true := beq_iff_eq.mpr c8
 have c8b1 : (a0_1.toList != a1_1.toList) = false := bne_eq_false_iff_eq.mpr c8
 clear c8
 replace H := GD H; obtain ⟨c9, H⟩ := H
 have c9b0 : (a0_2.toList == a1_2.toList) = true := beq_iff_eq.mpr c9
 have c9b1 : (a0_2.toList != a1_2.toList) = false := bne_eq_false_iff_eq.mpr c9
 clear c9
 obtain rfl := Option.some.inj H
 go_wp2_with (first | ((with_reducible refine gate_dst (N := 2) rfl ?_); refine pB 2 38 [.int .i64 a0_0, .string a0_1, .string a0_2] HM rfl ?_; clear HM; intro gb1100 w3 HM) | ((with_reducible refine gate_dst (N := 3) rfl ?_); refine pB 3 38 [.int .i64 a1_0, .string a1_1, .string a1_2] HM rfl ?_; clear HM; intro gb1101 w4 HM; obtain ⟨hcz5_0, hcz5_1, hcz5_2, hfz5_0, hfz5_1, hfz5_2⟩ := bk3 (HM.bx 0 rfl); obtain ⟨hcz6_0, hcz6_1, hcz6_2, hfz6_0, hfz6_1, hfz6_2⟩ := bk3 (HM.bx 1 rfl)))
 go_ret
 exact ⟨ER, (MD HM).pick []⟩
def laws_eqOpS.l0 : Nat → List (S38) → List (S38) → Int → Option (Bool)
 | 0, _, _, _ => none
 | k + 1, x0, x1, x5 => if x5 < (x0.length : Int) then (if 0 ≤ x5 then (if x5 < (x1.length : Int) then ((laws_eqOp.f ((rd_T38 x0 x5).f0) ((rd_T38 x0 x5).f1) ((rd_T38 x0 x5).f2) ((rd_T38 x1 x5).f0) ((rd_T38 x1 x5).f1) ((rd_T38 x1 x5).f2)).bind fun t1104 => (if t1104 = true then (laws_eqOpS.l0 k x0 x1 (wrap64 (x5 + 1))) else (none))) else (none)) else (none)) else (some true)
def laws_eqOpS.f (k : Nat) (l0 : List (S38)) (l1 : List (S38)) : Option (Bool) := if (l0.length : Int) = (l1.length : Int) then (laws_eqOpS.l0 k l0 l1 0) else (none)
theorem laws_eqOpS.mono_l : ∀ k, (∀ y0 y1 y2, LeO (laws_eqOpS.l0 k y0 y1 y2) (laws_eqOpS.l0 (k + 1) y0 y1 y2))
 | 0 => fun _ _ _ r h => by simp [laws_eqOpS.l0] at h
 | k + 1 => by
  have ih0 := laws_eqOpS.mono_l k
  ·intro y0 y1 y2
   unfold laws_eqOpS.l0
   repeat' first | (with_reducible first | exact ih0 _ _ _ | exact LeO.refl _ | exact LeO.none _ | refine LeO.ite ?_ ?_ | refine LeO.bind ?_ (fun _ => ?_)) | exact ih0 _ _ _ | exact LeO.none _ | refine LeO.ite ?_ ?_ | refine LeO.bind ?_ (fun _ => ?_)
theorem laws_eqOpS.mono : ∀ a0 a1 k, LeO (laws_eqOpS.f k a0 a1) (laws_eqOpS.f (k + 1) a0 a1) := by
 intro a0 a1 k
 have ih0 := laws_eqOpS.mono_l k
 unfold laws_eqOpS.f
 repeat' first | (with_reducible first | exact ih0 _ _ _ | exact LeO.refl _ | exact LeO.none _ | refine LeO.ite ?_ ?_ | refine LeO.bind ?_ (fun _ => ?_)) | exact ih0 _ _ _ | exact LeO.none _ | refine LeO.ite ?_ ?_ | refine LeO.bind ?_ (fun _ => ?_)
def laws_eqOpS.T6 : Bool × List (List Nat × List Nat) := (true, [([], []), ([], []), ([0, 1], [0, 1]), ([2], [2]), ([], []), ([], []), ([4, 5], [4, 5]), ([6], [6]), ([3, 7], [3, 7]), ([8], [8])])
def laws_eqOpS.B6 : List Nat := [0, 0, 3, 7, 0, 0, 48, 112, 255, 511]
theorem laws_eqOpS.tab6 : rtab .any (opsOf Try.f21 6) = laws_eqOpS.T6 := by kernel_rfl
theorem laws_eqOpS.bits6 : waitsOk laws_eqOpS.T6.2 laws_eqOpS.B6 = true := by kernel_rfl
set_option maxHeartbeats 8000000 in
set_option maxRecDepth 100000 in
theorem laws_eqOpS.calls (k : Nat) (A0 : Option Addr) (c0 : Nat) (l0 : List (S38)) (A1 : Option Addr) (c1 : Nat) (l1 : List (S38)) (r : Bool) (w : World) (hr0 : Kd.C k38 w A0 l0.length l0) (hc0 : l0.length ≤ c0) (hr1 : Kd.C k38 w A1 l1.length l1) (hc1 : l1.length ≤ c1) (h : laws_eqOpS.f k l0 l1 = some r) :
  Calls Try.prog 21 #[.slice A0 l0.length c0, .slice A1 l1.length c1] w fun e w' => e = .returned (.bool r) ∧ Mem w [] w' [] := by
 have hu38 := Try.underlying38
 have HR0 := Aside0.mk hr0
 have HC0 := Aside0.mk hc0
 clear hr0 hc0
 have HR1 := Aside0.mk hr1
 have HC1 := Aside0.mk hc1
 clear hr1 hc1
 have HM := Mem.nil w
 have H := h
 clear h
 unfold laws_eqOpS.f at H
 go_enter Try.func21, Try.ntmps21
 replace H := GD H; obtain ⟨c3, H⟩ := H
 have c3b0 : ((l0.length : Int) == (l1.length : Int)) = true := beq_iff_eq.mpr c3
 have c3b1 : ((l0.length : Int) != (l1.length : Int)) = false := bne_eq_false_iff_eq.mpr c3
 have c3b2 : (l0.length == l1.length) = true := by first | simpa using c3 | (simp at c3 ⊢; omega)
 clear c3
 have H' := Aside0.mk H
 clear H
 go_wp2
 go_loopg [5] k (fun kq v5 w' => ∃ (x5_1 : Int), v5 = .int .i64 x5_1 ∧ Aside0 (laws_eqOpS.l0 kq l0 l1 x5_1 = some r) ∧ Aside0 (kq ≤ k) ∧ Mem w [] w' [])
 case atStart => exact ⟨(0), RS, H', ⟨Nat.le_refl _⟩, (MD HM).pick []⟩
 case round =>
  clear H' HM
  obtain ⟨x5_1, rfl, HA, HK1, HM⟩ := hrel
  cases gk with
  | zero => exact absurd HA.out (by simp [laws_eqOpS.l0])
  | succ k1 =>
   have H := HA.out
   clear HA
   simp only [laws_eqOpS.l0] at H
   go_upto_if 14 with (fail)
   replace H := IT H; rcases H with ⟨c4, H⟩ | ⟨c4, H⟩
   ·have c4b0 : decide (x5_1 < (l0.length : Int)) = true := decide_eq_true c4
    clear c4
    (first | rw [c4b0] | (simp only [i64_w, i32_w]; rw [c4b0]) | skip)
    try go_wp2
    replace H := GD H; obtain ⟨c5, H⟩ := H
    have c5b0 : decide (0 ≤ x5_1) = true := decide_eq_true c5
    clear c5
    replace H := GD H; obtain ⟨c6, H⟩ := H
    have c6b0 : decide (x5_1 < (l1.length : Int)) = true := decide_eq_true c6
    clear c6
    replace H := BN H; obtain ⟨t1104, A7, H⟩ := H
    have p1102 : 0 ≤ (x5_1 : Int) := of_decide_eq_true AS
    have q1102 : (x5_1 : Int) < (l0.length : Int) := of_decide_eq_true AS
    obtain ⟨ad1102, e1102, hx1102_0, hx1102_1, hx1102_2⟩ := at_T38 (HM.came HR0.out) x5_1 p1102 q1102
    cases e1102
    replace p1102 := eq_true p1102
    replace q1102 := eq_true q1102
    have p1103 : 0 ≤ (x5_1 : Int) := of_decide_eq_true AS
    have q1103 : (x5_1 : Int) < (l1.length : Int) := of_decide_eq_true AS
    obtain ⟨ad1103, e1103, hx1103_0, hx1103_1, hx1103_2⟩ := at_T38 (HM.came HR1.out) x5_1 p1103 q1103
    cases e1103
    replace p1103 := eq_true p1103
    replace q1103 := eq_true q1103
    refine RGN 10 [0, 1, 2, 3, 4, 5, 6, 7, 8, 9] (fun a0 b a w' => a = putSel a0 b [(0, 17, .slice (some ad1102) l0.length c0), (1, 18, .int .i64 x5_1), (2, 19, .pointer (some (ad1102.add ((x5_1).toNat * 3)))), (3, 20, .agg #[.int .i64 ((rd_T38 l0 x5_1).f0), .string ((rd_T38 l0 x5_1).f1), .string ((rd_T38 l0 x5_1).f2)]), (4, 21, .slice (some ad1103) l1.length c1), (5, 22, .int .i64 x5_1), (6, 23, .pointer (some (ad1103.add ((x5_1).toNat * 3)))), (7, 24, .agg #[.int .i64 ((rd_T38 l1 x5_1).f0), .string ((rd_T38 l1 x5_1).f1), .string ((rd_T38 l1 x5_1).f2)]), (8, 25, .bool t1104), (9, 26, .bool (!t1104))] ∧ Mem w [] w' []) laws_eqOpS.tab6 laws_eqOpS.bits6 ?_ ?_ ?_
    ·exact ⟨PS0' rfl _, (HM.drew).pick []⟩
    ·clear HM
     refine steps_cons ?_ ?_
     ·rintro b a w ⟨ha, HM⟩ hb hon hoff
      refine ⟨_, rfl, fun K hK => ?_⟩
      have e0 := POF ha 0
      replace ha := Aside0.mk ha
      exact VL (.slice (some ad1102) l0.length c0) (hK.out _ _ ⟨PUT ha 0 hb, HM⟩)
     refine steps_cons ?_ ?_
     ·rintro b a w ⟨ha, HM⟩ hb hon hoff
      refine ⟨_, rfl, fun K hK => ?_⟩
      have e5 := POF ha 5
      replace ha := Aside0.mk ha
      exact VL (.int .i64 x5_1) (hK.out _ _ ⟨PUT ha 1 hb, HM⟩)
     refine steps_cons ?_ ?_
     ·rintro b a w ⟨ha, HM⟩ hb hon hoff
      refine ⟨_, rfl, fun K hK => ?_⟩
      have p1102 : 0 ≤ (x5_1 : Int) := of_decide_eq_true AS
      have q1102 : (x5_1 : Int) < (l0.length : Int) := of_decide_eq_true AS
      obtain ⟨ad1102, e1102, hx1102_0, hx1102_1, hx1102_2⟩ := at_T38 (HM.came HR0.out) x5_1 p1102 q1102
      obtain rfl := Option.some.inj e1102
      replace p1102 := eq_true p1102
      replace q1102 := eq_true q1102
      have e17 := PON ha 0 (hon 0 (by kernel_rfl))
      have e18 := PON ha 1 (hon 1 (by kernel_rfl))
      replace ha := Aside0.mk ha
      exact VL (.pointer (some (ad1102.add ((x5_1).toNat * 3)))) (hK.out _ _ ⟨PUT ha 2 hb, HM⟩)
     refine steps_cons ?_ ?_
     ·rintro b a w ⟨ha, HM⟩ hb hon hoff
      refine ⟨_, rfl, fun K hK => ?_⟩
      have p1102 : 0 ≤ (x5_1 : Int) := of_decide_eq_true AS
      have q1102 : (x5_1 : Int) < (l0.length : Int) := of_decide_eq_true AS
      obtain ⟨ad1102, e1102, hx1102_0, hx1102_1, hx1102_2⟩ := at_T38 (HM.came HR0.out) x5_1 p1102 q1102
      obtain rfl := Option.some.inj e1102
      replace p1102 := eq_true p1102
      replace q1102 := eq_true q1102
      have e19 := PON ha 2 (hon 2 (by kernel_rfl))
      replace ha := Aside0.mk ha
      exact VL (.agg #[.int .i64 ((rd_T38 l0 x5_1).f0), .string ((rd_T38 l0 x5_1).f1), .string ((rd_T38 l0 x5_1).f2)]) (hK.out _ _ ⟨PUT ha 3 hb, HM⟩)
     refine steps_cons ?_ ?_
     ·rintro b a w ⟨ha, HM⟩ hb hon hoff
      refine ⟨_, rfl, fun K hK => ?_⟩
      have e1 := POF ha 1
      replace ha := Aside0.mk ha
      exact VL (.slice (some ad1103) l1.length c1) (hK.out _ _ ⟨PUT ha 4 hb, HM⟩)
     refine steps_cons ?_ ?_
     ·rintro b a w ⟨ha, HM⟩ hb hon hoff
      refine ⟨_, rfl, fun K hK => ?_⟩
      have e5 := POF ha 5
      replace ha := Aside0.mk ha
      exact VL (.int .i64 x5_1) (hK.out _ _ ⟨PUT ha 5 hb, HM⟩)
     refine steps_cons ?_ ?_
     ·rintro b a w ⟨ha, HM⟩ hb hon hoff
      refine ⟨_, rfl, fun K hK => ?_⟩
      have p1103 : 0 ≤ (x5_1 : Int) := of_decide_eq_true AS
      have q1103 : (x5_1 : Int) < (l1.length : Int) := of_decide_eq_true AS
      obtain ⟨ad1103, e1103, hx1103_0, hx1103_1, hx1103_2⟩ := at_T38 (HM.came HR1.out) x5_1 p1103 q1103
      obtain rfl := Option.some.inj e1103
      replace p1103 := eq_true p1103
      replace q1103 := eq_true q1103
      have e21 := PON ha 4 (hon 4 (by kernel_rfl))
      have e22 := PON ha 5 (hon 5 (by kernel_rfl))
      replace ha := Aside0.mk ha
      exact VL (.pointer (some (ad1103.add ((x5_1).toNat * 3)))) (hK.out _ _ ⟨PUT ha 6 hb, HM⟩)
     refine steps_cons ?_ ?_
     ·rintro b a w ⟨ha, HM⟩ hb hon hoff
      refine ⟨_, rfl, fun K hK => ?_⟩
      have p1103 : 0 ≤ (x5_1 : Int) := of_decide_eq_true AS
      have q1103 : (x5_1 : Int) < (l1.length : Int) := of_decide_eq_true AS
      obtain ⟨ad1103, e1103, hx1103_0, hx1103_1, hx1103_2⟩ := at_T38 (HM.came HR1.out) x5_1 p1103 q1103
      obtain rfl := Option.some.inj e1103
      replace p1103 := eq_true p1103
      replace q1103 := eq_true q1103
      have e23 := PON ha 6 (hon 6 (by kernel_rfl))
      replace ha := Aside0.mk ha
      exact VL (.agg #[.int .i64 ((rd_T38 l1 x5_1).f0), .string ((rd_T38 l1 x5_1).f1), .string ((rd_T38 l1 x5_1).f2)]) (hK.out _ _ ⟨PUT ha 7 hb, HM⟩)
     refine steps_cons ?_ ?_
     ·rintro b a w ⟨ha, HM⟩ hb hon hoff
      refine ⟨_, rfl, fun K hK => ?_⟩
      have e20 := PON ha 3 (hon 3 (by kernel_rfl))
      have e24 := PON ha 7 (hon 7 (by kernel_rfl))
      replace ha := Aside0.mk ha
      refine ST (eC (some 25) rfl #[.agg #[.int .i64 ((rd_T38 l0 x5_1).f0), .string ((rd_T38 l0 x5_1).f1), .string ((rd_T38 l0 x5_1).f2)], .agg #[.int .i64 ((rd_T38 l1 x5_1).f0), .string ((rd_T38 l1 x5_1).f1), .string ((rd_T38 l1 x5_1).f2)]] rfl Try.func50 (laws_eqOp.calls ((rd_T38 l0 x5_1).f0) ((rd_T38 l0 x5_1).f1) ((rd_T38 l0 x5_1).f2) ((rd_T38 l1 x5_1).f0) ((rd_T38 l1 x5_1).f1) ((rd_T38 l1 x5_1).f2) t1104 _ A7.out) ?_ (hargs := by (simp only [List.map_toArray, List.map_cons, List.map_nil, evc, eval_of e20, eval_of e24]) <;> rfl))
      rintro e w9 ⟨rfl, hR⟩
      refine ⟨_, rfl, ?_⟩
      replace HM := HM.call hR
      clear hR
      exact hK.out _ _ ⟨PUT ha 8 hb, (HM).pick []⟩
     refine steps_cons ?_ ?_
     ·rintro b a w ⟨ha, HM⟩ hb hon hoff
      refine ⟨_, rfl, fun K hK => ?_⟩
      have e25 := PON ha 8 (hon 8 (by kernel_rfl))
      replace ha := Aside0.mk ha
      exact VL (.bool (!t1104)) (hK.out _ _ ⟨PUT ha 9 hb, HM⟩)
     exact steps_nil
    rintro _ w10 ⟨rfl, HM⟩
    simp only [putSel, if_true, Act.put, List.setIfInBounds_toArray, List.set_cons_zero, List.set_cons_succ, gt_iff_lt, ge_iff_le]
    replace H := GD H
    obtain ⟨c11, H⟩ := H
    subst c11
    have H' := Aside0.mk H
    clear H
    go_wp2
    go_roundg k1
    case measure => have := HK1.out; omega
    case rel => exact ⟨(wrap64 (x5_1 + 1)), RS, H', ⟨by have := HK1.out; omega⟩, (MD HM).pick []⟩
   ·have c4b0 : decide (x5_1 < (l0.length : Int)) = false := decide_eq_false c4
    clear c4
    (first | rw [c4b0] | (simp only [i64_w, i32_w]; rw [c4b0]) | skip)
    obtain rfl := Option.some.inj H
    go_wp2
    go_ret
    exact ⟨ER, (MD HM).pick []⟩
def laws_markOpS.l0 : Nat → List (S38) → Int → Int → Option (Int × (List (S38)))
 | 0, _, _, _ => none
 | k + 1, x0, x1, x5 => if x5 < (x0.length : Int) then (if 0 ≤ x5 then ((some (x0.set (x5 : Int).toNat (⟨x1, (rd_T38 x0 x5).f1, (rd_T38 x0 x5).f2⟩ : S38) : List (S38))).bind fun y1105 => ((laws_markText.f k (wrap64 (x1 + 1))).bind fun t1106 => ((some (y1105.set (x5 : Int).toNat (⟨(rd_T38 y1105 x5).f0, t1106, (rd_T38 y1105 x5).f2⟩ : S38) : List (S38))).bind fun y1107 => ((laws_markText.f k (wrap64 ((wrap64 (x1 + 1)) + 1))).bind fun t1108 => (laws_markOpS.l0 k (y1107.set (x5 : Int).toNat (⟨(rd_T38 y1107 x5).f0, (rd_T38 y1107 x5).f1, t1108⟩ : S38)) (wrap64 ((wrap64 ((wrap64 (x1 + 1)) + 1)) + 1)) (wrap64 (x5 + 1))))))) else (none)) else (some (x1, x0))
def laws_markOpS.f (k : Nat) (l0 : List (S38)) (a1 : Int) : Option (Int × (List (S38))) := laws_markOpS.l0 k l0 a1 0
theorem laws_markOpS.mono_l : ∀ k, (∀ y0 y1 y2, LeO (laws_markOpS.l0 k y0 y1 y2) (laws_markOpS.l0 (k + 1) y0 y1 y2))
 | 0 => fun _ _ _ r h => by simp [laws_markOpS.l0] at h
 | k + 1 => by
  have ih0 := laws_markOpS.mono_l k
  ·intro y0 y1 y2
   unfold laws_markOpS.l0
   repeat' first | (with_reducible first | exact ih0 _ _ _ | exact laws_markText.mono _ _ | exact LeO.refl _ | exact LeO.none _ | refine LeO.ite ?_ ?_ | refine LeO.bind ?_ (fun _ => ?_)) | exact ih0 _ _ _ | exact laws_markText.mono _ _ | exact LeO.none _ | refine LeO.ite ?_ ?_ | refine LeO.bind ?_ (fun _ => ?_)
theorem laws_markOpS.mono : ∀ a0 a1 k, LeO (laws_markOpS.f k a0 a1) (laws_markOpS.f (k + 1) a0 a1) := by
 intro a0 a1 k
 have ih0 := laws_markOpS.mono_l k
 unfold laws_markOpS.f
 repeat' first | (with_reducible first | exact ih0 _ _ _ | exact laws_markText.mono _ _ | exact LeO.refl _ | exact LeO.none _ | refine LeO.ite ?_ ?_ | refine LeO.bind ?_ (fun _ => ?_)) | exact ih0 _ _ _ | exact laws_markText.mono _ _ | exact LeO.none _ | refine LeO.ite ?_ ?_ | refine LeO.bind ?_ (fun _ => ?_)
set_option maxHeartbeats 8000000 in
set_option maxRecDepth 100000 in
theorem laws_markOpS.calls (k : Nat) (u9000_ : Value) (l0 : List (S38)) (a1 : Int) (r1 : Int) (r2 : List (S38)) (w0 w : World) (F : List SP)  (hM : Mem w0 F w [rowR k38 38 u9000_ l0]) (h : laws_markOpS.f k l0 a1 = some (r1, r2)) :
  Calls Try.prog 22 #[u9000_, .int .i64 a1] w fun e w' => e = .returned (.int .i64 r1) ∧ Mem w0 F w' [rowR k38 38 u9000_ r2] := by
 have HM := hM
 clear hM
 have H := h
 clear h
 unfold laws_markOpS.f at H
 go_enter Try.func22, Try.ntmps22
 have H' := Aside0.mk H
 clear H
 go_wp2
 go_loopg [1, 5] k (fun kq v1 v5 w' => ∃ (x0_1 : List (S38)) (x1_1 : Int) (x5_1 : Int), v1 = .int .i64 x1_1 ∧ v5 = .int .i64 x5_1 ∧ Aside0 (laws_markOpS.l0 kq x0_1 x1_1 x5_1 = some (r1, r2)) ∧ Aside0 (kq ≤ k) ∧ Mem w0 F w' [rowR k38 38 u9000_ x0_1])
 case atStart => exact ⟨(l0), (a1), (0), RS, RS, H', ⟨Nat.le_refl _⟩, (MD HM).pick [0]⟩
 case round =>
  clear H' HM
  obtain ⟨x0_1, x1_1, x5_1, rfl, rfl, HA, HK1, HM⟩ := hrel
  cases gk with
  | zero => exact absurd HA.out (by simp [laws_markOpS.l0])
  | succ k1 =>
   have H := HA.out
   clear HA
   simp only [laws_markOpS.l0] at H
   obtain ⟨Xo3, ko3, eo3⟩ := HM.rdR 0 rfl
   subst eo3
   go_upto_if 9 with (fail)
   replace H := IT H; rcases H with ⟨c4, H⟩ | ⟨c4, H⟩
   ·have c4b0 : decide (x5_1 < (x0_1.length : Int)) = true := decide_eq_true c4
    clear c4
    (first | rw [c4b0] | (simp only [i64_w, i32_w]; rw [c4b0]) | skip)
    replace H := GD H; obtain ⟨c5, H⟩ := H
    have c5b0 : decide (0 ≤ x5_1) = true := decide_eq_true c5
    clear c5
    replace H := BLt H; obtain ⟨y1105, Ny1105, H⟩ := H
    replace Ny1105 := Aside0.mk Ny1105
    replace H := BN H; obtain ⟨t1106, A8, H⟩ := H
    replace H := BLt H; obtain ⟨y1107, Ny1107, H⟩ := H
    replace Ny1107 := Aside0.mk Ny1107
    replace H := BN H; obtain ⟨t1108, A12, H⟩ := H
    have H' := Aside0.mk H
    clear H
    have p6 : 0 ≤ (x5_1 : Int) := of_decide_eq_true AS
    have q6 : (x5_1 : Int) < ((x0_1.length : Int) : Int) := of_decide_eq_true AS
    obtain ⟨go6, ef6⟩ := HM.form 0 rfl (by have h_ := (HM.CR 0 rfl).1; omega)
    subst ef6
    obtain ⟨hcc6, hfr6⟩ := HM.el 0 rfl z38 (x5_1 : Int) p6 (by have h_ := (HM.CR 0 rfl).1; omega) [.int .i64 ((rd_T38 x0_1 x5_1).f0), .string ((rd_T38 x0_1 x5_1).f1), .string ((rd_T38 x0_1 x5_1).f2)] (fun _ _ h => k38_openM h)
    have hx6_0 : wr.cell? ⟨go6, (x5_1 : Int).toNat * 3, none⟩ = some (.int .i64 ((rd_T38 x0_1 x5_1).f0)) := (by have h_ := hcc6 0 _ rfl; first | exact h_ | (simp only [show (k38).sz = 3 from rfl, Nat.mul_one, Nat.add_zero] at h_; exact h_) | simpa using h_)
    have hf6_0 : wr.frozen? ⟨go6, (x5_1 : Int).toNat * 3, none⟩ = false := (by have h_ := hfr6 0; first | exact h_ | (simp only [show (k38).sz = 3 from rfl, Nat.mul_one, Nat.add_zero] at h_; exact h_) | simpa using h_)
    have hx6_1 : wr.cell? ⟨go6, (x5_1 : Int).toNat * 3 + 1, none⟩ = some (.string ((rd_T38 x0_1 x5_1).f1)) := (by have h_ := hcc6 1 _ rfl; first | exact h_ | (simp only [show (k38).sz = 3 from rfl, Nat.mul_one, Nat.add_zero] at h_; exact h_) | simpa using h_)
    have hf6_1 : wr.frozen? ⟨go6, (x5_1 : Int).toNat * 3 + 1, none⟩ = false := (by have h_ := hfr6 1; first | exact h_ | (simp only [show (k38).sz = 3 from rfl, Nat.mul_one, Nat.add_zero] at h_; exact h_) | simpa using h_)
    have hx6_2 : wr.cell? ⟨go6, (x5_1 : Int).toNat * 3 + 2, none⟩ = some (.string ((rd_T38 x0_1 x5_1).f2)) := (by have h_ := hcc6 2 _ rfl; first | exact h_ | (simp only [show (k38).sz = 3 from rfl, Nat.mul_one, Nat.add_zero] at h_; exact h_) | simpa using h_)
    have hf6_2 : wr.frozen? ⟨go6, (x5_1 : Int).toNat * 3 + 2, none⟩ = false := (by have h_ := hfr6 2; first | exact h_ | (simp only [show (k38).sz = 3 from rfl, Nat.mul_one, Nat.add_zero] at h_; exact h_) | simpa using h_)
    clear hcc6 hfr6
    replace p6 := eq_true p6
    replace q6 := eq_true q6
    go_wp2_with (first | ((with_reducible refine gate_st (p := 16) rfl ?_); refine pPR 0 16 (x5_1 : Int) 0 [.int .i64 x1_1] k38 38 x0_1 (⟨x1_1, (rd_T38 x0_1 x5_1).f1, (rd_T38 x0_1 x5_1).f2⟩ : S38) z38 [.int .i64 ((rd_T38 x0_1 x5_1).f0), .string ((rd_T38 x0_1 x5_1).f1), .string ((rd_T38 x0_1 x5_1).f2)] HM rfl rfl (of_decide_eq_true AS) (by have h_ : (x5_1 : Int) < ((x0_1.length : Int) : Int) := of_decide_eq_true AS; have e_ := (HM.CR 0 rfl).1; omega) (fun _ _ h => k38_openM h) (k38_mkM _ _ _ (⟨x1_1, (rd_T38 x0_1 x5_1).f1, (rd_T38 x0_1 x5_1).f2⟩ : S38)) ?_; clear HM; intro w7 HM; replace HM := HM.nm 0 rfl Ny1105.out) | ((with_reducible refine gate_callee (f := 51) rfl ?_); refine pC (some 22) rfl #[.int .i64 (wrap64 (x1_1 + 1))] rfl Try.func51 (laws_markText.calls k1 (wrap64 (x1_1 + 1)) t1106 _ A8.out) ?_; rintro e w9 ⟨rfl, hR⟩; refine ⟨_, rfl, ?_⟩; replace HM := HM.call hR; clear hR; have p10 : 0 ≤ (x5_1 : Int) := of_decide_eq_true AS; have q10 : (x5_1 : Int) < ((x0_1.length : Int) : Int) := of_decide_eq_true AS; obtain ⟨hcc10, hfr10⟩ := HM.el 0 rfl z38 (x5_1 : Int) p10 (by have h_ := (HM.CR 0 rfl).1; omega) [.int .i64 ((rd_T38 y1105 x5_1).f0), .string ((rd_T38 y1105 x5_1).f1), .string ((rd_T38 y1105 x5_1).f2)] (fun _ _ h => k38_openM h); have hx10_0 : w9.cell? ⟨go6, (x5_1 : Int).toNat * 3, none⟩ = some (.int .i64 ((rd_T38 y1105 x5_1).f0)) := (by have h_ := hcc10 0 _ rfl; first | exact h_ | (simp only [show (k38).sz = 3 from rfl, Nat.mul_one, Nat.add_zero] at h_; exact h_) | simpa using h_); have hf10_0 : w9.frozen? ⟨go6, (x5_1 : Int).toNat * 3, none⟩ = false := (by have h_ := hfr10 0; first | exact h_ | (simp only [show (k38).sz = 3 from rfl, Nat.mul_one, Nat.add_zero] at h_; exact h_) | simpa using h_); have hx10_1 : w9.cell? ⟨go6, (x5_1 : Int).toNat * 3 + 1, none⟩ = some (.string ((rd_T38 y1105 x5_1).f1)) := (by have h_ := hcc10 1 _ rfl; first | exact h_ | (simp only [show (k38).sz = 3 from rfl, Nat.mul_one, Nat.add_zero] at h_; exact h_) | simpa using h_); have hf10_1 : w9.frozen? ⟨go6, (x5_1 : Int).toNat * 3 + 1, none⟩ = false := (by have h_ := hfr10 1; first | exact h_ | (simp only [show (k38).sz = 3 from rfl, Nat.mul_one, Nat.add_zero] at h_; exact h_) | simpa using h_); have hx10_2 : w9.cell? ⟨go6, (x5_1 : Int).toNat * 3 + 2, none⟩ = some (.string ((rd_T38 y1105 x5_1).f2)) := (by have h_ := hcc10 2 _ rfl; first | exact h_ | (simp only [show (k38).sz = 3 from rfl, Nat.mul_one, Nat.add_zero] at h_; exact h_) | simpa using h_); have hf10_2 : w9.frozen? ⟨go6, (x5_1 : Int).toNat * 3 + 2, none⟩ = false := (by have h_ := hfr10 2; first | exact h_ | (simp only [show (k38).sz = 3 from rfl, Nat.mul_one, Nat.add_zero] at h_; exact h_) | simpa using h_); clear hcc10 hfr10; replace p10 := eq_true p10; replace q10 := eq_true q10) | ((with_reducible refine gate_st (p := 24) rfl ?_); refine pPR 0 24 (x5_1 : Int) 1 [.string t1106] k38 38 y1105 (⟨(rd_T38 y1105 x5_1).f0, t1106, (rd_T38 y1105 x5_1).f2⟩ : S38) z38 [.int .i64 ((rd_T38 y1105 x5_1).f0), .string ((rd_T38 y1105 x5_1).f1), .string ((rd_T38 y1105 x5_1).f2)] HM rfl rfl (of_decide_eq_true AS) (by have h_ : (x5_1 : Int) < ((x0_1.length : Int) : Int) := of_decide_eq_true AS; have e_ := (HM.CR 0 rfl).1; omega) (fun _ _ h => k38_openM h) (k38_mkM _ _ _ (⟨(rd_T38 y1105 x5_1).f0, t1106, (rd_T38 y1105 x5_1).f2⟩ : S38)) ?_; clear HM; intro w11 HM; replace HM := HM.nm 0 rfl Ny1107.out) | ((with_reducible refine gate_callee (f := 51) rfl ?_); refine pC (some 30) rfl #[.int .i64 (wrap64 ((wrap64 (x1_1 + 1)) + 1))] rfl Try.func51 (laws_markText.calls k1 (wrap64 ((wrap64 (x1_1 + 1)) + 1)) t1108 _ A12.out) ?_; rintro e w13 ⟨rfl, hR⟩; refine ⟨_, rfl, ?_⟩; replace HM := HM.call hR; clear hR; have p14 : 0 ≤ (x5_1 : Int) := of_decide_eq_true AS; have q14 : (x5_1 : Int) < ((x0_1.length : Int) : Int) := of_decide_eq_true AS; obtain ⟨hcc14, hfr14⟩ := HM.el 0 rfl z38 (x5_1 : Int) p14 (by have h_ := (HM.CR 0 rfl).1; omega) [.int .i64 ((rd_T38 y1107 x5_1).f0), .string ((rd_T38 y1107 x5_1).f1), .string ((rd_T38 y1107 x5_1).f2)] (fun _ _ h => k38_openM h); have hx14_0 : w13.cell? ⟨go6, (x5_1 : Int).toNat * 3, none⟩ = some (.int .i64 ((rd_T38 y1107 x5_1).f0)) := (by have h_ := hcc14 0 _ rfl; first | exact h_ | (simp only [show (k38).sz = 3 from rfl, Nat.mul_one, Nat.add_zero] at h_; exact h_) | simpa using h_); have hf14_0 : w13.frozen? ⟨go6, (x5_1 : Int).toNat * 3, none⟩ = false := (by have h_ := hfr14 0; first | exact h_ | (simp only [show (k38).sz = 3 from rfl, Nat.mul_one, Nat.add_zero] at h_; exact h_) | simpa using h_); have hx14_1 : w13.cell? ⟨go6, (x5_1 : Int).toNat * 3 + 1, none⟩ = some (.string ((rd_T38 y1107 x5_1).f1)) := (by have h_ := hcc14 1 _ rfl; first | exact h_ | (simp only [show (k38).sz = 3 from rfl, Nat.mul_one, Nat.add_zero] at h_; exact h_) | simpa using h_); have hf14_1 : w13.frozen? ⟨go6, (x5_1 : Int).toNat * 3 + 1, none⟩ = false := (by have h_ := hfr14 1; first | exact h_ | (simp only [show (k38).sz = 3 from rfl, Nat.mul_one, Nat.add_zero] at h_; exact h_) | simpa using h_); have hx14_2 : w13.cell? ⟨go6, (x5_1 : Int).toNat * 3 + 2, none⟩ = some (.string ((rd_T38 y1107 x5_1).f2)) := (by have h_ := hcc14 2 _ rfl; first | exact h_ | (simp only [show (k38).sz = 3 from rfl, Nat.mul_one, Nat.add_zero] at h_; exact h_) | simpa using h_); have hf14_2 : w13.frozen? ⟨go6, (x5_1 : Int).toNat * 3 + 2, none⟩ = false := (by have h_ := hfr14 2; first | exact h_ | (simp only [show (k38).sz = 3 from rfl, Nat.mul_one, Nat.add_zero] at h_; exact h_) | simpa using h_); clear hcc14 hfr14; replace p14 := eq_true p14; replace q14 := eq_true q14) | ((with_reducible refine gate_st (p := 32) rfl ?_); refine pPR 0 32 (x5_1 : Int) 2 [.string t1108] k38 38 y1107 (⟨(rd_T38 y1107 x5_1).f0, (rd_T38 y1107 x5_1).f1, t1108⟩ : S38) z38 [.int .i64 ((rd_T38 y1107 x5_1).f0), .string ((rd_T38 y1107 x5_1).f1), .string ((rd_T38 y1107 x5_1).f2)] HM rfl rfl (of_decide_eq_true AS) (by have h_ : (x5_1 : Int) < ((x0_1.length : Int) : Int) := of_decide_eq_true AS; have e_ := (HM.CR 0 rfl).1; omega) (fun _ _ h => k38_openM h) (k38_mkM _ _ _ (⟨(rd_T38 y1107 x5_1).f0, (rd_T38 y1107 x5_1).f1, t1108⟩ : S38)) ?_; clear HM; intro w15 HM))
    go_roundg k1
    case measure => have := HK1.out; omega
    case rel => exact ⟨((y1107.set (x5_1 : Int).toNat (⟨(rd_T38 y1107 x5_1).f0, (rd_T38 y1107 x5_1).f1, t1108⟩ : S38))), (wrap64 ((wrap64 ((wrap64 (x1_1 + 1)) + 1)) + 1)), (wrap64 (x5_1 + 1)), RS, RS, H', ⟨by have := HK1.out; omega⟩, (MD HM).pick [0]⟩
   ·have c4b0 : decide (x5_1 < (x0_1.length : Int)) = false := decide_eq_false c4
    clear c4
    (first | rw [c4b0] | (simp only [i64_w, i32_w]; rw [c4b0]) | skip)
    simp only [Option.some.injEq, Prod.mk.injEq] at H
    obtain ⟨rfl, rfl⟩ := H
    go_wp2
    go_ret
    exact ⟨ER, (MD HM).pick [0]⟩
def laws_markReplyS.l0 : Nat → List (S34) → Int → Int → Option (Int × (List (S34)))
 | 0, _, _, _ => none
 | k + 1, x0, x1, x5 => if x5 < (x0.length : Int) then (if 0 ≤ x5 then ((some (x0.set (x5 : Int).toNat (⟨((Int.tmod x1 3) == 0), (rd_T34 x0 x5).f1, (rd_T34 x0 x5).f2⟩ : S34) : List (S34))).bind fun y1110 => ((laws_markText.f k (wrap64 (x1 + 1))).bind fun t1111 => ((some (y1110.set (x5 : Int).toNat (⟨(rd_T34 y1110 x5).f0, t1111, (rd_T34 y1110 x5).f2⟩ : S34) : List (S34))).bind fun y1112 => ((laws_markText.f k (wrap64 ((wrap64 (x1 + 1)) + 1))).bind fun t1113 => (laws_markReplyS.l0 k (y1112.set (x5 : Int).toNat (⟨(rd_T34 y1112 x5).f0, (rd_T34 y1112 x5).f1, t1113⟩ : S34)) (wrap64 ((wrap64 ((wrap64 (x1 + 1)) + 1)) + 1)) (wrap64 (x5 + 1))))))) else (none)) else (some (x1, x0))
def laws_markReplyS.f (k : Nat) (l0 : List (S34)) (a1 : Int) : Option (Int × (List (S34))) := laws_markReplyS.l0 k l0 a1 0
theorem laws_markReplyS.mono_l : ∀ k, (∀ y0 y1 y2, LeO (laws_markReplyS.l0 k y0 y1 y2) (laws_markReplyS.l0 (k + 1) y0 y1 y2))
 | 0 => fun _ _ _ r h => by simp [laws_markReplyS.l0] at h
 | k + 1 => by
  have ih0 := laws_markReplyS.mono_l k
  ·intro y0 y1 y2
   unfold laws_markReplyS.l0
   repeat' first | (with_reducible first | exact ih0 _ _ _ | exact laws_markText.mono _ _ | exact LeO.refl _ | exact LeO.none _ | refine LeO.ite ?_ ?_ | refine LeO.bind ?_ (fun _ => ?_)) | exact ih0 _ _ _ | exact laws_markText.mono _ _ | exact LeO.none _ | refine LeO.ite ?_ ?_ | refine LeO.bind ?_ (fun _ => ?_)
theorem laws_markReplyS.mono : ∀ a0 a1 k, LeO (laws_markReplyS.f k a0 a1) (laws_markReplyS.f (k + 1) a0 a1) := by
 intro a0 a1 k
 have ih0 := laws_markReplyS.mono_l k
 unfold laws_markReplyS.f
 repeat' first | (with_reducible first | exact ih0 _ _ _ | exact laws_markText.mono _ _ | exact LeO.refl _ | exact LeO.none _ | refine LeO.ite ?_ ?_ | refine LeO.bind ?_ (fun _ => ?_)) | exact ih0 _ _ _ | exact laws_markText.mono _ _ | exact LeO.none _ | refine LeO.ite ?_ ?_ | refine LeO.bind ?_ (fun _ => ?_)
set_option maxHeartbeats 8000000 in
set_option maxRecDepth 100000 in
theorem laws_markReplyS.calls (k : Nat) (u9000_ : Value) (l0 : List (S34)) (a1 : Int) (r1 : Int) (r2 : List (S34)) (w0 w : World) (F : List SP)  (hM : Mem w0 F w [rowR k34 34 u9000_ l0]) (h : laws_markReplyS.f k l0 a1 = some (r1, r2)) :
  Calls Try.prog 23 #[u9000_, .int .i64 a1] w fun e w' => e = .returned (.int .i64 r1) ∧ Mem w0 F w' [rowR k34 34 u9000_ r2] := by
 have HM := hM
 clear hM
 have H := h
 clear h
 unfold laws_markReplyS.f at H
 go_enter Try.func23, Try.ntmps23
 have H' := Aside0.mk H
 clear H
 go_wp2
 go_loopg [1, 5] k (fun kq v1 v5 w' => ∃ (x0_1 : List (S34)) (x1_1 : Int) (x5_1 : Int), v1 = .int .i64 x1_1 ∧ v5 = .int .i64 x5_1 ∧ Aside0 (laws_markReplyS.l0 kq x0_1 x1_1 x5_1 = some (r1, r2)) ∧ Aside0 (kq ≤ k) ∧ Mem w0 F w' [rowR k34 34 u9000_ x0_1])
 case atStart => exact ⟨(l0), (a1), (0), RS, RS, H', ⟨Nat.le_refl _⟩, (MD HM).pick [0]⟩
 case round =>
  clear H' HM
  obtain ⟨x0_1, x1_1, x5_1, rfl, rfl, HA, HK1, HM⟩ := hrel
  cases gk with
  | zero => exact absurd HA.out (by simp [laws_markReplyS.l0])
  | succ k1 =>
   have H := HA.out
   clear HA
   simp only [laws_markReplyS.l0] at H
   obtain ⟨Xo3, ko3, eo3⟩ := HM.rdR 0 rfl
   subst eo3
   go_upto_if 9 with (fail)
   replace H := IT H; rcases H with ⟨c4, H⟩ | ⟨c4, H⟩
   ·have c4b0 : decide (x5_1 < (x0_1.length : Int)) = true := decide_eq_true c4
    clear c4
    (first | rw [c4b0] | (simp only [i64_w, i32_w]; rw [c4b0]) | skip)
    replace H := GD H; obtain ⟨c5, H⟩ := H
    have c5b0 : decide (0 ≤ x5_1) = true := decide_eq_true c5
    clear c5
    replace H := BLt H; obtain ⟨y1110, Ny1110, H⟩ := H
    replace Ny1110 := Aside0.mk Ny1110
    replace H := BN H; obtain ⟨t1111, A8, H⟩ := H
    replace H := BLt H; obtain ⟨y1112, Ny1112, H⟩ := H
    replace Ny1112 := Aside0.mk Ny1112
    replace H := BN H; obtain ⟨t1113, A12, H⟩ := H
    have H' := Aside0.mk H
    clear H
    have p6 : 0 ≤ (x5_1 : Int) := of_decide_eq_true AS
    have q6 : (x5_1 : Int) < ((x0_1.length : Int) : Int) := of_decide_eq_true AS
    obtain ⟨go6, ef6⟩ := HM.form 0 rfl (by have h_ := (HM.CR 0 rfl).1; omega)
    subst ef6
    obtain ⟨hcc6, hfr6⟩ := HM.el 0 rfl z34 (x5_1 : Int) p6 (by have h_ := (HM.CR 0 rfl).1; omega) [.bool ((rd_T34 x0_1 x5_1).f0), .string ((rd_T34 x0_1 x5_1).f1), .string ((rd_T34 x0_1 x5_1).f2)] (fun _ _ h => k34_openM h)
    have hx6_0 : wr.cell? ⟨go6, (x5_1 : Int).toNat * 3, none⟩ = some (.bool ((rd_T34 x0_1 x5_1).f0)) := (by have h_ := hcc6 0 _ rfl; first | exact h_ | (simp only [show (k34).sz = 3 from rfl, Nat.mul_one, Nat.add_zero] at h_; exact h_) | simpa using h_)
    have hf6_0 : wr.frozen? ⟨go6, (x5_1 : Int).toNat * 3, none⟩ = false := (by have h_ := hfr6 0; first | exact h_ | (simp only [show (k34).sz = 3 from rfl, Nat.mul_one, Nat.add_zero] at h_; exact h_) | simpa using h_)
    have hx6_1 : wr.cell? ⟨go6, (x5_1 : Int).toNat * 3 + 1, none⟩ = some (.string ((rd_T34 x0_1 x5_1).f1)) := (by have h_ := hcc6 1 _ rfl; first | exact h_ | (simp only [show (k34).sz = 3 from rfl, Nat.mul_one, Nat.add_zero] at h_; exact h_) | simpa using h_)
    have hf6_1 : wr.frozen? ⟨go6, (x5_1 : Int).toNat * 3 + 1, none⟩ = false := (by have h_ := hfr6 1; first | exact h_ | (simp only [show (k34).sz = 3 from rfl, Nat.mul_one, Nat.add_zero] at h_; exact h_) | simpa using h_)
    have hx6_2 : wr.cell? ⟨go6, (x5_1 : Int).toNat * 3 + 2, none⟩ = some (.string ((rd_T34 x0_1 x5_1).f2)) := (by have h_ := hcc6 2 _ rfl; first | exact h_ | (simp only [show (k34).sz = 3 from rfl, Nat.mul_one, Nat.add_zero] at h_; exact h_) | simpa using h_)
    have hf6_2 : wr.frozen? ⟨go6, (x5_1 : Int).toNat * 3 + 2, none⟩ = false := (by have h_ := hfr6 2; first | exact h_ | (simp only [show (k34).sz = 3 from rfl, Nat.mul_one, Nat.add_zero] at h_; exact h_) | simpa using h_)
    clear hcc6 hfr6
    replace p6 := eq_true p6
    replace q6 := eq_true q6
    go_wp2_with (first | ((with_reducible refine gate_st (p := 18) rfl ?_); refine pPR 0 18 (x5_1 : Int) 0 [.bool ((Int.tmod x1_1 3) == 0)] k34 34 x0_1 (⟨((Int.tmod x1_1 3) == 0), (rd_T34 x0_1 x5_1).f1, (rd_T34 x0_1 x5_1).f2⟩ : S34) z34 [.bool ((rd_T34 x0_1 x5_1).f0), .string ((rd_T34 x0_1 x5_1).f1), .string ((rd_T34 x0_1 x5_1).f2)] HM rfl rfl (of_decide_eq_true AS) (by have h_ : (x5_1 : Int) < ((x0_1.length : Int) : Int) := of_decide_eq_true AS; have e_ := (HM.CR 0 rfl).1; omega) (fun _ _ h => k34_openM h) (k34_mkM _ _ _ (⟨((Int.tmod x1_1 3) == 0), (rd_T34 x0_1 x5_1).f1, (rd_T34 x0_1 x5_1).f2⟩ : S34)) ?_; clear HM; intro w7 HM; replace HM := HM.nm 0 rfl Ny1110.out) | ((with_reducible refine gate_callee (f := 51) rfl ?_); refine pC (some 24) rfl #[.int .i64 (wrap64 (x1_1 + 1))] rfl Try.func51 (laws_markText.calls k1 (wrap64 (x1_1 + 1)) t1111 _ A8.out) ?_; rintro e w9 ⟨rfl, hR⟩; refine ⟨_, rfl, ?_⟩; replace HM := HM.call hR; clear hR; have p10 : 0 ≤ (x5_1 : Int) := of_decide_eq_true AS; have q10 : (x5_1 : Int) < ((x0_1.length : Int) : Int) := of_decide_eq_true AS; obtain ⟨hcc10, hfr10⟩ := HM.el 0 rfl z34 (x5_1 : Int) p10 (by have h_ := (HM.CR 0 rfl).1; omega) [.bool ((rd_T34 y1110 x5_1).f0), .string ((rd_T34 y1110 x5_1).f1), .string ((rd_T34 y1110 x5_1).f2)] (fun _ _ h => k34_openM h); have hx10_0 : w9.cell? ⟨go6, (x5_1 : Int).toNat * 3, none⟩ = some (.bool ((rd_T34 y1110 x5_1).f0)) := (by have h_ := hcc10 0 _ rfl; first | exact h_ | (simp only [show (k34).sz = 3 from rfl, Nat.mul_one, Nat.add_zero] at h_; exact h_) | simpa using h_); have hf10_0 : w9.frozen? ⟨go6, (x5_1 : Int).toNat * 3, none⟩ = false := (by have h_ := hfr10 0; first | exact h_ | (simp only [show (k34).sz = 3 from rfl, Nat.mul_one, Nat.add_zero] at h_; exact h_) | simpa using h_); have hx10_1 : w9.cell? ⟨go6, (x5_1 : Int).toNat * 3 + 1, none⟩ = some (.string ((rd_T34 y1110 x5_1).f1)) := (by have h_ := hcc10 1 _ rfl; first | exact h_ | (simp only [show (k34).sz = 3 from rfl, Nat.mul_one, Nat.add_zero] at h_; exact h_) | simpa using h_); have hf10_1 : w9.frozen? ⟨go6, (x5_1 : Int).toNat * 3 + 1, none⟩ = false := (by have h_ := hfr10 1; first | exact h_ | (simp only [show (k34).sz = 3 from rfl, Nat.mul_one, Nat.add_zero] at h_; exact h_) | simpa using h_); have hx10_2 : w9.cell? ⟨go6, (x5_1 : Int).toNat * 3 + 2, none⟩ = some (.string ((rd_T34 y1110 x5_1).f2)) := (by have h_ := hcc10 2 _ rfl; first | exact h_ | (simp only [show (k34).sz = 3 from rfl, Nat.mul_one, Nat.add_zero] at h_; exact h_) | simpa using h_); have hf10_2 : w9.frozen? ⟨go6, (x5_1 : Int).toNat * 3 + 2, none⟩ = false := (by have h_ := hfr10 2; first | exact h_ | (simp only [show (k34).sz = 3 from rfl, Nat.mul_one, Nat.add_zero] at h_; exact h_) | simpa using h_); clear hcc10 hfr10; replace p10 := eq_true p10; replace q10 := eq_true q10) | ((with_reducible refine gate_st (p := 26) rfl ?_); refine pPR 0 26 (x5_1 : Int) 1 [.string t1111] k34 34 y1110 (⟨(rd_T34 y1110 x5_1).f0, t1111, (rd_T34 y1110 x5_1).f2⟩ : S34) z34 [.bool ((rd_T34 y1110 x5_1).f0), .string ((rd_T34 y1110 x5_1).f1), .string ((rd_T34 y1110 x5_1).f2)] HM rfl rfl (of_decide_eq_true AS) (by have h_ : (x5_1 : Int) < ((x0_1.length : Int) : Int) := of_decide_eq_true AS; have e_ := (HM.CR 0 rfl).1; omega) (fun _ _ h => k34_openM h) (k34_mkM _ _ _ (⟨(rd_T34 y1110 x5_1).f0, t1111, (rd_T34 y1110 x5_1).f2⟩ : S34)) ?_; clear HM; intro w11 HM; replace HM := HM.nm 0 rfl Ny1112.out) | ((with_reducible refine gate_callee (f := 51) rfl ?_); refine pC (some 32) rfl #[.int .i64 (wrap64 ((wrap64 (x1_1 + 1)) + 1))] rfl Try.func51 (laws_markText.calls k1 (wrap64 ((wrap64 (x1_1 + 1)) + 1)) t1113 _ A12.out) ?_; rintro e w13 ⟨rfl, hR⟩; refine ⟨_, rfl, ?_⟩; replace HM := HM.call hR; clear hR; have p14 : 0 ≤ (x5_1 : Int) := of_decide_eq_true AS; have q14 : (x5_1 : Int) < ((x0_1.length : Int) : Int) := of_decide_eq_true AS; obtain ⟨hcc14, hfr14⟩ := HM.el 0 rfl z34 (x5_1 : Int) p14 (by have h_ := (HM.CR 0 rfl).1; omega) [.bool ((rd_T34 y1112 x5_1).f0), .string ((rd_T34 y1112 x5_1).f1), .string ((rd_T34 y1112 x5_1).f2)] (fun _ _ h => k34_openM h); have hx14_0 : w13.cell? ⟨go6, (x5_1 : Int).toNat * 3, none⟩ = some (.bool ((rd_T34 y1112 x5_1).f0)) := (by have h_ := hcc14 0 _ rfl; first | exact h_ | (simp only [show (k34).sz = 3 from rfl, Nat.mul_one, Nat.add_zero] at h_; exact h_) | simpa using h_); have hf14_0 : w13.frozen? ⟨go6, (x5_1 : Int).toNat * 3, none⟩ = false := (by have h_ := hfr14 0; first | exact h_ | (simp only [show (k34).sz = 3 from rfl, Nat.mul_one, Nat.add_zero] at h_; exact h_) | simpa using h_); have hx14_1 : w13.cell? ⟨go6, (x5_1 : Int).toNat * 3 + 1, none⟩ = some (.string ((rd_T34 y1112 x5_1).f1)) := (by have h_ := hcc14 1 _ rfl; first | exact h_ | (simp only [show (k34).sz = 3 from rfl, Nat.mul_one, Nat.add_zero] at h_; exact h_) | simpa using h_); have hf14_1 : w13.frozen? ⟨go6, (x5_1 : Int).toNat * 3 + 1, none⟩ = false := (by have h_ := hfr14 1; first | exact h_ | (simp only [show (k34).sz = 3 from rfl, Nat.mul_one, Nat.add_zero] at h_; exact h_) | simpa using h_); have hx14_2 : w13.cell? ⟨go6, (x5_1 : Int).toNat * 3 + 2, none⟩ = some (.string ((rd_T34 y1112 x5_1).f2)) := (by have h_ := hcc14 2 _ rfl; first | exact h_ | (simp only [show (k34).sz = 3 from rfl, Nat.mul_one, Nat.add_zero] at h_; exact h_) | simpa using h_); have hf14_2 : w13.frozen? ⟨go6, (x5_1 : Int).toNat * 3 + 2, none⟩ = false := (by have h_ := hfr14 2; first | exact h_ | (simp only [show (k34).sz = 3 from rfl, Nat.mul_one, Nat.add_zero] at h_; exact h_) | simpa using h_); clear hcc14 hfr14; replace p14 := eq_true p14; replace q14 := eq_true q14) | ((with_reducible refine gate_st (p := 34) rfl ?_); refine pPR 0 34 (x5_1 : Int) 2 [.string t1113] k34 34 y1112 (⟨(rd_T34 y1112 x5_1).f0, (rd_T34 y1112 x5_1).f1, t1113⟩ : S34) z34 [.bool ((rd_T34 y1112 x5_1).f0), .string ((rd_T34 y1112 x5_1).f1), .string ((rd_T34 y1112 x5_1).f2)] HM rfl rfl (of_decide_eq_true AS) (by have h_ : (x5_1 : Int) < ((x0_1.length : Int) : Int) := of_decide_eq_true AS; have e_ := (HM.CR 0 rfl).1; omega) (fun _ _ h => k34_openM h) (k34_mkM _ _ _ (⟨(rd_T34 y1112 x5_1).f0, (rd_T34 y1112 x5_1).f1, t1113⟩ : S34)) ?_; clear HM; intro w15 HM))
    go_roundg k1
    case measure => have := HK1.out; omega
    case rel => exact ⟨((y1112.set (x5_1 : Int).toNat (⟨(rd_T34 y1112 x5_1).f0, (rd_T34 y1112 x5_1).f1, t1113⟩ : S34))), (wrap64 ((wrap64 ((wrap64 (x1_1 + 1)) + 1)) + 1)), (wrap64 (x5_1 + 1)), RS, RS, H', ⟨by have := HK1.out; omega⟩, (MD HM).pick [0]⟩
   ·have c4b0 : decide (x5_1 < (x0_1.length : Int)) = false := decide_eq_false c4
    clear c4
    (first | rw [c4b0] | (simp only [i64_w, i32_w]; rw [c4b0]) | skip)
    simp only [Option.some.injEq, Prod.mk.injEq] at H
    obtain ⟨rfl, rfl⟩ := H
    go_wp2
    go_ret
    exact ⟨ER, (MD HM).pick [0]⟩
def laws_heldReplyS.l0 : Nat → List (S34) → Int → Int → Option (Int)
 | 0, _, _, _ => none
 | k + 1, x0, x1, x5 => if x5 < (x0.length : Int) then (if 0 ≤ x5 then (if (((rd_T34 x0 x5).f0) != ((Int.tmod x1 3) == 0)) = true then (none) else ((laws_markText.f k (wrap64 (x1 + 1))).bind fun t1117 => (if ((rd_T34 x0 x5).f1).toList = t1117.toList then ((laws_markText.f k (wrap64 ((wrap64 (x1 + 1)) + 1))).bind fun t1119 => (if ((rd_T34 x0 x5).f2).toList = t1119.toList then (laws_heldReplyS.l0 k x0 (wrap64 ((wrap64 ((wrap64 (x1 + 1)) + 1)) + 1)) (wrap64 (x5 + 1))) else (none))) else (none)))) else (none)) else (some x1)
def laws_heldReplyS.f (k : Nat) (l0 : List (S34)) (a1 : Int) : Option (Int) := laws_heldReplyS.l0 k l0 a1 0
theorem laws_heldReplyS.mono_l : ∀ k, (∀ y0 y1 y2, LeO (laws_heldReplyS.l0 k y0 y1 y2) (laws_heldReplyS.l0 (k + 1) y0 y1 y2))
 | 0 => fun _ _ _ r h => by simp [laws_heldReplyS.l0] at h
 | k + 1 => by
  have ih0 := laws_heldReplyS.mono_l k
  ·intro y0 y1 y2
   unfold laws_heldReplyS.l0
   repeat' first | (with_reducible first | exact ih0 _ _ _ | exact laws_markText.mono _ _ | exact LeO.refl _ | exact LeO.none _ | refine LeO.ite ?_ ?_ | refine LeO.bind ?_ (fun _ => ?_)) | exact ih0 _ _ _ | exact laws_markText.mono _ _ | exact LeO.none _ | refine LeO.ite ?_ ?_ | refine LeO.bind ?_ (fun _ => ?_)
theorem laws_heldReplyS.mono : ∀ a0 a1 k, LeO (laws_heldReplyS.f k a0 a1) (laws_heldReplyS.f (k + 1) a0 a1) := by
 intro a0 a1 k
 have ih0 := laws_heldReplyS.mono_l k
 unfold laws_heldReplyS.f
 repeat' first | (with_reducible first | exact ih0 _ _ _ | exact laws_markText.mono _ _ | exact LeO.refl _ | exact LeO.none _ | refine LeO.ite ?_ ?_ | refine LeO.bind ?_ (fun _ => ?_)) | exact ih0 _ _ _ | exact laws_markText.mono _ _ | exact LeO.none _ | refine LeO.ite ?_ ?_ | refine LeO.bind ?_ (fun _ => ?_)
def laws_heldReplyS.T7 : Bool × List (List Nat × List Nat) := (true, [([], []), ([], []), ([0, 1], [0, 1]), ([2], [2]), ([3], [3]), ([], []), ([5], [5]), ([4, 6], [4, 6])])
def laws_heldReplyS.B7 : List Nat := [0, 0, 3, 7, 15, 0, 32, 127]
theorem laws_heldReplyS.tab7 : rtab .any (opsOf Try.f24 7) = laws_heldReplyS.T7 := by kernel_rfl
theorem laws_heldReplyS.bits7 : waitsOk laws_heldReplyS.T7.2 laws_heldReplyS.B7 = true := by kernel_rfl
def laws_heldReplyS.T10 : Bool × List (List Nat × List Nat) := (true, [([], []), ([], []), ([0, 1], [0, 1]), ([2], [2]), ([3], [3]), ([], []), ([5], [5]), ([4, 6], [4, 6])])
def laws_heldReplyS.B10 : List Nat := [0, 0, 3, 7, 15, 0, 32, 127]
theorem laws_heldReplyS.tab10 : rtab .any (opsOf Try.f24 10) = laws_heldReplyS.T10 := by kernel_rfl
theorem laws_heldReplyS.bits10 : waitsOk laws_heldReplyS.T10.2 laws_heldReplyS.B10 = true := by kernel_rfl
set_option maxHeartbeats 8000000 in
set_option maxRecDepth 100000 in
theorem laws_heldReplyS.calls (k : Nat) (A0 : Option Addr) (c0 : Nat) (l0 : List (S34)) (a1 : Int) (r : Int) (w : World) (hr0 : Kd.C k34 w A0 l0.length l0) (hc0 : l0.length ≤ c0) (h : laws_heldReplyS.f k l0 a1 = some r) :
  Calls Try.prog 24 #[.slice A0 l0.length c0, .int .i64 a1] w fun e w' => e = .returned (.int .i64 r) ∧ Mem w [] w' [] := by
 have HR0 := Aside0.mk hr0
 have HC0 := Aside0.mk hc0
 clear hr0 hc0
 have HM := Mem.nil w
 have H := h
 clear h
 unfold laws_heldReplyS.f at H
 go_enter Try.func24, Try.ntmps24
 have H' := Aside0.mk H
 clear H
 go_wp2
 go_loopg [1, 5] k (fun kq v1 v5 w' => ∃ (x1_1 : Int) (x5_1 : Int), v1 = .int .i64 x1_1 ∧ v5 = .int .i64 x5_1 ∧ Aside0 (laws_heldReplyS.l0 kq l0 x1_1 x5_1 = some r) ∧ Aside0 (kq ≤ k) ∧ Mem w [] w' [])
 case atStart => exact ⟨(a1), (0), RS, RS, H', ⟨Nat.le_refl _⟩, (MD HM).pick []⟩
 case round =>
  clear H' HM
  obtain ⟨x1_1, x5_1, rfl, rfl, HA, HK1, HM⟩ := hrel
  cases gk with
  | zero => exact absurd HA.out (by simp [laws_heldReplyS.l0])
  | succ k1 =>
   have H := HA.out
   clear HA
   simp only [laws_heldReplyS.l0] at H
   go_upto_if 9 with (fail)
   replace H := IT H; rcases H with ⟨c3, H⟩ | ⟨c3, H⟩
   ·have c3b0 : decide (x5_1 < (l0.length : Int)) = true := decide_eq_true c3
    clear c3
    (first | rw [c3b0] | (simp only [i64_w, i32_w]; rw [c3b0]) | skip)
    replace H := GD H; obtain ⟨c4, H⟩ := H
    have c4b0 : decide (0 ≤ x5_1) = true := decide_eq_true c4
    clear c4
    replace H := GN H; obtain ⟨c5, H⟩ := H
    have c5b0 : (((rd_T34 l0 x5_1).f0) != ((Int.tmod x1_1 3) == 0)) = false := by simpa using c5
    (try (have c5b1 : decide (((rd_T34 l0 x5_1).f0) = ((Int.tmod x1_1 3) == 0)) = true := by simpa using c5))
    (try (have c5b2 : (((rd_T34 l0 x5_1).f0) == ((Int.tmod x1_1 3) == 0)) = true := by simpa using c5))
    have c5b8 := c5
    try simp at c5b8
    clear c5
    have p1115 : 0 ≤ (x5_1 : Int) := of_decide_eq_true AS
    have q1115 : (x5_1 : Int) < (l0.length : Int) := of_decide_eq_true AS
    obtain ⟨ad1115, e1115, hx1115_0, hx1115_1, hx1115_2⟩ := at_T34 (HM.came HR0.out) x5_1 p1115 q1115
    cases e1115
    replace p1115 := eq_true p1115
    replace q1115 := eq_true q1115
    try go_wp2
    replace H := BN H; obtain ⟨t1117, A6, H⟩ := H
    have p1116 : 0 ≤ (x5_1 : Int) := of_decide_eq_true AS
    have q1116 : (x5_1 : Int) < (l0.length : Int) := of_decide_eq_true AS
    obtain ⟨ad1116, e1116, hx1116_0, hx1116_1, hx1116_2⟩ := at_T34 (HM.came HR0.out) x5_1 p1116 q1116
    obtain rfl := Option.some.inj e1116
    replace p1116 := eq_true p1116
    replace q1116 := eq_true q1116
    refine RGN 8 [0, 1, 2, 3, 4, 5, 6, 7] (fun a0 b a w' => a = putSel a0 b [(0, 23, .slice (some ad1115) l0.length c0), (1, 24, .int .i64 x5_1), (2, 25, .pointer (some (ad1115.add ((x5_1).toNat * 3)))), (3, 26, .pointer (some ⟨(ad1115.add ((x5_1).toNat * 3)).block, (ad1115.add ((x5_1).toNat * 3)).off + 1, none⟩)), (4, 27, .string ((rd_T34 l0 x5_1).f1)), (5, 28, .int .i64 (wrap64 (x1_1 + 1))), (6, 29, .string t1117), (7, 30, .bool (((rd_T34 l0 x5_1).f1).toList != t1117.toList))] ∧ Mem w [] w' []) laws_heldReplyS.tab7 laws_heldReplyS.bits7 ?_ ?_ ?_
    ·exact ⟨PS0' rfl _, (HM.drew).pick []⟩
    ·clear HM
     refine steps_cons ?_ ?_
     ·rintro b a w ⟨ha, HM⟩ hb hon hoff
      refine ⟨_, rfl, fun K hK => ?_⟩
      have e0 := POF ha 0
      replace ha := Aside0.mk ha
      exact VL (.slice (some ad1115) l0.length c0) (hK.out _ _ ⟨PUT ha 0 hb, HM⟩)
     refine steps_cons ?_ ?_
     ·rintro b a w ⟨ha, HM⟩ hb hon hoff
      refine ⟨_, rfl, fun K hK => ?_⟩
      have e5 := POF ha 5
      replace ha := Aside0.mk ha
      exact VL (.int .i64 x5_1) (hK.out _ _ ⟨PUT ha 1 hb, HM⟩)
     refine steps_cons ?_ ?_
     ·rintro b a w ⟨ha, HM⟩ hb hon hoff
      refine ⟨_, rfl, fun K hK => ?_⟩
      have p1116 : 0 ≤ (x5_1 : Int) := of_decide_eq_true AS
      have q1116 : (x5_1 : Int) < (l0.length : Int) := of_decide_eq_true AS
      obtain ⟨ad1116, e1116, hx1116_0, hx1116_1, hx1116_2⟩ := at_T34 (HM.came HR0.out) x5_1 p1116 q1116
      obtain rfl := Option.some.inj e1116
      replace p1116 := eq_true p1116
      replace q1116 := eq_true q1116
      have e23 := PON ha 0 (hon 0 (by kernel_rfl))
      have e24 := PON ha 1 (hon 1 (by kernel_rfl))
      replace ha := Aside0.mk ha
      exact VL (.pointer (some (ad1115.add ((x5_1).toNat * 3)))) (hK.out _ _ ⟨PUT ha 2 hb, HM⟩)
     refine steps_cons ?_ ?_
     ·rintro b a w ⟨ha, HM⟩ hb hon hoff
      refine ⟨_, rfl, fun K hK => ?_⟩
      have e25 := PON ha 2 (hon 2 (by kernel_rfl))
      replace ha := Aside0.mk ha
      exact VL (.pointer (some ⟨(ad1115.add ((x5_1).toNat * 3)).block, (ad1115.add ((x5_1).toNat * 3)).off + 1, none⟩)) (hK.out _ _ ⟨PUT ha 3 hb, HM⟩)
     refine steps_cons ?_ ?_
     ·rintro b a w ⟨ha, HM⟩ hb hon hoff
      refine ⟨_, rfl, fun K hK => ?_⟩
      have p1116 : 0 ≤ (x5_1 : Int) := of_decide_eq_true AS
      have q1116 : (x5_1 : Int) < (l0.length : Int) := of_decide_eq_true AS
      obtain ⟨ad1116, e1116, hx1116_0, hx1116_1, hx1116_2⟩ := at_T34 (HM.came HR0.out) x5_1 p1116 q1116
      obtain rfl := Option.some.inj e1116
      replace p1116 := eq_true p1116
      replace q1116 := eq_true q1116
      have e26 := PON ha 3 (hon 3 (by kernel_rfl))
      replace ha := Aside0.mk ha
      exact VL (.string ((rd_T34 l0 x5_1).f1)) (hK.out _ _ ⟨PUT ha 4 hb, HM⟩)
     refine steps_cons ?_ ?_
     ·rintro b a w ⟨ha, HM⟩ hb hon hoff
      refine ⟨_, rfl, fun K hK => ?_⟩
      have e1 := POF ha 1
      replace ha := Aside0.mk ha
      exact VL (.int .i64 (wrap64 (x1_1 + 1))) (hK.out _ _ ⟨PUT ha 5 hb, HM⟩)
     refine steps_cons ?_ ?_
     ·rintro b a w ⟨ha, HM⟩ hb hon hoff
      refine ⟨_, rfl, fun K hK => ?_⟩
      have e28 := PON ha 5 (hon 5 (by kernel_rfl))
      replace ha := Aside0.mk ha
      refine ST (eC (some 29) rfl #[.int .i64 (wrap64 (x1_1 + 1))] rfl Try.func51 (laws_markText.calls k1 (wrap64 (x1_1 + 1)) t1117 _ A6.out) ?_ (hargs := by (simp only [List.map_toArray, List.map_cons, List.map_nil, evc, eval_of e28]) <;> rfl))
      rintro e w8 ⟨rfl, hR⟩
      refine ⟨_, rfl, ?_⟩
      replace HM := HM.call hR
      clear hR
      exact hK.out _ _ ⟨PUT ha 6 hb, (HM).pick []⟩
     refine steps_cons ?_ ?_
     ·rintro b a w ⟨ha, HM⟩ hb hon hoff
      refine ⟨_, rfl, fun K hK => ?_⟩
      have e27 := PON ha 4 (hon 4 (by kernel_rfl))
      have e29 := PON ha 6 (hon 6 (by kernel_rfl))
      replace ha := Aside0.mk ha
      exact VL (.bool (((rd_T34 l0 x5_1).f1).toList != t1117.toList)) (hK.out _ _ ⟨PUT ha 7 hb, HM⟩)
     exact steps_nil
    rintro _ w9 ⟨rfl, HM⟩
    simp only [putSel, if_true, Act.put, List.setIfInBounds_toArray, List.set_cons_zero, List.set_cons_succ, gt_iff_lt, ge_iff_le]
    replace H := GD H; obtain ⟨c10, H⟩ := H
    have c10b0 : (((rd_T34 l0 x5_1).f1).toList == t1117.toList) = true := beq_iff_eq.mpr c10
    have c10b1 : (((rd_T34 l0 x5_1).f1).toList != t1117.toList) = false := bne_eq_false_iff_eq.mpr c10
    clear c10
    (first | rw [c10b0] | rw [c10b1] | skip)
    try go_wp2
    replace H := BN H; obtain ⟨t1119, A11, H⟩ := H
    have p1118 : 0 ≤ (x5_1 : Int) := of_decide_eq_true AS
    have q1118 : (x5_1 : Int) < (l0.length : Int) := of_decide_eq_true AS
    obtain ⟨ad1118, e1118, hx1118_0, hx1118_1, hx1118_2⟩ := at_T34 (HM.came HR0.out) x5_1 p1118 q1118
    obtain rfl := Option.some.inj e1118
    replace p1118 := eq_true p1118
    replace q1118 := eq_true q1118
    refine RGN 8 [0, 1, 2, 3, 4, 5, 6, 7] (fun a0 b a w' => a = putSel a0 b [(0, 33, .slice (some ad1115) l0.length c0), (1, 34, .int .i64 x5_1), (2, 35, .pointer (some (ad1115.add ((x5_1).toNat * 3)))), (3, 36, .pointer (some ⟨(ad1115.add ((x5_1).toNat * 3)).block, (ad1115.add ((x5_1).toNat * 3)).off + 2, none⟩)), (4, 37, .string ((rd_T34 l0 x5_1).f2)), (5, 38, .int .i64 (wrap64 ((wrap64 (x1_1 + 1)) + 1))), (6, 39, .string t1119), (7, 40, .bool (((rd_T34 l0 x5_1).f2).toList != t1119.toList))] ∧ Mem w [] w' []) laws_heldReplyS.tab10 laws_heldReplyS.bits10 ?_ ?_ ?_
    ·exact ⟨PS0' rfl _, (HM.drew).pick []⟩
    ·clear HM
     refine steps_cons ?_ ?_
     ·rintro b a w ⟨ha, HM⟩ hb hon hoff
      refine ⟨_, rfl, fun K hK => ?_⟩
      have e0 := POF ha 0
      replace ha := Aside0.mk ha
      exact VL (.slice (some ad1115) l0.length c0) (hK.out _ _ ⟨PUT ha 0 hb, HM⟩)
     refine steps_cons ?_ ?_
     ·rintro b a w ⟨ha, HM⟩ hb hon hoff
      refine ⟨_, rfl, fun K hK => ?_⟩
      have e5 := POF ha 5
      replace ha := Aside0.mk ha
      exact VL (.int .i64 x5_1) (hK.out _ _ ⟨PUT ha 1 hb, HM⟩)
     refine steps_cons ?_ ?_
     ·rintro b a w ⟨ha, HM⟩ hb hon hoff
      refine ⟨_, rfl, fun K hK => ?_⟩
      have p1118 : 0 ≤ (x5_1 : Int) := of_decide_eq_true AS
      have q1118 : (x5_1 : Int) < (l0.length : Int) := of_decide_eq_true AS
      obtain ⟨ad1118, e1118, hx1118_0, hx1118_1, hx1118_2⟩ := at_T34 (HM.came HR0.out) x5_1 p1118 q1118
      obtain rfl := Option.some.inj e1118
      replace p1118 := eq_true p1118
      replace q1118 := eq_true q1118
      have e33 := PON ha 0 (hon 0 (by kernel_rfl))
      have e34 := PON ha 1 (hon 1 (by kernel_rfl))
      replace ha := Aside0.mk ha
      exact VL (.pointer (some (ad1115.add ((x5_1).toNat * 3)))) (hK.out _ _ ⟨PUT ha 2 hb, HM⟩)
     refine steps_cons ?_ ?_
     ·rintro b a w ⟨ha, HM⟩ hb hon hoff
      refine ⟨_, rfl, fun K hK => ?_⟩
      have e35 := PON ha 2 (hon 2 (by kernel_rfl))
      replace ha := Aside0.mk ha
      exact VL (.pointer (some ⟨(ad1115.add ((x5_1).toNat * 3)).block, (ad1115.add ((x5_1).toNat * 3)).off + 2, none⟩)) (hK.out _ _ ⟨PUT ha 3 hb, HM⟩)
     refine steps_cons ?_ ?_
     ·rintro b a w ⟨ha, HM⟩ hb hon hoff
      refine ⟨_, rfl, fun K hK => ?_⟩
      have p1118 : 0 ≤ (x5_1 : Int) := of_decide_eq_true AS
      have q1118 : (x5_1 : Int) < (l0.length : Int) := of_decide_eq_true AS
      obtain ⟨ad1118, e1118, hx1118_0, hx1118_1, hx1118_2⟩ := at_T34 (HM.came HR0.out) x5_1 p1118 q1118
      obtain rfl := Option.some.inj e1118
      replace p1118 := eq_true p1118
      replace q1118 := eq_true q1118
      have e36 := PON ha 3 (hon 3 (by kernel_rfl))
      replace ha := Aside0.mk ha
      exact VL (.string ((rd_T34 l0 x5_1).f2)) (hK.out _ _ ⟨PUT ha 4 hb, HM⟩)
     refine steps_cons ?_ ?_
     ·rintro b a w ⟨ha, HM⟩ hb hon hoff
      refine ⟨_, rfl, fun K hK => ?_⟩
      have e1 := POF ha 1
      replace ha := Aside0.mk ha
      exact VL (.int .i64 (wrap64 ((wrap64 (x1_1 + 1)) + 1))) (hK.out _ _ ⟨PUT ha 5 hb, HM⟩)
     refine steps_cons ?_ ?_
     ·rintro b a w ⟨ha, HM⟩ hb hon hoff
      refine ⟨_, rfl, fun K hK => ?_⟩
      have e38 := PON ha 5 (hon 5 (by kernel_rfl))
      replace ha := Aside0.mk ha
      refine ST (eC (some 39) rfl #[.int .i64 (wrap64 ((wrap64 (x1_1 + 1)) + 1))] rfl Try.func51 (laws_markText.calls k1 (wrap64 ((wrap64 (x1_1 + 1)) + 1)) t1119 _ A11.out) ?_ (hargs := by (simp only [List.map_toArray, List.map_cons, List.map_nil, evc, eval_of e38]) <;> rfl))
      rintro e w13 ⟨rfl, hR⟩
      refine ⟨_, rfl, ?_⟩
      replace HM := HM.call hR
      clear hR
      exact hK.out _ _ ⟨PUT ha 6 hb, (HM).pick []⟩
     refine steps_cons ?_ ?_
     ·rintro b a w ⟨ha, HM⟩ hb hon hoff
      refine ⟨_, rfl, fun K hK => ?_⟩
      have e37 := PON ha 4 (hon 4 (by kernel_rfl))
      have e39 := PON ha 6 (hon 6 (by kernel_rfl))
      replace ha := Aside0.mk ha
      exact VL (.bool (((rd_T34 l0 x5_1).f2).toList != t1119.toList)) (hK.out _ _ ⟨PUT ha 7 hb, HM⟩)
     exact steps_nil
    rintro _ w14 ⟨rfl, HM⟩
    simp only [putSel, if_true, Act.put, List.setIfInBounds_toArray, List.set_cons_zero, List.set_cons_succ, gt_iff_lt, ge_iff_le]
    replace H := GD H; obtain ⟨c15, H⟩ := H
    have c15b0 : (((rd_T34 l0 x5_1).f2).toList == t1119.toList) = true := beq_iff_eq.mpr c15
    have c15b1 : (((rd_T34 l0 x5_1).f2).toList != t1119.toList) = false := bne_eq_false_iff_eq.mpr c15
    clear c15
    (first | rw [c15b0] | rw [c15b1] | skip)
    have H' := Aside0.mk H
    clear H
    go_wp2
    go_roundg k1
    case measure => have := HK1.out; omega
    case rel => exact ⟨(wrap64 ((wrap64 ((wrap64 (x1_1 + 1)) + 1)) + 1)), (wrap64 (x5_1 + 1)), RS, RS, H', ⟨by have := HK1.out; omega⟩, (MD HM).pick []⟩
   ·have c3b0 : decide (x5_1 < (l0.length : Int)) = false := decide_eq_false c3
    clear c3
    (first | rw [c3b0] | (simp only [i64_w, i32_w]; rw [c3b0]) | skip)
    obtain rfl := Option.some.inj H
    go_wp2
    go_ret
    exact ⟨ER, (MD HM).pick []⟩
mutual
def laws_FnExactOpsDo.j0 : Nat → List (S27) → List (S34) → List (S38) → List (S34) → Bool → Int → Int → List (S97) → List (S97) → List Int → Int → Int → List (S95) → List (S95) → List Int → Int → Int → List (S95) → List (S95) → List Int → Int → Int → List (S95) → List (S95) → List Int → Option (Bool)
 | 0, _, _, _, _, _, _, _, _, _, _, _, _, _, _, _, _, _, _, _, _, _, _, _, _, _ => none
 | k + 1, x1, x7, x9, x11, x54, x1121000, x1121001, x1121002, x1121003, x1121004, x1152000, x1152001, x1152002, x1152003, x1152004, x1164000, x1164001, x1164002, x1164003, x1164004, x1182000, x1182001, x1182002, x1182003, x1182004 => if x54 = true then (none) else ((laws_toThree.f k x1121000 x1121001 x1121002 x1121003 x1121004).bind fun bt1184 => ((laws_eqThree.f k x1164000 x1164001 x1164002 x1164003 x1164004 bt1184.1 bt1184.2.1 bt1184.2.2.1 bt1184.2.2.2.1 bt1184.2.2.2.2).bind fun t1195 => (if t1195 = true then ((laws_toOpS.f k x1).bind fun t1196 => ((laws_eqOpS.f k x9 t1196).bind fun t1199 => (if t1199 = true then ((laws_markThree.f k x1164000 x1164001 x1164002 x1164003 x1164004 1).bind fun bt1200 => ((laws_markOpS.f k x9 bt1200.1).bind fun bt1204 => (if bt1204.1 < 0 then (laws_FnExactOpsDo.j1 k x1 x7 x11 true x1121000 x1121001 x1121002 x1121003 x1121004 x1152000 x1152001 x1152002 x1152003 x1152004 x1182000 x1182001 x1182002 x1182003 x1182004) else ((laws_eqThree.f k x1182000 x1182001 x1182002 x1182003 x1182004 x1152000 x1152001 x1152002 x1152003 x1152004).bind fun t1206 => (if t1206 = true then ((laws_eqReplyS.f k x11 x7).bind fun t1207 => (laws_FnExactOpsDo.j1 k x1 x7 x11 (!t1207) x1121000 x1121001 x1121002 x1121003 x1121004 x1152000 x1152001 x1152002 x1152003 x1152004 x1182000 x1182001 x1182002 x1182003 x1182004)) else (laws_FnExactOpsDo.j1 k x1 x7 x11 true x1121000 x1121001 x1121002 x1121003 x1121004 x1152000 x1152001 x1152002 x1152003 x1152004 x1182000 x1182001 x1182002 x1182003 x1182004)))))) else (none)))) else (none))))
def laws_FnExactOpsDo.j1 : Nat → List (S27) → List (S34) → List (S34) → Bool → Int → Int → List (S97) → List (S97) → List Int → Int → Int → List (S95) → List (S95) → List Int → Int → Int → List (S95) → List (S95) → List Int → Option (Bool)
 | 0, _, _, _, _, _, _, _, _, _, _, _, _, _, _, _, _, _, _, _ => none
 | k + 1, x1, x7, x11, x84, x1121000, x1121001, x1121002, x1121003, x1121004, x1152000, x1152001, x1152002, x1152003, x1152004, x1182000, x1182001, x1182002, x1182003, x1182004 => if x84 = true then (none) else ((laws_markThree.f k x1182000 x1182001 x1182002 x1182003 x1182004 1).bind fun bt1208 => ((laws_markReplyS.f k x11 bt1208.1).bind fun bt1212 => ((laws_heldThree.f k x1182000 x1182001 bt1208.2.1 bt1208.2.2.1 bt1208.2.2.2 1).bind fun t1214 => (if t1214 < 0 then (none) else ((laws_heldReplyS.f k bt1212.2 t1214).bind fun t1215 => (if t1215 < 0 then (none) else (if t1215 = bt1212.1 then ((laws_toThree.f k x1121000 x1121001 x1121002 x1121003 x1121004).bind fun bt1216 => ((laws_toOpS.f k x1).bind fun t1227 => ((impl_OpsDo.f k bt1216.1 bt1216.2.1 bt1216.2.2.1 bt1216.2.2.2.1 bt1216.2.2.2.2 t1227).bind fun bt1230 => ((laws_eqThree.f k bt1230.1 bt1230.2.1 bt1230.2.2.1 bt1230.2.2.2.1 bt1230.2.2.2.2.1 x1152000 x1152001 x1152002 x1152003 x1152004).bind fun t1245 => (if t1245 = true then ((laws_eqReplyS.f k bt1230.2.2.2.2.2 x7).bind fun t1246 => (laws_FnExactOpsDo.j2 k bt1212.2 bt1212.1 (!t1246) x1182000 x1182001 bt1208.2.1 bt1208.2.2.1 bt1208.2.2.2)) else (laws_FnExactOpsDo.j2 k bt1212.2 bt1212.1 true x1182000 x1182001 bt1208.2.1 bt1208.2.2.1 bt1208.2.2.2)))))) else (none))))))))
def laws_FnExactOpsDo.j2 : Nat → List (S34) → Int → Bool → Int → Int → List (S95) → List (S95) → List Int → Option (Bool)
 | 0, _, _, _, _, _, _, _, _ => none
 | k + 1, x11, x13, x121, x1182000, x1182001, x1182002, x1182003, x1182004 => if x121 = true then (none) else ((laws_heldThree.f k x1182000 x1182001 x1182002 x1182003 x1182004 1).bind fun t1247 => (if t1247 < 0 then (none) else ((laws_heldReplyS.f k x11 t1247).bind fun t1248 => (if t1248 < 0 then (none) else (if t1248 = x13 then (some true) else (none))))))
end
def laws_FnExactOpsDo.f (k : Nat) (a0_0 : Int) (a0_1 : Int) (l0_2 : List (S97)) (l0_3 : List (S97)) (l0_4 : List Int) (l1 : List (S27)) : Option (Bool) := (laws_szThree.f k a0_0 a0_1 l0_2 l0_3 l0_4 1048576).bind fun t1121 => (if t1121 < 0 then (some true) else ((laws_szOpS.f k l1 t1121).bind fun t1122 => (if t1122 < 0 then (some true) else ((laws_toThree.f k a0_0 a0_1 l0_2 l0_3 l0_4).bind fun bt1123 => ((laws_toOpS.f k l1).bind fun t1134 => ((spec_OpsDo.f k bt1123.1 bt1123.2.1 bt1123.2.2.1 bt1123.2.2.2.1 bt1123.2.2.2.2 t1134).bind fun bt1137 => ((laws_toThree.f k a0_0 a0_1 l0_2 l0_3 l0_4).bind fun bt1152 => ((laws_toOpS.f k l1).bind fun t1164 => ((impl_OpsDo.f k bt1152.1 bt1152.2.1 bt1152.2.2.1 bt1152.2.2.2.1 bt1152.2.2.2.2 t1164).bind fun bt1167 => ((laws_eqThree.f k bt1167.1 bt1167.2.1 bt1167.2.2.1 bt1167.2.2.2.1 bt1167.2.2.2.2.1 bt1137.1 bt1137.2.1 bt1137.2.2.1 bt1137.2.2.2.1 bt1137.2.2.2.2.1).bind fun t1182 => (if t1182 = true then ((laws_eqReplyS.f k bt1167.2.2.2.2.2 bt1137.2.2.2.2.2).bind fun t1183 => (laws_FnExactOpsDo.j0 k l1 bt1137.2.2.2.2.2 t1164 bt1167.2.2.2.2.2 (!t1183) a0_0 a0_1 l0_2 l0_3 l0_4 bt1137.1 bt1137.2.1 bt1137.2.2.1 bt1137.2.2.2.1 bt1137.2.2.2.2.1 bt1152.1 bt1152.2.1 bt1152.2.2.1 bt1152.2.2.2.1 bt1152.2.2.2.2 bt1167.1 bt1167.2.1 bt1167.2.2.1 bt1167.2.2.2.1 bt1167.2.2.2.2.1)) else (laws_FnExactOpsDo.j0 k l1 bt1137.2.2.2.2.2 t1164 bt1167.2.2.2.2.2 true a0_0 a0_1 l0_2 l0_3 l0_4 bt1137.1 bt1137.2.1 bt1137.2.2.1 bt1137.2.2.2.1 bt1137.2.2.2.2.1 bt1152.1 bt1152.2.1 bt1152.2.2.1 bt1152.2.2.2.1 bt1152.2.2.2.2 bt1167.1 bt1167.2.1 bt1167.2.2.1 bt1167.2.2.2.1 bt1167.2.2.2.2.1))))))))))))
theorem laws_FnExactOpsDo.mono_l : ∀ k, (∀ y0 y1 y2 y3 y4 y5 y6 y7 y8 y9 y10 y11 y12 y13 y14 y15 y16 y17 y18 y19 y20 y21 y22 y23 y24, LeO (laws_FnExactOpsDo.j0 k y0 y1 y2 y3 y4 y5 y6 y7 y8 y9 y10 y11 y12 y13 y14 y15 y16 y17 y18 y19 y20 y21 y22 y23 y24) (laws_FnExactOpsDo.j0 (k + 1) y0 y1 y2 y3 y4 y5 y6 y7 y8 y9 y10 y11 y12 y13 y14 y15 y16 y17 y18 y19 y20 y21 y22 y23 y24)) ∧ (∀ y0 y1 y2 y3 y4 y5 y6 y7 y8 y9 y10 y11 y12 y13 y14 y15 y16 y17 y18, LeO (laws_FnExactOpsDo.j1 k y0 y1 y2 y3 y4 y5 y6 y7 y8 y9 y10 y11 y12 y13 y14 y15 y16 y17 y18) (laws_FnExactOpsDo.j1 (k + 1) y0 y1 y2 y3 y4 y5 y6 y7 y8 y9 y10 y11 y12 y13 y14 y15 y16 y17 y18)) ∧ (∀ y0 y1 y2 y3 y4 y5 y6 y7, LeO (laws_FnExactOpsDo.j2 k y0 y1 y2 y3 y4 y5 y6 y7) (laws_FnExactOpsDo.j2 (k + 1) y0 y1 y2 y3 y4 y5 y6 y7))
 | 0 => ⟨fun _ _ _ _ _ _ _ _ _ _ _ _ _ _ _ _ _ _ _ _ _ _ _ _ _ r h => by simp [laws_FnExactOpsDo.j0] at h, fun _ _ _ _ _ _ _ _ _ _ _ _ _ _ _ _ _ _ _ r h => by simp [laws_FnExactOpsDo.j1] at h, fun _ _ _ _ _ _ _ _ r h => by simp [laws_FnExactOpsDo.j2] at h⟩
 | k + 1 => by
  obtain ⟨ih0, ih1, ih2⟩ := laws_FnExactOpsDo.mono_l k
  refine ⟨?_, ?_, ?_⟩
  ·intro y0 y1 y2 y3 y4 y5 y6 y7 y8 y9 y10 y11 y12 y13 y14 y15 y16 y17 y18 y19 y20 y21 y22 y23 y24
   unfold laws_FnExactOpsDo.j0
   repeat' first | (with_reducible first | exact ih0 _ _ _ _ _ _ _ _ _ _ _ _ _ _ _ _ _ _ _ _ _ _ _ _ _ | exact ih1 _ _ _ _ _ _ _ _ _ _ _ _ _ _ _ _ _ _ _ | exact ih2 _ _ _ _ _ _ _ _ | exact impl_OpsDo.mono _ _ _ _ _ _ _ | exact laws_eqOpS.mono _ _ _ | exact laws_eqReplyS.mono _ _ _ | exact laws_eqThree.mono _ _ _ _ _ _ _ _ _ _ _ | exact laws_heldReplyS.mono _ _ _ | exact laws_heldThree.mono _ _ _ _ _ _ _ | exact laws_markOpS.mono _ _ _ | exact laws_markReplyS.mono _ _ _ | exact laws_markThree.mono _ _ _ _ _ _ _ | exact laws_szOpS.mono _ _ _ | exact laws_szThree.mono _ _ _ _ _ _ _ | exact laws_toOpS.mono _ _ | exact laws_toThree.mono _ _ _ _ _ _ | exact spec_OpsDo.mono _ _ _ _ _ _ _ | exact LeO.refl _ | exact LeO.none _ | refine LeO.ite ?_ ?_ | refine LeO.bind ?_ (fun _ => ?_)) | exact ih0 _ _ _ _ _ _ _ _ _ _ _ _ _ _ _ _ _ _ _ _ _ _ _ _ _ | exact ih1 _ _ _ _ _ _ _ _ _ _ _ _ _ _ _ _ _ _ _ | exact ih2 _ _ _ _ _ _ _ _ | exact impl_OpsDo.mono _ _ _ _ _ _ _ | exact laws_eqOpS.mono _ _ _ | exact laws_eqReplyS.mono _ _ _ | exact laws_eqThree.mono _ _ _ _ _ _ _ _ _ _ _ | exact laws_heldReplyS.mono _ _ _ | exact laws_heldThree.mono _ _ _ _ _ _ _ | exact laws_markOpS.mono _ _ _ | exact laws_markReplyS.mono _ _ _ | exact laws_markThree.mono _ _ _ _ _ _ _ | exact laws_szOpS.mono _ _ _ | exact laws_szThree.mono _ _ _ _ _ _ _ | exact laws_toOpS.mono _ _ | exact laws_toThree.mono _ _ _ _ _ _ | exact spec_OpsDo.mono _ _ _ _ _ _ _ | exact LeO.none _ | refine LeO.ite ?_ ?_ | refine LeO.bind ?_ (fun _ => ?_)
  ·intro y0 y1 y2 y3 y4 y5 y6 y7 y8 y9 y10 y11 y12 y13 y14 y15 y16 y17 y18
   unfold laws_FnExactOpsDo.j1
   repeat' first | (with_reducible first | exact ih0 _ _ _ _ _ _ _ _ _ _ _ _ _ _ _ _ _ _ _ _ _ _ _ _ _ | exact ih1 _ _ _ _ _ _ _ _ _ _ _ _ _ _ _ _ _ _ _ | exact ih2 _ _ _ _ _ _ _ _ | exact impl_OpsDo.mono _ _ _ _ _ _ _ | exact laws_eqOpS.mono _ _ _ | exact laws_eqReplyS.mono _ _ _ | exact laws_eqThree.mono _ _ _ _ _ _ _ _ _ _ _ | exact laws_heldReplyS.mono _ _ _ | exact laws_heldThree.mono _ _ _ _ _ _ _ | exact laws_markOpS.mono _ _ _ | exact laws_markReplyS.mono _ _ _ | exact laws_markThree.mono _ _ _ _ _ _ _ | exact laws_szOpS.mono _ _ _ | exact laws_szThree.mono _ _ _ _ _ _ _ | exact laws_toOpS.mono _ _ | exact laws_toThree.mono _ _ _ _ _ _ | exact spec_OpsDo.mono _ _ _ _ _ _ _ | exact LeO.refl _ | exact LeO.none _ | refine LeO.ite ?_ ?_ | refine LeO.bind ?_ (fun _ => ?_)) | exact ih0 _ _ _ _ _ _ _ _ _ _ _ _ _ _ _ _ _ _ _ _ _ _ _ _ _ | exact ih1 _ _ _ _ _ _ _ _ _ _ _ _ _ _ _ _ _ _ _ | exact ih2 _ _ _ _ _ _ _ _ | exact impl_OpsDo.mono _ _ _ _ _ _ _ | exact laws_eqOpS.mono _ _ _ | exact laws_eqReplyS.mono _ _ _ | exact laws_eqThree.mono _ _ _ _ _ _ _ _ _ _ _ | exact laws_heldReplyS.mono _ _ _ | exact laws_heldThree.mono _ _ _ _ _ _ _ | exact laws_markOpS.mono _ _ _ | exact laws_markReplyS.mono _ _ _ | exact laws_markThree.mono _ _ _ _ _ _ _ | exact laws_szOpS.mono _ _ _ | exact laws_szThree.mono _ _ _ _ _ _ _ | exact laws_toOpS.mono _ _ | exact laws_toThree.mono _ _ _ _ _ _ | exact spec_OpsDo.mono _ _ _ _ _ _ _ | exact LeO.none _ | refine LeO.ite ?_ ?_ | refine LeO.bind ?_ (fun _ => ?_)
  ·intro y0 y1 y2 y3 y4 y5 y6 y7
   unfold laws_FnExactOpsDo.j2
   repeat' first | (with_reducible first | exact ih0 _ _ _ _ _ _ _ _ _ _ _ _ _ _ _ _ _ _ _ _ _ _ _ _ _ | exact ih1 _ _ _ _ _ _ _ _ _ _ _ _ _ _ _ _ _ _ _ | exact ih2 _ _ _ _ _ _ _ _ | exact impl_OpsDo.mono _ _ _ _ _ _ _ | exact laws_eqOpS.mono _ _ _ | exact laws_eqReplyS.mono _ _ _ | exact laws_eqThree.mono _ _ _ _ _ _ _ _ _ _ _ | exact laws_heldReplyS.mono _ _ _ | exact laws_heldThree.mono _ _ _ _ _ _ _ | exact laws_markOpS.mono _ _ _ | exact laws_markReplyS.mono _ _ _ | exact laws_markThree.mono _ _ _ _ _ _ _ | exact laws_szOpS.mono _ _ _ | exact laws_szThree.mono _ _ _ _ _ _ _ | exact laws_toOpS.mono _ _ | exact laws_toThree.mono _ _ _ _ _ _ | exact spec_OpsDo.mono _ _ _ _ _ _ _ | exact LeO.refl _ | exact LeO.none _ | refine LeO.ite ?_ ?_ | refine LeO.bind ?_ (fun _ => ?_)) | exact ih0 _ _ _ _ _ _ _ _ _ _ _ _ _ _ _ _ _ _ _ _ _ _ _ _ _ | exact ih1 _ _ _ _ _ _ _ _ _ _ _ _ _ _ _ _ _ _ _ | exact ih2 _ _ _ _ _ _ _ _ | exact impl_OpsDo.mono _ _ _ _ _ _ _ | exact laws_eqOpS.mono _ _ _ | exact laws_eqReplyS.mono _ _ _ | exact laws_eqThree.mono _ _ _ _ _ _ _ _ _ _ _ | exact laws_heldReplyS.mono _ _ _ | exact laws_heldThree.mono _ _ _ _ _ _ _ | exact laws_markOpS.mono _ _ _ | exact laws_markReplyS.mono _ _ _ | exact laws_markThree.mono _ _ _ _ _ _ _ | exact laws_szOpS.mono _ _ _ | exact laws_szThree.mono _ _ _ _ _ _ _ | exact laws_toOpS.mono _ _ | exact laws_toThree.mono _ _ _ _ _ _ | exact spec_OpsDo.mono _ _ _ _ _ _ _ | exact LeO.none _ | refine LeO.ite ?_ ?_ | refine LeO.bind ?_ (fun _ => ?_)
theorem laws_FnExactOpsDo.mono : ∀ a0 a1 a2 a3 a4 a5 k, LeO (laws_FnExactOpsDo.f k a0 a1 a2 a3 a4 a5) (laws_FnExactOpsDo.f (k + 1) a0 a1 a2 a3 a4 a5) := by
 intro a0 a1 a2 a3 a4 a5 k
 obtain ⟨ih0, ih1, ih2⟩ := laws_FnExactOpsDo.mono_l k
 unfold laws_FnExactOpsDo.f
 repeat' first | (with_reducible first | exact ih0 _ _ _ _ _ _ _ _ _ _ _ _ _ _ _ _ _ _ _ _ _ _ _ _ _ | exact ih1 _ _ _ _ _ _ _ _ _ _ _ _ _ _ _ _ _ _ _ | exact ih2 _ _ _ _ _ _ _ _ | exact impl_OpsDo.mono _ _ _ _ _ _ _ | exact laws_eqOpS.mono _ _ _ | exact laws_eqReplyS.mono _ _ _ | exact laws_eqThree.mono _ _ _ _ _ _ _ _ _ _ _ | exact laws_heldReplyS.mono _ _ _ | exact laws_heldThree.mono _ _ _ _ _ _ _ | exact laws_markOpS.mono _ _ _ | exact laws_markReplyS.mono _ _ _ | exact laws_markThree.mono _ _ _ _ _ _ _ | exact laws_szOpS.mono _ _ _ | exact laws_szThree.mono _ _ _ _ _ _ _ | exact laws_toOpS.mono _ _ | exact laws_toThree.mono _ _ _ _ _ _ | exact spec_OpsDo.mono _ _ _ _ _ _ _ | exact LeO.refl _ | exact LeO.none _ | refine LeO.ite ?_ ?_ | refine LeO.bind ?_ (fun _ => ?_)) | exact ih0 _ _ _ _ _ _ _ _ _ _ _ _ _ _ _ _ _ _ _ _ _ _ _ _ _ | exact ih1 _ _ _ _ _ _ _ _ _ _ _ _ _ _ _ _ _ _ _ | exact ih2 _ _ _ _ _ _ _ _ | exact impl_OpsDo.mono _ _ _ _ _ _ _ | exact laws_eqOpS.mono _ _ _ | exact laws_eqReplyS.mono _ _ _ | exact laws_eqThree.mono _ _ _ _ _ _ _ _ _ _ _ | exact laws_heldReplyS.mono _ _ _ | exact laws_heldThree.mono _ _ _ _ _ _ _ | exact laws_markOpS.mono _ _ _ | exact laws_markReplyS.mono _ _ _ | exact laws_markThree.mono _ _ _ _ _ _ _ | exact laws_szOpS.mono _ _ _ | exact laws_szThree.mono _ _ _ _ _ _ _ | exact laws_toOpS.mono _ _ | exact laws_toThree.mono _ _ _ _ _ _ | exact spec_OpsDo.mono _ _ _ _ _ _ _ | exact LeO.none _ | refine LeO.ite ?_ ?_ | refine LeO.bind ?_ (fun _ => ?_)
def laws_FnExactOpsDo.T14 : Bool × List (List Nat × List Nat) := (true, [([], []), ([], []), ([1], [1]), ([0, 2, 2], [0, 2]), ([3], [3])])
def laws_FnExactOpsDo.B14 : List Nat := [0, 0, 2, 7, 15]
theorem laws_FnExactOpsDo.tab14 : rtab .any (opsOf Try.f4 14) = laws_FnExactOpsDo.T14 := by kernel_rfl
theorem laws_FnExactOpsDo.bits14 : waitsOk laws_FnExactOpsDo.T14.2 laws_FnExactOpsDo.B14 = true := by kernel_rfl
set_option maxHeartbeats 8000000 in
set_option maxRecDepth 100000 in
theorem laws_FnExactOpsDo.calls (k : Nat) (a0_0 : Int) (a0_1 : Int) (A0_2 : Option Addr) (c0_2 : Nat) (l0_2 : List (S97)) (A0_3 : Option Addr) (c0_3 : Nat) (l0_3 : List (S97)) (A0_4 : Option Addr) (c0_4 : Nat) (l0_4 : List Int) (A1 : Option Addr) (c1 : Nat) (l1 : List (S27)) (r : Bool) (w : World) (hr0_2 : Kd.C k97 w A0_2 l0_2.length l0_2) (hc0_2 : l0_2.length ≤ c0_2) (hr0_3 : Kd.C k97 w A0_3 l0_3.length l0_3) (hc0_3 : l0_3.length ≤ c0_3) (hr0_4 : Kd.C (Kd.int .i64) w A0_4 l0_4.length l0_4) (hc0_4 : l0_4.length ≤ c0_4) (hr1 : Kd.C k27 w A1 l1.length l1) (hc1 : l1.length ≤ c1) (h : laws_FnExactOpsDo.f k a0_0 a0_1 l0_2 l0_3 l0_4 l1 = some r) :
  Calls Try.prog 4 #[.agg #[.int .i64 a0_0, .int .i64 a0_1, .slice A0_2 l0_2.length c0_2, .slice A0_3 l0_3.length c0_3, .slice A0_4 l0_4.length c0_4], .slice A1 l1.length c1] w fun e w' => e = .returned (.bool r) ∧ Below w.heap.size w w' := by
 have hu25 := Try.underlying25
 have hu32 := Try.underlying32
 have HR0_2 := Aside0.mk hr0_2
 have HC0_2 := Aside0.mk hc0_2
 clear hr0_2 hc0_2
 have HR0_3 := Aside0.mk hr0_3
 have HC0_3 := Aside0.mk hc0_3
 clear hr0_3 hc0_3
 have HR0_4 := Aside0.mk hr0_4
 have HC0_4 := Aside0.mk hc0_4
 clear hr0_4 hc0_4
 have HR1 := Aside0.mk hr1
 have HC1 := Aside0.mk hc1
 clear hr1 hc1
 have HM := Mem.nil w
 have H := h
 clear h
 unfold laws_FnExactOpsDo.f at H
 go_enter Try.func4, Try.ntmps4
 replace H := BN H; obtain ⟨t1121, A5, H⟩ := H
 go_upto_if 21 with (first | ((with_reducible refine gate_dst (N := 2) rfl ?_); refine pB 2 25 [.int .i64 a0_0, .int .i64 a0_1, .slice A0_2 l0_2.length c0_2, .slice A0_3 l0_3.length c0_3, .slice A0_4 l0_4.length c0_4] HM rfl ?_; clear HM; intro gb1120 w3 HM; obtain ⟨hcz4_0, hcz4_1, hcz4_2, hcz4_3, hcz4_4, hfz4_0, hfz4_1, hfz4_2, hfz4_3, hfz4_4⟩ := bk5 (HM.bx 0 rfl)) | ((with_reducible refine gate_callee (f := 6) rfl ?_); refine pC (some 19) rfl #[.agg #[.int .i64 a0_0, .int .i64 a0_1, .slice A0_2 l0_2.length c0_2, .slice A0_3 l0_3.length c0_3, .slice A0_4 l0_4.length c0_4], .int .i64 1048576] rfl Try.func6 (laws_szThree.calls k a0_0 a0_1 _ _ l0_2 _ _ l0_3 _ _ l0_4 1048576 t1121 _ (HM.came HR0_2.out) HC0_2.out (HM.came HR0_3.out) HC0_3.out (HM.came HR0_4.out) HC0_4.out A5.out) ?_; rintro e w6 ⟨rfl, hR⟩; refine ⟨_, rfl, ?_⟩; replace HM := HM.call hR; clear hR))
 replace HM := nzM HM
 replace H := IT H; rcases H with ⟨c7, H⟩ | ⟨c7, H⟩
 ·have c7b0 : decide (t1121 < 0) = true := decide_eq_true c7
  clear c7
  (first | rw [c7b0] | (simp only [i64_w, i32_w]; rw [c7b0]) | skip)
  obtain rfl := Option.some.inj H
  go_wp2
  go_ret
  exact ⟨ER, HM.bel⟩
 ·have c7b0 : decide (t1121 < 0) = false := decide_eq_false c7
  clear c7
  (first | rw [c7b0] | (simp only [i64_w, i32_w]; rw [c7b0]) | skip)
  replace H := BN H; obtain ⟨t1122, A8, H⟩ := H
  go_upto_if 26 with (first | ((with_reducible refine gate_callee (f := 16) rfl ?_); refine pC (some 24) rfl #[.slice A1 l1.length c1, .int .i64 t1121] rfl Try.func16 (laws_szOpS.calls k _ _ l1 t1121 t1122 _ (HM.came HR1.out) HC1.out A8.out) ?_; rintro e w9 ⟨rfl, hR⟩; refine ⟨_, rfl, ?_⟩; replace HM := HM.call hR; clear hR))
  replace H := IT H; rcases H with ⟨c10, H⟩ | ⟨c10, H⟩
  ·have c10b0 : decide (t1122 < 0) = true := decide_eq_true c10
   clear c10
   (first | rw [c10b0] | (simp only [i64_w, i32_w]; rw [c10b0]) | skip)
   obtain rfl := Option.some.inj H
   go_wp2
   go_ret
   exact ⟨ER, HM.bel⟩
  ·have c10b0 : decide (t1122 < 0) = false := decide_eq_false c10
   clear c10
   (first | rw [c10b0] | (simp only [i64_w, i32_w]; rw [c10b0]) | skip)
   replace H := BN H; obtain ⟨⟨t1123, t1124, t1125, t1128, t1131⟩, A12, H⟩ := H
   replace H := BN H; obtain ⟨t1134, A14, H⟩ := H
   replace H := BN H; obtain ⟨⟨t1137, t1138, t1139, t1142, t1145, t1148⟩, A16, H⟩ := H
   replace H := BN H; obtain ⟨⟨t1152, t1153, t1154, t1157, t1160⟩, A28, H⟩ := H
   replace H := BN H; obtain ⟨t1164, A35, H⟩ := H
   replace H := BN H; obtain ⟨⟨t1167, t1168, t1169, t1172, t1175, t1178⟩, A38, H⟩ := H
   have HC46 := Aside0.mk H
   clear H
   obtain ⟨hcz11_0, hcz11_1, hcz11_2, hcz11_3, hcz11_4, hfz11_0, hfz11_1, hfz11_2, hfz11_3, hfz11_4⟩ := bk5 (HM.bx 0 rfl)
   go_upto_region 12 with (first | ((with_reducible refine gate_callee (f := 9) rfl ?_); refine pC (some 29) rfl #[.agg #[.int .i64 a0_0, .int .i64 a0_1, .slice A0_2 l0_2.length c0_2, .slice A0_3 l0_3.length c0_3, .slice A0_4 l0_4.length c0_4]] rfl Try.func9 (laws_toThree.calls k a0_0 a0_1 _ _ l0_2 _ _ l0_3 _ _ l0_4 t1123 t1124 t1125 t1128 t1131 _ (HM.came HR0_2.out) HC0_2.out (HM.came HR0_3.out) HC0_3.out (HM.came HR0_4.out) HC0_4.out A12.out) ?_; rintro e w13 ⟨v1126, v1129, v1132, rfl, hR⟩; refine ⟨_, rfl, ?_⟩; replace HM := HM.call hR; clear hR) | ((with_reducible refine gate_callee (f := 18) rfl ?_); refine pC (some 31) rfl #[.slice A1 l1.length c1] rfl Try.func18 (laws_toOpS.calls k _ _ l1 t1134 _ (HM.came HR1.out) HC1.out A14.out) ?_; rintro e w15 ⟨v1135, rfl, hR⟩; refine ⟨_, rfl, ?_⟩; replace HM := HM.call hR; clear hR; obtain ⟨Xo18, ko18, eo18⟩ := HM.rdR 1 rfl; subst eo18; obtain ⟨Xo19, ko19, eo19⟩ := HM.rdR 2 rfl; subst eo19; obtain ⟨Xo20, ko20, eo20⟩ := HM.rdR 3 rfl; subst eo20; obtain ⟨Xo21, ko21, eo21⟩ := HM.rdR 4 rfl; subst eo21) | ((with_reducible refine gate_callee (f := 17) rfl ?_); refine pC (some 32) rfl #[.agg #[.int .i64 t1123, .int .i64 t1124, .slice Xo18 t1125.length ko18, .slice Xo19 t1128.length ko19, .slice Xo20 t1131.length ko20], .slice Xo21 t1134.length ko21] rfl Try.func17 (spec_OpsDo.calls k t1123 t1124 _ _ t1125 _ _ t1128 _ _ t1131 _ _ t1134 t1137 t1138 t1139 t1142 t1145 t1148 _ (HM.CR 1 rfl).2.2 (HM.CR 1 rfl).2.1 (HM.CR 2 rfl).2.2 (HM.CR 2 rfl).2.1 (HM.CR 3 rfl).2.2 (HM.CR 3 rfl).2.1 (HM.CR 4 rfl).2.2 (HM.CR 4 rfl).2.1 A16.out) ?_; rintro e w17 ⟨v1140, v1143, v1146, v1149, rfl, hR⟩; refine ⟨_, rfl, ?_⟩; replace HM := HM.call hR; clear hR) | ((with_reducible refine gate_dst (N := 6) rfl ?_); refine pB 6 32 [.int .i64 0, .int .i64 0, .slice none 0 0, .slice none 0 0, .slice none 0 0] HM rfl ?_; clear HM; intro gb1151 w22 HM; obtain ⟨Xo23, ko23, eo23⟩ := HM.rdR 5 rfl; subst eo23; obtain ⟨Xo24, ko24, eo24⟩ := HM.rdR 6 rfl; subst eo24; obtain ⟨Xo25, ko25, eo25⟩ := HM.rd 7 rfl; subst eo25) | ((with_reducible refine gate_st (p := 6) rfl ?_); refine pS 9 6 0 [.int .i64 t1137, .int .i64 t1138, .slice Xo23 t1139.length ko23, .slice Xo24 t1142.length ko24, .slice Xo25 t1145.length ko25] HM rfl rfl ?_; clear HM; intro w26 HM; obtain ⟨hcz27_0, hcz27_1, hcz27_2, hcz27_3, hcz27_4, hfz27_0, hfz27_1, hfz27_2, hfz27_3, hfz27_4⟩ := bk5 (HM.bx 0 rfl)) | ((with_reducible refine gate_callee (f := 9) rfl ?_); refine pC (some 36) rfl #[.agg #[.int .i64 a0_0, .int .i64 a0_1, .slice A0_2 l0_2.length c0_2, .slice A0_3 l0_3.length c0_3, .slice A0_4 l0_4.length c0_4]] rfl Try.func9 (laws_toThree.calls k a0_0 a0_1 _ _ l0_2 _ _ l0_3 _ _ l0_4 t1152 t1153 t1154 t1157 t1160 _ (HM.came HR0_2.out) HC0_2.out (HM.came HR0_3.out) HC0_3.out (HM.came HR0_4.out) HC0_4.out A28.out) ?_; rintro e w29 ⟨v1155, v1158, v1161, rfl, hR⟩; refine ⟨_, rfl, ?_⟩; replace HM := HM.call hR; clear hR) | ((with_reducible refine gate_dst (N := 8) rfl ?_); refine pB 8 32 [.int .i64 0, .int .i64 0, .slice none 0 0, .slice none 0 0, .slice none 0 0] HM rfl ?_; clear HM; intro gb1163 w30 HM; obtain ⟨Xo31, ko31, eo31⟩ := HM.rdR 10 rfl; subst eo31; obtain ⟨Xo32, ko32, eo32⟩ := HM.rdR 11 rfl; subst eo32; obtain ⟨Xo33, ko33, eo33⟩ := HM.rdR 12 rfl; subst eo33) | ((with_reducible refine gate_st (p := 8) rfl ?_); refine pS 13 8 0 [.int .i64 t1152, .int .i64 t1153, .slice Xo31 t1154.length ko31, .slice Xo32 t1157.length ko32, .slice Xo33 t1160.length ko33] HM rfl rfl ?_; clear HM; intro w34 HM) | ((with_reducible refine gate_callee (f := 18) rfl ?_); refine pC (some 38) rfl #[.slice A1 l1.length c1] rfl Try.func18 (laws_toOpS.calls k _ _ l1 t1164 _ (HM.came HR1.out) HC1.out A35.out) ?_; rintro e w36 ⟨v1165, rfl, hR⟩; refine ⟨_, rfl, ?_⟩; replace HM := HM.call hR; clear hR; obtain ⟨hcz37_0, hcz37_1, hcz37_2, hcz37_3, hcz37_4, hfz37_0, hfz37_1, hfz37_2, hfz37_3, hfz37_4⟩ := bk5 (HM.bx 13 rfl); obtain ⟨Xo40, ko40, eo40⟩ := HM.rdR 14 rfl; subst eo40) | ((with_reducible refine gate_callee (f := 19) rfl ?_); refine pC (some 42) rfl #[.agg #[.int .i64 t1152, .int .i64 t1153, .slice Xo31 t1154.length ko31, .slice Xo32 t1157.length ko32, .slice Xo33 t1160.length ko33], .slice Xo40 t1164.length ko40] rfl Try.func19 (impl_OpsDo.calls k t1152 t1153 _ _ t1154 _ _ t1157 _ _ t1160 _ _ t1164 t1167 t1168 t1169 t1172 t1175 t1178 _ (HM.CR 10 rfl).2.2 (HM.CR 10 rfl).2.1 (HM.CR 11 rfl).2.2 (HM.CR 11 rfl).2.1 (HM.CR 12 rfl).2.2 (HM.CR 12 rfl).2.1 (HM.CR 14 rfl).2.2 (HM.CR 14 rfl).2.1 A38.out) ?_; rintro e w39 ⟨v1170, v1173, v1176, v1179, rfl, hR⟩; refine ⟨_, rfl, ?_⟩; replace HM := HM.call hR; clear hR) | ((with_reducible refine gate_dst (N := 10) rfl ?_); refine pB 10 32 [.int .i64 0, .int .i64 0, .slice none 0 0, .slice none 0 0, .slice none 0 0] HM rfl ?_; clear HM; intro gb1181 w41 HM; obtain ⟨Xo42, ko42, eo42⟩ := HM.rdR 15 rfl; subst eo42; obtain ⟨Xo43, ko43, eo43⟩ := HM.rdR 16 rfl; subst eo43; obtain ⟨Xo44, ko44, eo44⟩ := HM.rdR 17 rfl; subst eo44) | ((with_reducible refine gate_st (p := 10) rfl ?_); refine pS 19 10 0 [.int .i64 t1167, .int .i64 t1168, .slice Xo42 t1169.length ko42, .slice Xo43 t1172.length ko43, .slice Xo44 t1175.length ko44] HM rfl rfl ?_; clear HM; intro w45 HM))
   replace HM := nzM HM
   go_cut [54] (fun v54 wc => ∃ (kq : Nat) (x54_45 : Bool), v54 = .bool x54_45 ∧ Aside0 (laws_FnExactOpsDo.j0 kq l1 t1148 t1164 t1178 x54_45 a0_0 a0_1 l0_2 l0_3 l0_4 t1137 t1138 t1139 t1142 t1145 t1152 t1153 t1154 t1157 t1160 t1167 t1168 t1169 t1172 t1175 = some r) ∧ Aside0 (kq ≤ k) ∧ Mem w [] wc [rowR k34 34 v1149 t1148, rowR k38 38 (.slice Xo40 t1164.length ko40) t1164, rowR k34 34 v1179 t1178, rowR k95 95 (.slice Xo23 t1139.length ko23) t1139, rowR k95 95 (.slice Xo24 t1142.length ko24) t1142, row (Kd.int .i64) 3 (.slice Xo25 t1145.length ko25) t1145, rowR k95 95 (.slice Xo31 t1154.length ko31) t1154, rowR k95 95 (.slice Xo32 t1157.length ko32) t1157, rowR (Kd.int .i64) 3 (.slice Xo33 t1160.length ko33) t1160, rowR k95 95 (.slice Xo42 t1169.length ko42) t1169, rowR k95 95 (.slice Xo43 t1172.length ko43) t1172, rowR (Kd.int .i64) 3 (.slice Xo44 t1175.length ko44) t1175, box 25 gb1120 [.int .i64 a0_0, .int .i64 a0_1, .slice A0_2 l0_2.length c0_2, .slice A0_3 l0_3.length c0_3, .slice A0_4 l0_4.length c0_4], box 32 gb1151 [.int .i64 t1137, .int .i64 t1138, (.slice Xo23 t1139.length ko23), (.slice Xo24 t1142.length ko24), (.slice Xo25 t1145.length ko25)], box 32 gb1163 [.int .i64 t1152, .int .i64 t1153, (.slice Xo31 t1154.length ko31), (.slice Xo32 t1157.length ko32), (.slice Xo33 t1160.length ko33)], box 32 gb1181 [.int .i64 t1167, .int .i64 t1168, (.slice Xo42 t1169.length ko42), (.slice Xo43 t1172.length ko43), (.slice Xo44 t1175.length ko44)]])
   case first =>
    have H := HC46.out
    clear HC46
    replace H := BN H; obtain ⟨t1182, A49, H⟩ := H
    replace H := IB H
    rcases H with ⟨c51, H⟩ | ⟨c51, H⟩
    ·subst c51
     replace H := BN H; obtain ⟨t1183, A52, H⟩ := H
     have H' := Aside0.mk H
     clear H
     obtain ⟨hcz47_0, hcz47_1, hcz47_2, hcz47_3, hcz47_4, hfz47_0, hfz47_1, hfz47_2, hfz47_3, hfz47_4⟩ := bk5 (HM.bx 19 rfl)
     obtain ⟨hcz48_0, hcz48_1, hcz48_2, hcz48_3, hcz48_4, hfz48_0, hfz48_1, hfz48_2, hfz48_3, hfz48_4⟩ := bk5 (HM.bx 9 rfl)
     go_wp2_with (first | ((with_reducible refine gate_callee (f := 12) rfl ?_); refine pC (some 47) rfl #[.agg #[.int .i64 t1167, .int .i64 t1168, .slice Xo42 t1169.length ko42, .slice Xo43 t1172.length ko43, .slice Xo44 t1175.length ko44], .agg #[.int .i64 t1137, .int .i64 t1138, .slice Xo23 t1139.length ko23, .slice Xo24 t1142.length ko24, .slice Xo25 t1145.length ko25]] rfl Try.func12 (laws_eqThree.calls k t1167 t1168 _ _ t1169 _ _ t1172 _ _ t1175 t1137 t1138 _ _ t1139 _ _ t1142 _ _ t1145 true _ (HM.CR 15 rfl).2.2 (HM.CR 15 rfl).2.1 (HM.CR 16 rfl).2.2 (HM.CR 16 rfl).2.1 (HM.CR 17 rfl).2.2 (HM.CR 17 rfl).2.1 (HM.CR 5 rfl).2.2 (HM.CR 5 rfl).2.1 (HM.CR 6 rfl).2.2 (HM.CR 6 rfl).2.1 (HM.C 7 rfl).2.2 (HM.C 7 rfl).2.1 A49.out) ?_; rintro e w50 ⟨rfl, hR⟩; refine ⟨_, rfl, ?_⟩; replace HM := HM.call hR; clear hR; obtain ⟨Xo54, ko54, eo54⟩ := HM.rdR 18 rfl; subst eo54; obtain ⟨Xo55, ko55, eo55⟩ := HM.rdR 8 rfl; subst eo55) | ((with_reducible refine gate_callee (f := 20) rfl ?_); refine pC (some 52) rfl #[.slice Xo54 t1178.length ko54, .slice Xo55 t1148.length ko55] rfl Try.func20 (laws_eqReplyS.calls k _ _ t1178 _ _ t1148 t1183 _ (HM.CR 18 rfl).2.2 (HM.CR 18 rfl).2.1 (HM.CR 8 rfl).2.2 (HM.CR 8 rfl).2.1 A52.out) ?_; rintro e w53 ⟨rfl, hR⟩; refine ⟨_, rfl, ?_⟩; replace HM := HM.call hR; clear hR))
     go_meet
     case rel => exact ⟨_, (!t1183), RS, H', ⟨by first | omega | exact Nat.le_refl _⟩, (MD HM).pick [8, 14, 18, 5, 6, 7, 10, 11, 12, 15, 16, 17, 0, 9, 13, 19]⟩
    ·subst c51
     have H' := Aside0.mk H
     clear H
     obtain ⟨hcz47_0, hcz47_1, hcz47_2, hcz47_3, hcz47_4, hfz47_0, hfz47_1, hfz47_2, hfz47_3, hfz47_4⟩ := bk5 (HM.bx 19 rfl)
     obtain ⟨hcz48_0, hcz48_1, hcz48_2, hcz48_3, hcz48_4, hfz48_0, hfz48_1, hfz48_2, hfz48_3, hfz48_4⟩ := bk5 (HM.bx 9 rfl)
     go_wp2_with (first | ((with_reducible refine gate_callee (f := 12) rfl ?_); refine pC (some 47) rfl #[.agg #[.int .i64 t1167, .int .i64 t1168, .slice Xo42 t1169.length ko42, .slice Xo43 t1172.length ko43, .slice Xo44 t1175.length ko44], .agg #[.int .i64 t1137, .int .i64 t1138, .slice Xo23 t1139.length ko23, .slice Xo24 t1142.length ko24, .slice Xo25 t1145.length ko25]] rfl Try.func12 (laws_eqThree.calls k t1167 t1168 _ _ t1169 _ _ t1172 _ _ t1175 t1137 t1138 _ _ t1139 _ _ t1142 _ _ t1145 false _ (HM.CR 15 rfl).2.2 (HM.CR 15 rfl).2.1 (HM.CR 16 rfl).2.2 (HM.CR 16 rfl).2.1 (HM.CR 17 rfl).2.2 (HM.CR 17 rfl).2.1 (HM.CR 5 rfl).2.2 (HM.CR 5 rfl).2.1 (HM.CR 6 rfl).2.2 (HM.CR 6 rfl).2.1 (HM.C 7 rfl).2.2 (HM.C 7 rfl).2.1 A49.out) ?_; rintro e w50 ⟨rfl, hR⟩; refine ⟨_, rfl, ?_⟩; replace HM := HM.call hR; clear hR))
     go_meet
     case rel => exact ⟨_, (true), RS, H', ⟨by first | omega | exact Nat.le_refl _⟩, (MD HM).pick [8, 14, 18, 5, 6, 7, 10, 11, 12, 15, 16, 17, 0, 9, 13, 19]⟩
   case rest =>
    clear HC46 HM
    obtain ⟨kq, x54_45, rfl, HA, HJ45, HM⟩ := hcut
    cases kq with
    | zero => exact absurd HA.out (by simp [laws_FnExactOpsDo.j0])
    | succ kj45 =>
     have H := HA.out
     clear HA
     simp only [laws_FnExactOpsDo.j0] at H
     replace H := GN H
     obtain ⟨c56, H⟩ := H
     replace c56 := Bool.eq_false_iff.mpr c56
     subst c56
     try go_wp2
     replace H := BN H; obtain ⟨⟨t1184, t1185, t1186, t1189, t1192⟩, A57, H⟩ := H
     replace H := BN H; obtain ⟨t1195, A58, H⟩ := H
     refine RGN 5 [0, 1, 2, 3, 4] (fun a0 b a w' => ∃ (v1187 : Value) (v1190 : Value) (v1193 : Value), a = putSel a0 b [(0, 55, .agg #[.int .i64 t1152, .int .i64 t1153, .slice Xo31 t1154.length ko31, .slice Xo32 t1157.length ko32, .slice Xo33 t1160.length ko33]), (1, 56, .agg #[.int .i64 a0_0, .int .i64 a0_1, .slice A0_2 l0_2.length c0_2, .slice A0_3 l0_3.length c0_3, .slice A0_4 l0_4.length c0_4]), (2, 57, .agg #[.int .i64 t1184, .int .i64 t1185, v1187, v1190, v1193]), (3, 58, .bool t1195), (4, 59, .bool (!t1195))] ∧ Mem w [] w' [rowR k34 34 v1149 t1148, rowR k38 38 (.slice Xo40 t1164.length ko40) t1164, rowR k34 34 v1179 t1178, rowR k95 95 (.slice Xo23 t1139.length ko23) t1139, rowR k95 95 (.slice Xo24 t1142.length ko24) t1142, row (Kd.int .i64) 3 (.slice Xo25 t1145.length ko25) t1145, rowR k95 95 (.slice Xo31 t1154.length ko31) t1154, rowR k95 95 (.slice Xo32 t1157.length ko32) t1157, rowR (Kd.int .i64) 3 (.slice Xo33 t1160.length ko33) t1160, rowR k95 95 (.slice Xo42 t1169.length ko42) t1169, rowR k95 95 (.slice Xo43 t1172.length ko43) t1172, rowR (Kd.int .i64) 3 (.slice Xo44 t1175.length ko44) t1175, box 25 gb1120 [.int .i64 a0_0, .int .i64 a0_1, .slice A0_2 l0_2.length c0_2, .slice A0_3 l0_3.length c0_3, .slice A0_4 l0_4.length c0_4], box 32 gb1151 [.int .i64 t1137, .int .i64 t1138, .slice Xo23 t1139.length ko23, .slice Xo24 t1142.length ko24, .slice Xo25 t1145.length ko25], box 32 gb1163 [.int .i64 t1152, .int .i64 t1153, .slice Xo31 t1154.length ko31, .slice Xo32 t1157.length ko32, .slice Xo33 t1160.length ko33], box 32 gb1181 [.int .i64 t1167, .int .i64 t1168, .slice Xo42 t1169.length ko42, .slice Xo43 t1172.length ko43, .slice Xo44 t1175.length ko44], sel (b 2) (rowR k95 95 v1187 t1186) (emp), sel (b 2) (rowR k95 95 v1190 t1189) (emp), sel (b 2) (rowR (Kd.int .i64) 3 v1193 t1192) (emp)]) laws_FnExactOpsDo.tab14 laws_FnExactOpsDo.bits14 ?_ ?_ ?_
     ·exact ⟨.bool false, .bool false, .bool false, PS0' rfl _, (HM.drew.ems 3).pick [0, 1, 2, 3, 4, 5, 6, 7, 8, 9, 10, 11, 12, 13, 14, 15, 16, 17, 18]⟩
     ·clear HM
      refine steps_cons ?_ ?_
      ·rintro b a w ⟨v1187, v1190, v1193, ha, HM⟩ hb hon hoff
       refine ⟨_, rfl, fun K hK => ?_⟩
       obtain ⟨hcz66_0, hcz66_1, hcz66_2, hcz66_3, hcz66_4, hfz66_0, hfz66_1, hfz66_2, hfz66_3, hfz66_4⟩ := bk5 (HM.bx 14 rfl)
       have e8 := POF ha 8
       replace ha := Aside0.mk ha
       exact VL (.agg #[.int .i64 t1152, .int .i64 t1153, .slice Xo31 t1154.length ko31, .slice Xo32 t1157.length ko32, .slice Xo33 t1160.length ko33]) (hK.out _ _ ⟨v1187, v1190, v1193, PUT ha 0 hb, HM⟩)
      refine steps_cons ?_ ?_
      ·rintro b a w ⟨v1187, v1190, v1193, ha, HM⟩ hb hon hoff
       refine ⟨_, rfl, fun K hK => ?_⟩
       obtain ⟨hcz67_0, hcz67_1, hcz67_2, hcz67_3, hcz67_4, hfz67_0, hfz67_1, hfz67_2, hfz67_3, hfz67_4⟩ := bk5 (HM.bx 12 rfl)
       have e2 := POF ha 2
       replace ha := Aside0.mk ha
       exact VL (.agg #[.int .i64 a0_0, .int .i64 a0_1, .slice A0_2 l0_2.length c0_2, .slice A0_3 l0_3.length c0_3, .slice A0_4 l0_4.length c0_4]) (hK.out _ _ ⟨v1187, v1190, v1193, PUT ha 1 hb, HM⟩)
      refine steps_cons ?_ ?_
      ·rintro b a w ⟨v1187, v1190, v1193, ha, HM⟩ hb hon hoff
       refine ⟨_, rfl, fun K hK => ?_⟩
       have e56 := PON ha 1 (hon 1 (by kernel_rfl))
       replace ha := Aside0.mk ha
       refine ST (eC (some 57) rfl #[.agg #[.int .i64 a0_0, .int .i64 a0_1, .slice A0_2 l0_2.length c0_2, .slice A0_3 l0_3.length c0_3, .slice A0_4 l0_4.length c0_4]] rfl Try.func9 (laws_toThree.calls kj45 a0_0 a0_1 _ _ l0_2 _ _ l0_3 _ _ l0_4 t1184 t1185 t1186 t1189 t1192 _ (HM.came HR0_2.out) HC0_2.out (HM.came HR0_3.out) HC0_3.out (HM.came HR0_4.out) HC0_4.out A57.out) ?_ (hargs := by (simp only [List.map_toArray, List.map_cons, List.map_nil, evc, eval_of e56]) <;> rfl))
       rintro e w68 ⟨v1187, v1190, v1193, rfl, hR⟩
       refine ⟨_, rfl, ?_⟩
       replace HM := HM.call hR
       clear hR
       exact hK.out _ _ ⟨v1187, v1190, v1193, PUT ha 2 hb, (HM).pick [0, 1, 2, 3, 4, 5, 6, 7, 8, 9, 10, 11, 12, 13, 14, 15, 19, 20, 21]⟩
      refine steps_cons ?_ ?_
      ·rintro b a w ⟨v1187, v1190, v1193, ha, HM⟩ hb hon hoff
       refine ⟨_, rfl, fun K hK => ?_⟩
       replace HM := HM.sT 16 rfl (hon 2 (by kernel_rfl))
       replace HM := HM.sT 17 rfl (hon 2 (by kernel_rfl))
       replace HM := HM.sT 18 rfl (hon 2 (by kernel_rfl))
       obtain ⟨Xo70, ko70, eo70⟩ := HM.rdR 16 rfl
       subst eo70
       obtain ⟨Xo71, ko71, eo71⟩ := HM.rdR 17 rfl
       subst eo71
       obtain ⟨Xo72, ko72, eo72⟩ := HM.rdR 18 rfl
       subst eo72
       have e55 := PON ha 0 (hon 0 (by kernel_rfl))
       have e57 := PON ha 2 (hon 2 (by kernel_rfl))
       replace ha := Aside0.mk ha
       refine ST (eC (some 58) rfl #[.agg #[.int .i64 t1152, .int .i64 t1153, .slice Xo31 t1154.length ko31, .slice Xo32 t1157.length ko32, .slice Xo33 t1160.length ko33], .agg #[.int .i64 t1184, .int .i64 t1185, .slice Xo70 t1186.length ko70, .slice Xo71 t1189.length ko71, .slice Xo72 t1192.length ko72]] rfl Try.func12 (laws_eqThree.calls kj45 t1152 t1153 _ _ t1154 _ _ t1157 _ _ t1160 t1184 t1185 _ _ t1186 _ _ t1189 _ _ t1192 t1195 _ (HM.CR 6 rfl).2.2 (HM.CR 6 rfl).2.1 (HM.CR 7 rfl).2.2 (HM.CR 7 rfl).2.1 (HM.CR 8 rfl).2.2 (HM.CR 8 rfl).2.1 (HM.CR 16 rfl).2.2 (HM.CR 16 rfl).2.1 (HM.CR 17 rfl).2.2 (HM.CR 17 rfl).2.1 (HM.CR 18 rfl).2.2 (HM.CR 18 rfl).2.1 A58.out) ?_ (hargs := by (simp only [List.map_toArray, List.map_cons, List.map_nil, evc, eval_of e55, eval_of e57]) <;> rfl))
       rintro e w69 ⟨rfl, hR⟩
       refine ⟨_, rfl, ?_⟩
       replace HM := HM.call hR
       clear hR
       exact hK.out _ _ ⟨.slice Xo70 t1186.length ko70, .slice Xo71 t1189.length ko71, .slice Xo72 t1192.length ko72, PUT ha 3 hb, (((HM.iT 16 rfl (hon 2 (by kernel_rfl))).iT 17 rfl (hon 2 (by kernel_rfl))).iT 18 rfl (hon 2 (by kernel_rfl))).pick [0, 1, 2, 3, 4, 5, 6, 7, 8, 9, 10, 11, 12, 13, 14, 15, 16, 17, 18]⟩
      refine steps_cons ?_ ?_
      ·rintro b a w ⟨v1187, v1190, v1193, ha, HM⟩ hb hon hoff
       refine ⟨_, rfl, fun K hK => ?_⟩
       have e58 := PON ha 3 (hon 3 (by kernel_rfl))
       replace ha := Aside0.mk ha
       exact VL (.bool (!t1195)) (hK.out _ _ ⟨v1187, v1190, v1193, PUT ha 4 hb, HM⟩)
      exact steps_nil
     rintro _ w73 ⟨v1187, v1190, v1193, rfl, HM⟩
     replace HM := HM.sT 16 rfl rfl
     replace HM := HM.sT 17 rfl rfl
     replace HM := HM.sT 18 rfl rfl
     simp only [putSel, if_true, Act.put, List.setIfInBounds_toArray, List.set_cons_zero, List.set_cons_succ, gt_iff_lt, ge_iff_le]
     replace H := GD H
     obtain ⟨c74, H⟩ := H
     subst c74
     replace H := BN H; obtain ⟨t1196, A75, H⟩ := H
     replace H := BN H; obtain ⟨t1199, A77, H⟩ := H
     replace H := GD H
     obtain ⟨c80, H⟩ := H
     subst c80
     replace H := BN H; obtain ⟨⟨t1200, t1201, t1202, t1203⟩, A82, H⟩ := H
     replace H := BN H; obtain ⟨⟨t1204, t1205⟩, A84, H⟩ := H
     have HC86 := Aside0.mk H
     clear H
     go_upto_region 21 with (first | ((with_reducible refine gate_callee (f := 18) rfl ?_); refine pC (some 62) rfl #[.slice A1 l1.length c1] rfl Try.func18 (laws_toOpS.calls kj45 _ _ l1 t1196 _ (HM.came HR1.out) HC1.out A75.out) ?_; rintro e w76 ⟨v1197, rfl, hR⟩; refine ⟨_, rfl, ?_⟩; replace HM := HM.call hR; clear hR; obtain ⟨Xo79, ko79, eo79⟩ := HM.rdR 19 rfl; subst eo79) | ((with_reducible refine gate_callee (f := 21) rfl ?_); refine pC (some 63) rfl #[.slice Xo40 t1164.length ko40, .slice Xo79 t1196.length ko79] rfl Try.func21 (laws_eqOpS.calls kj45 _ _ t1164 _ _ t1196 true _ (HM.CR 1 rfl).2.2 (HM.CR 1 rfl).2.1 (HM.CR 19 rfl).2.2 (HM.CR 19 rfl).2.1 A77.out) ?_; rintro e w78 ⟨rfl, hR⟩; refine ⟨_, rfl, ?_⟩; replace HM := HM.call hR; clear hR; obtain ⟨hcz81_0, hcz81_1, hcz81_2, hcz81_3, hcz81_4, hfz81_0, hfz81_1, hfz81_2, hfz81_3, hfz81_4⟩ := bk5 (HM.bx 14 rfl)) | ((with_reducible refine gate_callee (f := 14) rfl ?_); refine pC (some 67) rfl #[.agg #[.int .i64 t1152, .int .i64 t1153, .slice Xo31 t1154.length ko31, .slice Xo32 t1157.length ko32, .slice Xo33 t1160.length ko33], .int .i64 1] rfl Try.func14 (laws_markThree.calls kj45 t1152 t1153 (.slice Xo31 t1154.length ko31) t1154 (.slice Xo32 t1157.length ko32) t1157 (.slice Xo33 t1160.length ko33) t1160 1 t1200 t1201 t1202 t1203 _ _ _ (HM.focus [0, 1, 2, 3, 4, 5, 9, 10, 11, 12, 13, 14, 15, 16, 17, 18, 19] [6, 7, 8]) A82.out) ?_; rintro e w83 ⟨rfl, hR⟩; refine ⟨_, rfl, ?_⟩; replace HM := nzM hR.unfocus; clear hR) | ((with_reducible refine gate_callee (f := 22) rfl ?_); refine pC (some 70) rfl #[.slice Xo40 t1164.length ko40, .int .i64 t1200] rfl Try.func22 (laws_markOpS.calls kj45 (.slice Xo40 t1164.length ko40) t1164 t1200 t1204 t1205 _ _ _ (HM.focus [0, 2, 3, 4, 5, 6, 7, 8, 9, 10, 11, 12, 13, 14, 15, 16, 17, 18, 19] [1]) A84.out) ?_; rintro e w85 ⟨rfl, hR⟩; refine ⟨_, rfl, ?_⟩; replace HM := nzM hR.unfocus; clear hR))
     replace HM := nzM HM
     go_cut [84] (fun v84 wc => ∃ (kq : Nat) (x84_85 : Bool), v84 = .bool x84_85 ∧ Aside0 (laws_FnExactOpsDo.j1 kq l1 t1148 t1178 x84_85 a0_0 a0_1 l0_2 l0_3 l0_4 t1137 t1138 t1139 t1142 t1145 t1167 t1168 t1169 t1172 t1175 = some r) ∧ Aside0 (kq ≤ kj45) ∧ Mem w [] wc [rowR k34 34 v1149 t1148, rowR k34 34 v1179 t1178, rowR k95 95 (.slice Xo23 t1139.length ko23) t1139, rowR k95 95 (.slice Xo24 t1142.length ko24) t1142, row (Kd.int .i64) 3 (.slice Xo25 t1145.length ko25) t1145, rowR k95 95 (.slice Xo42 t1169.length ko42) t1169, rowR k95 95 (.slice Xo43 t1172.length ko43) t1172, rowR (Kd.int .i64) 3 (.slice Xo44 t1175.length ko44) t1175, box 25 gb1120 [.int .i64 a0_0, .int .i64 a0_1, .slice A0_2 l0_2.length c0_2, .slice A0_3 l0_3.length c0_3, .slice A0_4 l0_4.length c0_4], box 32 gb1151 [.int .i64 t1137, .int .i64 t1138, (.slice Xo23 t1139.length ko23), (.slice Xo24 t1142.length ko24), (.slice Xo25 t1145.length ko25)], box 32 gb1181 [.int .i64 t1167, .int .i64 t1168, (.slice Xo42 t1169.length ko42), (.slice Xo43 t1172.length ko43), (.slice Xo44 t1175.length ko44)]])
     case first =>
      have H := HC86.out
      clear HC86
      replace H := IT H; rcases H with ⟨c87, H⟩ | ⟨c87, H⟩
      ·have c87b0 : decide (t1204 < 0) = true := decide_eq_true c87
       clear c87
       have H' := Aside0.mk H
       clear H
       go_wp2
       go_meet
       case rel => exact ⟨_, (true), RS, H', ⟨by have := HJ45.out; first | omega | exact Nat.le_refl _⟩, (MD HM).pick [0, 1, 2, 3, 4, 5, 6, 7, 8, 9, 11]⟩
      ·have c87b0 : decide (t1204 < 0) = false := decide_eq_false c87
       clear c87
       replace H := BN H; obtain ⟨t1206, A90, H⟩ := H
       replace H := IB H
       rcases H with ⟨c92, H⟩ | ⟨c92, H⟩
       ·subst c92
        replace H := BN H; obtain ⟨t1207, A93, H⟩ := H
        have H' := Aside0.mk H
        clear H
        obtain ⟨hcz88_0, hcz88_1, hcz88_2, hcz88_3, hcz88_4, hfz88_0, hfz88_1, hfz88_2, hfz88_3, hfz88_4⟩ := bk5 (HM.bx 11 rfl)
        obtain ⟨hcz89_0, hcz89_1, hcz89_2, hcz89_3, hcz89_4, hfz89_0, hfz89_1, hfz89_2, hfz89_3, hfz89_4⟩ := bk5 (HM.bx 9 rfl)
        go_wp2_with (first | ((with_reducible refine gate_callee (f := 12) rfl ?_); refine pC (some 76) rfl #[.agg #[.int .i64 t1167, .int .i64 t1168, .slice Xo42 t1169.length ko42, .slice Xo43 t1172.length ko43, .slice Xo44 t1175.length ko44], .agg #[.int .i64 t1137, .int .i64 t1138, .slice Xo23 t1139.length ko23, .slice Xo24 t1142.length ko24, .slice Xo25 t1145.length ko25]] rfl Try.func12 (laws_eqThree.calls kj45 t1167 t1168 _ _ t1169 _ _ t1172 _ _ t1175 t1137 t1138 _ _ t1139 _ _ t1142 _ _ t1145 true _ (HM.CR 5 rfl).2.2 (HM.CR 5 rfl).2.1 (HM.CR 6 rfl).2.2 (HM.CR 6 rfl).2.1 (HM.CR 7 rfl).2.2 (HM.CR 7 rfl).2.1 (HM.CR 2 rfl).2.2 (HM.CR 2 rfl).2.1 (HM.CR 3 rfl).2.2 (HM.CR 3 rfl).2.1 (HM.C 4 rfl).2.2 (HM.C 4 rfl).2.1 A90.out) ?_; rintro e w91 ⟨rfl, hR⟩; refine ⟨_, rfl, ?_⟩; replace HM := HM.call hR; clear hR; obtain ⟨Xo95, ko95, eo95⟩ := HM.rdR 1 rfl; subst eo95; obtain ⟨Xo96, ko96, eo96⟩ := HM.rdR 0 rfl; subst eo96) | ((with_reducible refine gate_callee (f := 20) rfl ?_); refine pC (some 82) rfl #[.slice Xo95 t1178.length ko95, .slice Xo96 t1148.length ko96] rfl Try.func20 (laws_eqReplyS.calls kj45 _ _ t1178 _ _ t1148 t1207 _ (HM.CR 1 rfl).2.2 (HM.CR 1 rfl).2.1 (HM.CR 0 rfl).2.2 (HM.CR 0 rfl).2.1 A93.out) ?_; rintro e w94 ⟨rfl, hR⟩; refine ⟨_, rfl, ?_⟩; replace HM := HM.call hR; clear hR))
        go_meet
        case rel => exact ⟨_, (!t1207), RS, H', ⟨by have := HJ45.out; first | omega | exact Nat.le_refl _⟩, (MD HM).pick [0, 1, 2, 3, 4, 5, 6, 7, 8, 9, 11]⟩
       ·subst c92
        have H' := Aside0.mk H
        clear H
        obtain ⟨hcz88_0, hcz88_1, hcz88_2, hcz88_3, hcz88_4, hfz88_0, hfz88_1, hfz88_2, hfz88_3, hfz88_4⟩ := bk5 (HM.bx 11 rfl)
        obtain ⟨hcz89_0, hcz89_1, hcz89_2, hcz89_3, hcz89_4, hfz89_0, hfz89_1, hfz89_2, hfz89_3, hfz89_4⟩ := bk5 (HM.bx 9 rfl)
        go_wp2_with (first | ((with_reducible refine gate_callee (f := 12) rfl ?_); refine pC (some 76) rfl #[.agg #[.int .i64 t1167, .int .i64 t1168, .slice Xo42 t1169.length ko42, .slice Xo43 t1172.length ko43, .slice Xo44 t1175.length ko44], .agg #[.int .i64 t1137, .int .i64 t1138, .slice Xo23 t1139.length ko23, .slice Xo24 t1142.length ko24, .slice Xo25 t1145.length ko25]] rfl Try.func12 (laws_eqThree.calls kj45 t1167 t1168 _ _ t1169 _ _ t1172 _ _ t1175 t1137 t1138 _ _ t1139 _ _ t1142 _ _ t1145 false _ (HM.CR 5 rfl).2.2 (HM.CR 5 rfl).2.1 (HM.CR 6 rfl).2.2 (HM.CR 6 rfl).2.1 (HM.CR 7 rfl).2.2 (HM.CR 7 rfl).2.1 (HM.CR 2 rfl).2.2 (HM.CR 2 rfl).2.1 (HM.CR 3 rfl).2.2 (HM.CR 3 rfl).2.1 (HM.C 4 rfl).2.2 (HM.C 4 rfl).2.1 A90.out) ?_; rintro e w91 ⟨rfl, hR⟩; refine ⟨_, rfl, ?_⟩; replace HM := HM.call hR; clear hR))
        go_meet
        case rel => exact ⟨_, (true), RS, H', ⟨by have := HJ45.out; first | omega | exact Nat.le_refl _⟩, (MD HM).pick [0, 1, 2, 3, 4, 5, 6, 7, 8, 9, 11]⟩
     case rest =>
      clear HC86 HM
      obtain ⟨kq, x84_85, rfl, HA, HJ85, HM⟩ := hcut
      cases kq with
      | zero => exact absurd HA.out (by simp [laws_FnExactOpsDo.j1])
      | succ kj85 =>
       have H := HA.out
       clear HA
       simp only [laws_FnExactOpsDo.j1] at H
       replace H := GN H
       obtain ⟨c97, H⟩ := H
       replace c97 := Bool.eq_false_iff.mpr c97
       subst c97
       replace H := BN H; obtain ⟨⟨t1208, t1209, t1210, t1211⟩, A99, H⟩ := H
       replace H := BN H; obtain ⟨⟨t1212, t1213⟩, A101, H⟩ := H
       replace H := BN H; obtain ⟨t1214, A104, H⟩ := H
       replace H := GN H; obtain ⟨c106, H⟩ := H
       have c106b0 : decide (t1214 < 0) = false := decide_eq_false c106
       clear c106
       replace H := BN H; obtain ⟨t1215, A107, H⟩ := H
       replace H := GN H; obtain ⟨c110, H⟩ := H
       have c110b0 : decide (t1215 < 0) = false := decide_eq_false c110
       clear c110
       replace H := GD H; obtain ⟨c111, H⟩ := H
       have c111b0 : (t1215 == t1212) = true := beq_iff_eq.mpr c111
       have c111b1 : (t1215 != t1212) = false := bne_eq_false_iff_eq.mpr c111
       clear c111
       replace H := BN H; obtain ⟨⟨t1216, t1217, t1218, t1221, t1224⟩, A113, H⟩ := H
       replace H := BN H; obtain ⟨t1227, A115, H⟩ := H
       replace H := BN H; obtain ⟨⟨t1230, t1231, t1232, t1235, t1238, t1241⟩, A117, H⟩ := H
       have HC128 := Aside0.mk H
       clear H
       obtain ⟨hcz98_0, hcz98_1, hcz98_2, hcz98_3, hcz98_4, hfz98_0, hfz98_1, hfz98_2, hfz98_3, hfz98_4⟩ := bk5 (HM.bx 10 rfl)
       go_upto_region 36 with (first | ((with_reducible refine gate_callee (f := 14) rfl ?_); refine pC (some 87) rfl #[.agg #[.int .i64 t1167, .int .i64 t1168, .slice Xo42 t1169.length ko42, .slice Xo43 t1172.length ko43, .slice Xo44 t1175.length ko44], .int .i64 1] rfl Try.func14 (laws_markThree.calls kj85 t1167 t1168 (.slice Xo42 t1169.length ko42) t1169 (.slice Xo43 t1172.length ko43) t1172 (.slice Xo44 t1175.length ko44) t1175 1 t1208 t1209 t1210 t1211 _ _ _ (HM.focus [0, 1, 2, 3, 4, 8, 9, 10] [5, 6, 7]) A99.out) ?_; rintro e w100 ⟨rfl, hR⟩; refine ⟨_, rfl, ?_⟩; replace HM := nzM hR.unfocus; clear hR) | ((with_reducible refine gate_callee (f := 23) rfl ?_); refine pC (some 90) rfl #[v1179, .int .i64 t1208] rfl Try.func23 (laws_markReplyS.calls kj85 v1179 t1178 t1208 t1212 t1213 _ _ _ (HM.focus [0, 2, 3, 4, 5, 6, 7, 8, 9, 10] [1]) A101.out) ?_; rintro e w102 ⟨rfl, hR⟩; refine ⟨_, rfl, ?_⟩; replace HM := nzM hR.unfocus; clear hR; obtain ⟨hcz103_0, hcz103_1, hcz103_2, hcz103_3, hcz103_4, hfz103_0, hfz103_1, hfz103_2, hfz103_3, hfz103_4⟩ := bk5 (HM.bx 6 rfl)) | ((with_reducible refine gate_callee (f := 15) rfl ?_); refine pC (some 93) rfl #[.agg #[.int .i64 t1167, .int .i64 t1168, .slice Xo42 t1209.length ko42, .slice Xo43 t1210.length ko43, .slice Xo44 t1211.length ko44], .int .i64 1] rfl Try.func15 (laws_heldThree.calls kj85 t1167 t1168 _ _ t1209 _ _ t1210 _ _ t1211 1 t1214 _ (HM.CR 7 rfl).2.2 (by rw [← (HM.CR 7 rfl).1]; exact (HM.CR 7 rfl).2.1) (HM.CR 8 rfl).2.2 (by rw [← (HM.CR 8 rfl).1]; exact (HM.CR 8 rfl).2.1) (HM.CR 9 rfl).2.2 (by rw [← (HM.CR 9 rfl).1]; exact (HM.CR 9 rfl).2.1) A104.out) ?_ (hargs := by (try simp only [List.map_toArray, List.map_cons, List.map_nil]); show (#[.agg #[.int .i64 t1167, .int .i64 t1168, .slice Xo42 t1169.length ko42, .slice Xo43 t1172.length ko43, .slice Xo44 t1175.length ko44], .int .i64 1] : Array Value) = _; rw [(HM.CR 7 rfl).1, (HM.CR 8 rfl).1, (HM.CR 9 rfl).1]); rintro e w105 ⟨rfl, hR⟩; refine ⟨_, rfl, ?_⟩; replace HM := HM.call hR; clear hR; obtain ⟨Xo109, ko109, eo109⟩ := HM.rdR 10 rfl; subst eo109) | ((with_reducible refine gate_callee (f := 24) rfl ?_); refine pC (some 98) rfl #[.slice Xo109 t1213.length ko109, .int .i64 t1214] rfl Try.func24 (laws_heldReplyS.calls kj85 _ _ t1213 t1214 t1215 _ (HM.CR 10 rfl).2.2 (HM.CR 10 rfl).2.1 A107.out) ?_; rintro e w108 ⟨rfl, hR⟩; refine ⟨_, rfl, ?_⟩; replace HM := HM.call hR; clear hR; obtain ⟨hcz112_0, hcz112_1, hcz112_2, hcz112_3, hcz112_4, hfz112_0, hfz112_1, hfz112_2, hfz112_3, hfz112_4⟩ := bk5 (HM.bx 4 rfl)) | ((with_reducible refine gate_callee (f := 9) rfl ?_); refine pC (some 106) rfl #[.agg #[.int .i64 a0_0, .int .i64 a0_1, .slice A0_2 l0_2.length c0_2, .slice A0_3 l0_3.length c0_3, .slice A0_4 l0_4.length c0_4]] rfl Try.func9 (laws_toThree.calls kj85 a0_0 a0_1 _ _ l0_2 _ _ l0_3 _ _ l0_4 t1216 t1217 t1218 t1221 t1224 _ (HM.came HR0_2.out) HC0_2.out (HM.came HR0_3.out) HC0_3.out (HM.came HR0_4.out) HC0_4.out A113.out) ?_; rintro e w114 ⟨v1219, v1222, v1225, rfl, hR⟩; refine ⟨_, rfl, ?_⟩; replace HM := HM.call hR; clear hR) | ((with_reducible refine gate_callee (f := 18) rfl ?_); refine pC (some 108) rfl #[.slice A1 l1.length c1] rfl Try.func18 (laws_toOpS.calls kj85 _ _ l1 t1227 _ (HM.came HR1.out) HC1.out A115.out) ?_; rintro e w116 ⟨v1228, rfl, hR⟩; refine ⟨_, rfl, ?_⟩; replace HM := HM.call hR; clear hR; obtain ⟨Xo119, ko119, eo119⟩ := HM.rdR 11 rfl; subst eo119; obtain ⟨Xo120, ko120, eo120⟩ := HM.rdR 12 rfl; subst eo120; obtain ⟨Xo121, ko121, eo121⟩ := HM.rdR 13 rfl; subst eo121; obtain ⟨Xo122, ko122, eo122⟩ := HM.rdR 14 rfl; subst eo122) | ((with_reducible refine gate_callee (f := 19) rfl ?_); refine pC (some 109) rfl #[.agg #[.int .i64 t1216, .int .i64 t1217, .slice Xo119 t1218.length ko119, .slice Xo120 t1221.length ko120, .slice Xo121 t1224.length ko121], .slice Xo122 t1227.length ko122] rfl Try.func19 (impl_OpsDo.calls kj85 t1216 t1217 _ _ t1218 _ _ t1221 _ _ t1224 _ _ t1227 t1230 t1231 t1232 t1235 t1238 t1241 _ (HM.CR 11 rfl).2.2 (HM.CR 11 rfl).2.1 (HM.CR 12 rfl).2.2 (HM.CR 12 rfl).2.1 (HM.CR 13 rfl).2.2 (HM.CR 13 rfl).2.1 (HM.CR 14 rfl).2.2 (HM.CR 14 rfl).2.1 A117.out) ?_; rintro e w118 ⟨v1233, v1236, v1239, v1242, rfl, hR⟩; refine ⟨_, rfl, ?_⟩; replace HM := HM.call hR; clear hR) | ((with_reducible refine gate_dst (N := 15) rfl ?_); refine pB 15 32 [.int .i64 0, .int .i64 0, .slice none 0 0, .slice none 0 0, .slice none 0 0] HM rfl ?_; clear HM; intro gb1244 w123 HM; obtain ⟨Xo124, ko124, eo124⟩ := HM.rdR 15 rfl; subst eo124; obtain ⟨Xo125, ko125, eo125⟩ := HM.rdR 16 rfl; subst eo125; obtain ⟨Xo126, ko126, eo126⟩ := HM.rdR 17 rfl; subst eo126) | ((with_reducible refine gate_st (p := 15) rfl ?_); refine pS 19 15 0 [.int .i64 t1230, .int .i64 t1231, .slice Xo124 t1232.length ko124, .slice Xo125 t1235.length ko125, .slice Xo126 t1238.length ko126] HM rfl rfl ?_; clear HM; intro w127 HM))
       replace HM := nzM HM
       go_cut [121] (fun v121 wc => ∃ (kq : Nat) (x121_127 : Bool), v121 = .bool x121_127 ∧ Aside0 (laws_FnExactOpsDo.j2 kq t1213 t1212 x121_127 t1167 t1168 t1209 t1210 t1211 = some r) ∧ Aside0 (kq ≤ kj85) ∧ Mem w [] wc [rowR k34 34 (.slice Xo109 t1213.length ko109) t1213, rowR k95 95 (.slice Xo42 t1169.length ko42) t1209, rowR k95 95 (.slice Xo43 t1172.length ko43) t1210, rowR (Kd.int .i64) 3 (.slice Xo44 t1175.length ko44) t1211, box 32 gb1181 [.int .i64 t1167, .int .i64 t1168, (.slice Xo42 t1169.length ko42), (.slice Xo43 t1172.length ko43), (.slice Xo44 t1175.length ko44)]])
       case first =>
        have H := HC128.out
        clear HC128
        replace H := BN H; obtain ⟨t1245, A131, H⟩ := H
        replace H := IB H
        rcases H with ⟨c133, H⟩ | ⟨c133, H⟩
        ·subst c133
         replace H := BN H; obtain ⟨t1246, A134, H⟩ := H
         have H' := Aside0.mk H
         clear H
         obtain ⟨hcz129_0, hcz129_1, hcz129_2, hcz129_3, hcz129_4, hfz129_0, hfz129_1, hfz129_2, hfz129_3, hfz129_4⟩ := bk5 (HM.bx 19 rfl)
         obtain ⟨hcz130_0, hcz130_1, hcz130_2, hcz130_3, hcz130_4, hfz130_0, hfz130_1, hfz130_2, hfz130_3, hfz130_4⟩ := bk5 (HM.bx 5 rfl)
         go_wp2_with (first | ((with_reducible refine gate_callee (f := 12) rfl ?_); refine pC (some 114) rfl #[.agg #[.int .i64 t1230, .int .i64 t1231, .slice Xo124 t1232.length ko124, .slice Xo125 t1235.length ko125, .slice Xo126 t1238.length ko126], .agg #[.int .i64 t1137, .int .i64 t1138, .slice Xo23 t1139.length ko23, .slice Xo24 t1142.length ko24, .slice Xo25 t1145.length ko25]] rfl Try.func12 (laws_eqThree.calls kj85 t1230 t1231 _ _ t1232 _ _ t1235 _ _ t1238 t1137 t1138 _ _ t1139 _ _ t1142 _ _ t1145 true _ (HM.CR 15 rfl).2.2 (HM.CR 15 rfl).2.1 (HM.CR 16 rfl).2.2 (HM.CR 16 rfl).2.1 (HM.CR 17 rfl).2.2 (HM.CR 17 rfl).2.1 (HM.CR 1 rfl).2.2 (HM.CR 1 rfl).2.1 (HM.CR 2 rfl).2.2 (HM.CR 2 rfl).2.1 (HM.C 3 rfl).2.2 (HM.C 3 rfl).2.1 A131.out) ?_; rintro e w132 ⟨rfl, hR⟩; refine ⟨_, rfl, ?_⟩; replace HM := HM.call hR; clear hR; obtain ⟨Xo136, ko136, eo136⟩ := HM.rdR 18 rfl; subst eo136; obtain ⟨Xo137, ko137, eo137⟩ := HM.rdR 0 rfl; subst eo137) | ((with_reducible refine gate_callee (f := 20) rfl ?_); refine pC (some 119) rfl #[.slice Xo136 t1241.length ko136, .slice Xo137 t1148.length ko137] rfl Try.func20 (laws_eqReplyS.calls kj85 _ _ t1241 _ _ t1148 t1246 _ (HM.CR 18 rfl).2.2 (HM.CR 18 rfl).2.1 (HM.CR 0 rfl).2.2 (HM.CR 0 rfl).2.1 A134.out) ?_; rintro e w135 ⟨rfl, hR⟩; refine ⟨_, rfl, ?_⟩; replace HM := HM.call hR; clear hR))
         go_meet
         case rel => exact ⟨_, (!t1246), RS, H', ⟨by have := HJ45.out; have := HJ85.out; first | omega | exact Nat.le_refl _⟩, (MD HM).pick [10, 7, 8, 9, 6]⟩
        ·subst c133
         have H' := Aside0.mk H
         clear H
         obtain ⟨hcz129_0, hcz129_1, hcz129_2, hcz129_3, hcz129_4, hfz129_0, hfz129_1, hfz129_2, hfz129_3, hfz129_4⟩ := bk5 (HM.bx 19 rfl)
         obtain ⟨hcz130_0, hcz130_1, hcz130_2, hcz130_3, hcz130_4, hfz130_0, hfz130_1, hfz130_2, hfz130_3, hfz130_4⟩ := bk5 (HM.bx 5 rfl)
         go_wp2_with (first | ((with_reducible refine gate_callee (f := 12) rfl ?_); refine pC (some 114) rfl #[.agg #[.int .i64 t1230, .int .i64 t1231, .slice Xo124 t1232.length ko124, .slice Xo125 t1235.length ko125, .slice Xo126 t1238.length ko126], .agg #[.int .i64 t1137, .int .i64 t1138, .slice Xo23 t1139.length ko23, .slice Xo24 t1142.length ko24, .slice Xo25 t1145.length ko25]] rfl Try.func12 (laws_eqThree.calls kj85 t1230 t1231 _ _ t1232 _ _ t1235 _ _ t1238 t1137 t1138 _ _ t1139 _ _ t1142 _ _ t1145 false _ (HM.CR 15 rfl).2.2 (HM.CR 15 rfl).2.1 (HM.CR 16 rfl).2.2 (HM.CR 16 rfl).2.1 (HM.CR 17 rfl).2.2 (HM.CR 17 rfl).2.1 (HM.CR 1 rfl).2.2 (HM.CR 1 rfl).2.1 (HM.CR 2 rfl).2.2 (HM.CR 2 rfl).2.1 (HM.C 3 rfl).2.2 (HM.C 3 rfl).2.1 A131.out) ?_; rintro e w132 ⟨rfl, hR⟩; refine ⟨_, rfl, ?_⟩; replace HM := HM.call hR; clear hR))
         go_meet
         case rel => exact ⟨_, (true), RS, H', ⟨by have := HJ45.out; have := HJ85.out; first | omega | exact Nat.le_refl _⟩, (MD HM).pick [10, 7, 8, 9, 6]⟩
       case rest =>
        clear HC128 HM
        obtain ⟨kq, x121_127, rfl, HA, HJ127, HM⟩ := hcut
        cases kq with
        | zero => exact absurd HA.out (by simp [laws_FnExactOpsDo.j2])
        | succ kj127 =>
         have H := HA.out
         clear HA
         simp only [laws_FnExactOpsDo.j2] at H
         replace H := GN H
         obtain ⟨c138, H⟩ := H
         replace c138 := Bool.eq_false_iff.mpr c138
         subst c138
         replace H := BN H; obtain ⟨t1247, A140, H⟩ := H
         replace H := GN H; obtain ⟨c142, H⟩ := H
         have c142b0 : decide (t1247 < 0) = false := decide_eq_false c142
         clear c142
         replace H := BN H; obtain ⟨t1248, A143, H⟩ := H
         replace H := GN H; obtain ⟨c145, H⟩ := H
         have c145b0 : decide (t1248 < 0) = false := decide_eq_false c145
         clear c145
         replace H := GD H; obtain ⟨c146, H⟩ := H
         have c146b0 : (t1248 == t1212) = true := beq_iff_eq.mpr c146
         have c146b1 : (t1248 != t1212) = false := bne_eq_false_iff_eq.mpr c146
         clear c146
         obtain rfl := Option.some.inj H
         obtain ⟨hcz139_0, hcz139_1, hcz139_2, hcz139_3, hcz139_4, hfz139_0, hfz139_1, hfz139_2, hfz139_3, hfz139_4⟩ := bk5 (HM.bx 4 rfl)
         go_wp2_with (first | ((with_reducible refine gate_callee (f := 15) rfl ?_); refine pC (some 124) rfl #[.agg #[.int .i64 t1167, .int .i64 t1168, .slice Xo42 t1209.length ko42, .slice Xo43 t1210.length ko43, .slice Xo44 t1211.length ko44], .int .i64 1] rfl Try.func15 (laws_heldThree.calls kj127 t1167 t1168 _ _ t1209 _ _ t1210 _ _ t1211 1 t1247 _ (HM.CR 1 rfl).2.2 (by rw [← (HM.CR 1 rfl).1]; exact (HM.CR 1 rfl).2.1) (HM.CR 2 rfl).2.2 (by rw [← (HM.CR 2 rfl).1]; exact (HM.CR 2 rfl).2.1) (HM.CR 3 rfl).2.2 (by rw [← (HM.CR 3 rfl).1]; exact (HM.CR 3 rfl).2.1) A140.out) ?_ (hargs := by (try simp only [List.map_toArray, List.map_cons, List.map_nil]); show (#[.agg #[.int .i64 t1167, .int .i64 t1168, .slice Xo42 t1169.length ko42, .slice Xo43 t1172.length ko43, .slice Xo44 t1175.length ko44], .int .i64 1] : Array Value) = _; rw [(HM.CR 1 rfl).1, (HM.CR 2 rfl).1, (HM.CR 3 rfl).1]); rintro e w141 ⟨rfl, hR⟩; refine ⟨_, rfl, ?_⟩; replace HM := HM.call hR; clear hR) | ((with_reducible refine gate_callee (f := 24) rfl ?_); refine pC (some 129) rfl #[.slice Xo109 t1213.length ko109, .int .i64 t1247] rfl Try.func24 (laws_heldReplyS.calls kj127 _ _ t1213 t1247 t1248 _ (HM.CR 0 rfl).2.2 (HM.CR 0 rfl).2.1 A143.out) ?_; rintro e w144 ⟨rfl, hR⟩; refine ⟨_, rfl, ?_⟩; replace HM := HM.call hR; clear hR))
         go_ret
         exact ⟨ER, HM.bel⟩
end Go.Proofs.Ytdeijmofaapgdaa.G
