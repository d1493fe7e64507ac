/- Part 2 of the claim FnLab, merged by pack.py (this session's program) out of: the print's words, cut to what is needed; texts that gen.py printed (it runs the kit's print in place); texts of this session. -/
import Derived.RegionTactic
import Derived.Deep.RegionLaw
import Derived.Test.YtlokjgngjgbpmaaKFnLab0
import Derived.Test.YtlokjgngjgbpmaaKFnLab1
namespace Go.Proofs.Ytlokjgngjgbpmaa.Man
end Go.Proofs.Ytlokjgngjgbpmaa.Man
namespace Go.Proofs.Ytlokjgngjgbpmaa.Mm
end Go.Proofs.Ytlokjgngjgbpmaa.Mm
namespace Go.Proofs.Ytlokjgngjgbpmaa.Sh
end Go.Proofs.Ytlokjgngjgbpmaa.Sh
namespace Go.Proofs.Ytlokjgngjgbpmaa.G
open Go.RowKit Go.Proofs.YtlokjgngjgbpmaaW.PrintWords Go.Proofs.YtlokjgngjgbpmaaW.PrintLast Go.Proofs.YtlokjgngjgbpmaaW.PrintMore Go.Proofs.Ytlokjgngjgbpmaa.Sh
attribute [local go_sem] max2_int min2_int max_two min_two max_three min_three max_four min_four
set_option linter.unusedVariables false
set_option linter.unusedSimpArgs false
open Go.Proofs.Ytlokjgngjgbpmaa.Mm
def impl_Get.f (k : Nat) (a0_0 : Int) (a0_1 : Int) (l0_2 : List (S67)) (l0_3 : List (S67)) (l0_4 : List Int) (a1 : ByteArray) : Option (Int × Int × (List (S67)) × (List (S67)) × List Int × ByteArray × Bool) := (impl_ThreeOk.f k a0_0 a0_1 l0_2 l0_3 l0_4).bind fun t285 => (if t285 = true then ((impl_copyThree.f a0_0 a0_1 l0_2 l0_3 l0_4).bind fun bt286 => ((impl_Three_item.f bt286.2.2.1 bt286.2.2.2.1 a1).bind fun t298 => (if t298 < 0 then (some (bt286.1, bt286.2.1, bt286.2.2.1, bt286.2.2.2.1, bt286.2.2.2.2, (⟨#[]⟩ : ByteArray), false)) else (if t298 < (bt286.2.2.1.length : Int) then (if 0 ≤ t298 then ((some (bt286.2.2.1.set (t298 : Int).toNat (⟨(rd_T67 bt286.2.2.1 t298).f0, (rd_T67 bt286.2.2.1 t298).f1, mn 3 (wrap64 (((rd_T67 bt286.2.2.1 t298).f2) + 1))⟩ : S67) : List (S67))).bind fun y299 => (some (bt286.1, bt286.2.1, y299, bt286.2.2.2.1, bt286.2.2.2.2, (rd_T67 y299 t298).f1, true))) else (none)) else (if 0 ≤ (wrap64 (t298 - (bt286.2.2.1.length : Int))) then (if (wrap64 (t298 - (bt286.2.2.1.length : Int))) < (bt286.2.2.2.1.length : Int) then ((some (bt286.2.2.2.1.set ((wrap64 (t298 - (bt286.2.2.1.length : Int))) : Int).toNat (⟨(rd_T67 bt286.2.2.2.1 (wrap64 (t298 - (bt286.2.2.1.length : Int)))).f0, (rd_T67 bt286.2.2.2.1 (wrap64 (t298 - (bt286.2.2.1.length : Int)))).f1, mn 3 (wrap64 (((rd_T67 bt286.2.2.2.1 (wrap64 (t298 - (bt286.2.2.1.length : Int)))).f2) + 1))⟩ : S67) : List (S67))).bind fun y301 => (some (bt286.1, bt286.2.1, bt286.2.2.1, y301, bt286.2.2.2.2, (rd_T67 y301 (wrap64 (t298 - (bt286.2.2.1.length : Int)))).f1, true))) else (none)) else (none)))))) else (some (0, 0, ([] : List (S67)), ([] : List (S67)), ([] : List Int), (⟨#[]⟩ : ByteArray), false)))
def impl_Get.T8 : Bool × List (List Nat × List Nat) := (true, [([], []), ([], []), ([1], [1]), ([2], [2]), ([3], [3]), ([0, 0], [0]), ([4, 5, 0, 1, 2, 3, 4, 5], [4]), ([6, 0, 1, 2, 3, 4, 5, 6], [])])
def impl_Get.B8 : List Nat := [0, 0, 2, 6, 14, 1, 63, 127]
theorem impl_Get.tab8 : rtab .any (opsOf Try.f61 8) = impl_Get.T8 := by kernel_rfl
theorem impl_Get.bits8 : waitsOk impl_Get.T8.2 impl_Get.B8 = true := by kernel_rfl
set_option maxHeartbeats 8000000 in
set_option maxRecDepth 100000 in
theorem impl_Get.calls (k : Nat) (a0_0 : Int) (a0_1 : Int) (A0_2 : Option Addr) (c0_2 : Nat) (l0_2 : List (S67)) (A0_3 : Option Addr) (c0_3 : Nat) (l0_3 : List (S67)) (A0_4 : Option Addr) (c0_4 : Nat) (l0_4 : List Int) (a1 : ByteArray) (r1 : Int) (r2 : Int) (r3 : List (S67)) (r4 : List (S67)) (r5 : List Int) (r6 : ByteArray) (r7 : Bool) (w : World) (hr0_2 : Kd.C k67 w A0_2 l0_2.length l0_2) (hc0_2 : l0_2.length ≤ c0_2) (hr0_3 : Kd.C k67 w A0_3 l0_3.length l0_3) (hc0_3 : l0_3.length ≤ c0_3) (hr0_4 : Kd.C (Kd.int .i64) w A0_4 l0_4.length l0_4) (hc0_4 : l0_4.length ≤ c0_4) (h : impl_Get.f k a0_0 a0_1 l0_2 l0_3 l0_4 a1 = some (r1, r2, r3, r4, r5, r6, r7)) :
  Calls Try.prog 61 #[.agg #[.int .i64 a0_0, .int .i64 a0_1, .slice A0_2 l0_2.length c0_2, .slice A0_3 l0_3.length c0_3, .slice A0_4 l0_4.length c0_4], .string a1] w fun e w' => ∃ v2_ v3_ v4_ : Value, e = .returned (.tuple #[.agg #[.int .i64 r1, .int .i64 r2, v2_, v3_, v4_], .string r6, .bool r7]) ∧ Mem w [] w' [rowR k67 67 v2_ r3, rowR k67 67 v3_ r4, rowR (Kd.int .i64) 3 v4_ r5] := by
 have hu71 := Try.underlying71
 have HR0_2 := Aside0.mk hr0_2
 have HC0_2 := Aside0.mk hc0_2
 clear hr0_2 hc0_2
 have HR0_3 := Aside0.mk hr0_3
 have HC0_3 := Aside0.mk hc0_3
 clear hr0_3 hc0_3
 have HR0_4 := Aside0.mk hr0_4
 have HC0_4 := Aside0.mk hc0_4
 clear hr0_4 hc0_4
 have HM := Mem.nil w
 have H := h
 clear h
 unfold impl_Get.f at H
 go_enter Try.func61, Try.ntmps61
 replace H := BN H; obtain ⟨t285, A6, H⟩ := H
 replace H := IB H
 rcases H with ⟨c8, H⟩ | ⟨c8, H⟩
 ·subst c8
  replace H := BN H; obtain ⟨⟨t286, t287, t288, t291, t294⟩, A10, H⟩ := H
  replace H := BN H; obtain ⟨t298, A18, H⟩ := H
  replace H := IT H; rcases H with ⟨c20, H⟩ | ⟨c20, H⟩
  ·have c20b0 : decide (t298 < 0) = true := decide_eq_true c20
   clear c20
   simp only [Option.some.injEq, Prod.mk.injEq] at H
   obtain ⟨rfl, rfl, rfl, rfl, rfl, rfl, rfl⟩ := H
   go_wp2_with (first | ((with_reducible refine gN 2 rfl ?_); refine pB 2 71 [.int .i64 a0_0, .int .i64 a0_1, .slice A0_2 l0_2.length c0_2, .slice A0_3 l0_3.length c0_3, .slice A0_4 l0_4.length c0_4] HM rfl ?_; clear HM; intro gb283 w3 HM) | ((with_reducible refine gN 4 rfl ?_); refine pB 4 71 [.int .i64 0, .int .i64 0, .slice none 0 0, .slice none 0 0, .slice none 0 0] HM rfl ?_; clear HM; intro gb284 w4 HM; obtain ⟨z5_0, z5_1, z5_2, z5_3, z5_4, Z5_0, Z5_1, Z5_2, Z5_3, Z5_4⟩ := bk5 (HM.bx 0 rfl)) | ((with_reducible refine gC 59 rfl ?_); refine pC (some 10) rfl #[.agg #[.int .i64 a0_0, .int .i64 a0_1, .slice A0_2 l0_2.length c0_2, .slice A0_3 l0_3.length c0_3, .slice A0_4 l0_4.length c0_4]] rfl Try.func59 (impl_ThreeOk.calls k a0_0 a0_1 _ _ l0_2 _ _ l0_3 _ _ l0_4 true _ (HM.came HR0_2.out) HC0_2.out (HM.came HR0_3.out) HC0_3.out (HM.came HR0_4.out) HC0_4.out A6.out) ?_; rintro e w7 ⟨rfl, hR⟩; refine ⟨_, rfl, ?_⟩; replace HM := HM.call hR; clear hR; obtain ⟨z9_0, z9_1, z9_2, z9_3, z9_4, Z9_0, Z9_1, Z9_2, Z9_3, Z9_4⟩ := bk5 (HM.bx 0 rfl)) | ((with_reducible refine gC 79 rfl ?_); refine pC (some 14) rfl #[.agg #[.int .i64 a0_0, .int .i64 a0_1, .slice A0_2 l0_2.length c0_2, .slice A0_3 l0_3.length c0_3, .slice A0_4 l0_4.length c0_4]] rfl Try.func79 (impl_copyThree.calls a0_0 a0_1 _ _ l0_2 _ _ l0_3 _ _ l0_4 t286 t287 t288 t291 t294 _ (HM.came HR0_2.out) HC0_2.out (HM.came HR0_3.out) HC0_3.out (HM.came HR0_4.out) HC0_4.out A10.out) ?_; rintro e w11 ⟨v289, v292, v295, rfl, hR⟩; refine ⟨_, rfl, ?_⟩; replace HM := HM.call hR; clear hR) | ((with_reducible refine gN 7 rfl ?_); refine pB 7 71 [.int .i64 0, .int .i64 0, .slice none 0 0, .slice none 0 0, .slice none 0 0] HM rfl ?_; clear HM; intro gb297 w12 HM; obtain ⟨Xo13, ko13, eo13⟩ := HM.rdR 2 rfl; subst eo13; obtain ⟨Xo14, ko14, eo14⟩ := HM.rdR 3 rfl; subst eo14; obtain ⟨Xo15, ko15, eo15⟩ := HM.rdR 4 rfl; subst eo15) | ((with_reducible refine gS 7 rfl ?_); refine pS 5 7 0 [.int .i64 t286, .int .i64 t287, .slice Xo13 t288.length ko13, .slice Xo14 t291.length ko14, .slice Xo15 t294.length ko15] HM rfl rfl ?_; clear HM; intro w16 HM; obtain ⟨z17_0, z17_1, z17_2, z17_3, z17_4, Z17_0, Z17_1, Z17_2, Z17_3, Z17_4⟩ := bk5 (HM.bx 5 rfl)) | ((with_reducible refine gC 80 rfl ?_); refine pC (some 16) rfl #[.pointer (some ⟨gb297, 0, none⟩), .string a1] rfl Try.func80 (impl_Three_item.calls gb297 t286 t287 (.slice Xo15 t294.length ko15) Xo13 ko13 t288 Xo14 ko14 t291 a1 t298 _ (HM.CR 2 rfl).2.2 (HM.CR 2 rfl).2.1 (HM.CR 3 rfl).2.2 (HM.CR 3 rfl).2.1 (HM.bx 5 rfl) A18.out) ?_; rintro e w19 ⟨rfl, hb⟩; refine ⟨_, rfl, ?_⟩; replace HM := HM.below hb; clear hb; (first | rw [impl_Three_item.ptr_nil (by assumption)] | rw [impl_Three_item.ptr_small (by assumption) (by assumption)] | rw [impl_Three_item.ptr_main (by assumption) (by assumption)] | rw [impl_Three_item.ptr_nil' (by assumption)] | rw [impl_Three_item.ptr_small' (by assumption) (by assumption)] | rw [impl_Three_item.ptr_main' (by assumption) (by assumption)]); obtain ⟨z21_0, z21_1, z21_2, z21_3, z21_4, Z21_0, Z21_1, Z21_2, Z21_3, Z21_4⟩ := bk5 (HM.bx 5 rfl)) | ((with_reducible refine gS 4 rfl ?_); refine pS 1 4 0 [.int .i64 t286, .int .i64 t287, .slice Xo13 t288.length ko13, .slice Xo14 t291.length ko14, .slice Xo15 t294.length ko15] HM rfl rfl ?_; clear HM; intro w22 HM))
   refine bodyPost_ret (results_ctt rfl _ _ gb284 71 #[.int .i64 t286, .int .i64 t287, .slice Xo13 t288.length ko13, .slice Xo14 t291.length ko14, .slice Xo15 t294.length ko15] (0, 0) _ rfl (HM.bx 1 rfl) Try.underlying71 rfl (by kernel_rfl)) rfl ?_
   exact ⟨_, _, _, ER, (MD HM).pick [2, 3, 4]⟩
  ·have c20b0 : decide (t298 < 0) = false := decide_eq_false c20
   clear c20
   replace H := IT H; rcases H with ⟨c24, H⟩ | ⟨c24, H⟩
   ·have c24b0 : decide (t298 < (t288.length : Int)) = true := decide_eq_true c24
    clear c24
    replace H := GD H; obtain ⟨c25, H⟩ := H
    have c25b0 : decide (0 ≤ t298) = true := decide_eq_true c25
    clear c25
    obtain ⟨ji28, hji28⟩ : ∃ j_ : Int, (mn 3 (wrap64 (((rd_T67 t288 t298).f2) + 1))) = j_ := ⟨_, rfl⟩
    (first | rw [hji28] at H | simp only [hji28] at H | skip)
    have hji28_ : (if (wrap64 (((rd_T67 t288 t298).f2) + 1)) < 3 then (wrap64 (((rd_T67 t288 t298).f2) + 1)) else 3) = ji28 := hji28
    (try (have hji28h : ji28 ≤ 3 := by (rw [← hji28]; unfold mn; (repeat' split) <;> omega)))
    replace H := BLt H; obtain ⟨y299, Ny299, H⟩ := H
    replace Ny299 := Aside0.mk Ny299
    try go_wp2_with (first | ((with_reducible refine gN 2 rfl ?_); refine pB 2 71 [.int .i64 a0_0, .int .i64 a0_1, .slice A0_2 l0_2.length c0_2, .slice A0_3 l0_3.length c0_3, .slice A0_4 l0_4.length c0_4] HM rfl ?_; clear HM; intro gb283 w3 HM) | ((with_reducible refine gN 4 rfl ?_); refine pB 4 71 [.int .i64 0, .int .i64 0, .slice none 0 0, .slice none 0 0, .slice none 0 0] HM rfl ?_; clear HM; intro gb284 w4 HM; obtain ⟨z5_0, z5_1, z5_2, z5_3, z5_4, Z5_0, Z5_1, Z5_2, Z5_3, Z5_4⟩ := bk5 (HM.bx 0 rfl)) | ((with_reducible refine gC 59 rfl ?_); refine pC (some 10) rfl #[.agg #[.int .i64 a0_0, .int .i64 a0_1, .slice A0_2 l0_2.length c0_2, .slice A0_3 l0_3.length c0_3, .slice A0_4 l0_4.length c0_4]] rfl Try.func59 (impl_ThreeOk.calls k a0_0 a0_1 _ _ l0_2 _ _ l0_3 _ _ l0_4 true _ (HM.came HR0_2.out) HC0_2.out (HM.came HR0_3.out) HC0_3.out (HM.came HR0_4.out) HC0_4.out A6.out) ?_; rintro e w7 ⟨rfl, hR⟩; refine ⟨_, rfl, ?_⟩; replace HM := HM.call hR; clear hR; obtain ⟨z9_0, z9_1, z9_2, z9_3, z9_4, Z9_0, Z9_1, Z9_2, Z9_3, Z9_4⟩ := bk5 (HM.bx 0 rfl)) | ((with_reducible refine gC 79 rfl ?_); refine pC (some 14) rfl #[.agg #[.int .i64 a0_0, .int .i64 a0_1, .slice A0_2 l0_2.length c0_2, .slice A0_3 l0_3.length c0_3, .slice A0_4 l0_4.length c0_4]] rfl Try.func79 (impl_copyThree.calls a0_0 a0_1 _ _ l0_2 _ _ l0_3 _ _ l0_4 t286 t287 t288 t291 t294 _ (HM.came HR0_2.out) HC0_2.out (HM.came HR0_3.out) HC0_3.out (HM.came HR0_4.out) HC0_4.out A10.out) ?_; rintro e w11 ⟨v289, v292, v295, rfl, hR⟩; refine ⟨_, rfl, ?_⟩; replace HM := HM.call hR; clear hR) | ((with_reducible refine gN 7 rfl ?_); refine pB 7 71 [.int .i64 0, .int .i64 0, .slice none 0 0, .slice none 0 0, .slice none 0 0] HM rfl ?_; clear HM; intro gb297 w12 HM; obtain ⟨Xo13, ko13, eo13⟩ := HM.rdR 2 rfl; subst eo13; obtain ⟨Xo14, ko14, eo14⟩ := HM.rdR 3 rfl; subst eo14; obtain ⟨Xo15, ko15, eo15⟩ := HM.rdR 4 rfl; subst eo15) | ((with_reducible refine gS 7 rfl ?_); refine pS 5 7 0 [.int .i64 t286, .int .i64 t287, .slice Xo13 t288.length ko13, .slice Xo14 t291.length ko14, .slice Xo15 t294.length ko15] HM rfl rfl ?_; clear HM; intro w16 HM; obtain ⟨z17_0, z17_1, z17_2, z17_3, z17_4, Z17_0, Z17_1, Z17_2, Z17_3, Z17_4⟩ := bk5 (HM.bx 5 rfl)) | ((with_reducible refine gC 80 rfl ?_); refine pC (some 16) rfl #[.pointer (some ⟨gb297, 0, none⟩), .string a1] rfl Try.func80 (impl_Three_item.calls gb297 t286 t287 (.slice Xo15 t294.length ko15) Xo13 ko13 t288 Xo14 ko14 t291 a1 t298 _ (HM.CR 2 rfl).2.2 (HM.CR 2 rfl).2.1 (HM.CR 3 rfl).2.2 (HM.CR 3 rfl).2.1 (HM.bx 5 rfl) A18.out) ?_; rintro e w19 ⟨rfl, hb⟩; refine ⟨_, rfl, ?_⟩; replace HM := HM.below hb; clear hb; have pf27 : 0 ≤ (t298 : Int) := of_decide_eq_true AS; have qf27 : (t298 : Int) < ((t288.length : Int) : Int) := of_decide_eq_true AS; obtain ⟨gof27, eff27⟩ := HM.form 2 rfl (by have h_ := (HM.CR 2 rfl).1; omega); subst eff27; clear pf27 qf27; (first | rw [impl_Three_item.ptr_nil (by assumption)] | rw [impl_Three_item.ptr_small (by assumption) (by assumption)] | rw [impl_Three_item.ptr_main (by assumption) (by assumption)] | rw [impl_Three_item.ptr_nil' (by assumption)] | rw [impl_Three_item.ptr_small' (by assumption) (by assumption)] | rw [impl_Three_item.ptr_main' (by assumption) (by assumption)]); obtain ⟨z23_0, z23_1, z23_2, z23_3, z23_4, Z23_0, Z23_1, Z23_2, Z23_3, Z23_4⟩ := bk5 (HM.bx 5 rfl); have p26 : 0 ≤ (t298 : Int) := of_decide_eq_true AS; have q26 : (t298 : Int) < ((t288.length : Int) : Int) := of_decide_eq_true AS; obtain ⟨hx26_0, hx26_1, hx26_2, hf26_0, hf26_1, hf26_2⟩ := HM.el3 2 rfl z67 (t298 : Int) p26 (by have h_ := (HM.CR 2 rfl).1; omega) (.string ((rd_T67 t288 t298).f0)) (.string ((rd_T67 t288 t298).f1)) (.int .i64 ((rd_T67 t288 t298).f2)) (fun _ _ h => k67_openM h); replace p26 := eq_true p26; replace q26 := eq_true q26) | ((with_reducible refine gS 28 rfl ?_); refine pPR 2 28 (t298 : Int) 2 [.int .i64 ji28] k67 67 t288 (⟨(rd_T67 t288 t298).f0, (rd_T67 t288 t298).f1, ji28⟩ : S67) z67 [.string ((rd_T67 t288 t298).f0), .string ((rd_T67 t288 t298).f1), .int .i64 ((rd_T67 t288 t298).f2)] HM rfl rfl (of_decide_eq_true AS) (by have h_ : (t298 : Int) < ((t288.length : Int) : Int) := of_decide_eq_true AS; have e_ := (HM.CR 2 rfl).1; omega) (fun _ _ h => k67_openM h) (k67_mkM _ _ _ (⟨(rd_T67 t288 t298).f0, (rd_T67 t288 t298).f1, ji28⟩ : S67)) ?_; clear HM; intro w29 HM; replace HM := HM.nm 2 rfl Ny299.out; have p30 : 0 ≤ (t298 : Int) := of_decide_eq_true AS; have q30 : (t298 : Int) < ((t288.length : Int) : Int) := of_decide_eq_true AS; obtain ⟨hx30_0, hx30_1, hx30_2, hf30_0, hf30_1, hf30_2⟩ := HM.el3 2 rfl z67 (t298 : Int) p30 (by have h_ := (HM.CR 2 rfl).1; omega) (.string ((rd_T67 y299 t298).f0)) (.string ((rd_T67 y299 t298).f1)) (.int .i64 ((rd_T67 y299 t298).f2)) (fun _ _ h => k67_openM h); replace p30 := eq_true p30; replace q30 := eq_true q30))
    have p300 : 0 ≤ (t298 : Int) := of_decide_eq_true AS
    have q300 : (t298 : Int) < (y299.length : Int) := (by have h_ : (t298 : Int) < ((t288.length : Int) : Int) := of_decide_eq_true AS; first | exact h_ | (simp only [Ny299.out, List.length_set] at h_ ⊢; exact h_))
    have ql300 : ((t298 : Int) < ((t288.length : Int) : Int)) = True := eq_true (of_decide_eq_true AS)
    obtain ⟨ad300, e300, hx300_0, hx300_1, hx300_2⟩ := at_T67 (HM.CR 2 rfl).2.2 t298 p300 q300
    obtain rfl := Option.some.inj e300
    (first | simp only [add_plain] at hx300_0 | simp only [add_at] at hx300_0 | simp only [Addr.add, Nat.zero_add] at hx300_0 | skip)
    (first | simp only [add_plain] at hx300_1 | simp only [add_at] at hx300_1 | simp only [Addr.add, Nat.zero_add] at hx300_1 | skip)
    (first | simp only [add_plain] at hx300_2 | simp only [add_at] at hx300_2 | simp only [Addr.add, Nat.zero_add] at hx300_2 | skip)
    replace p300 := eq_true p300
    replace q300 := eq_true q300
    refine RGN 8 [0, 1, 2, 3, 4, 5, 6, 7] (fun a0 b a w' => a = putSel a0 b [(0, 29, .agg #[.int .i64 t286, .int .i64 t287, .slice (some ⟨gof27, 0, none⟩) t288.length ko13, .slice Xo14 t291.length ko14, .slice Xo15 t294.length ko15]), (1, 30, .pointer (some ⟨gof27, (t298 : Int).toNat * 3, none⟩)), (2, 31, .pointer (some ⟨gof27, (t298 : Int).toNat * 3, none⟩)), (3, 32, .pointer (some ⟨gof27, (t298 : Int).toNat * 3 + 1, none⟩)), (4, 33, .string ((rd_T67 y299 t298).f1)), (6, 5, .string ((rd_T67 y299 t298).f1)), (7, 6, .bool true)] ∧ Mem w [] w' [box 71 gb283 [.int .i64 a0_0, .int .i64 a0_1, .slice A0_2 l0_2.length c0_2, .slice A0_3 l0_3.length c0_3, .slice A0_4 l0_4.length c0_4], sel (b 5) (box 71 gb284 [.int .i64 t286, .int .i64 t287, .slice (some ⟨gof27, 0, none⟩) t288.length ko13, .slice Xo14 t291.length ko14, .slice Xo15 t294.length ko15]) (box 71 gb284 [.int .i64 0, .int .i64 0, .slice none 0 0, .slice none 0 0, .slice none 0 0]), rowR k67 67 (.slice (some ⟨gof27, 0, none⟩) t288.length ko13) y299, rowR k67 67 (.slice Xo14 t291.length ko14) t291, rowR (Kd.int .i64) 3 (.slice Xo15 t294.length ko15) t294, box 71 gb297 [.int .i64 t286, .int .i64 t287, .slice (some ⟨gof27, 0, none⟩) t288.length ko13, .slice Xo14 t291.length ko14, .slice Xo15 t294.length ko15]]) impl_Get.tab8 impl_Get.bits8 ?_ ?_ ?_
    ·exact ⟨PS0' rfl _, (HM.drew).pick [0, 1, 2, 3, 4, 5]⟩
    ·clear HM
     refine SY ?_ ?_
     ·intro b a w ha HM hb hon hoff K hK
      obtain ⟨z33_0, z33_1, z33_2, z33_3, z33_4, Z33_0, Z33_1, Z33_2, Z33_3, Z33_4⟩ := bk5 (HM.bx 5 rfl)
      have e7 := PG ha 7
      exact VL (.agg #[.int .i64 t286, .int .i64 t287, .slice (some ⟨gof27, 0, none⟩) t288.length ko13, .slice Xo14 t291.length ko14, .slice Xo15 t294.length ko15]) (hK.out _ _ ⟨PUT ha 0 hb, HM⟩)
     refine SY ?_ ?_
     ·intro b a w ha HM hb hon hoff K hK
      have e8 := PG ha 8
      exact VL (.pointer (some ⟨gof27, (t298 : Int).toNat * 3, none⟩)) (hK.out _ _ ⟨PUT ha 1 hb, HM⟩)
     refine SY ?_ ?_
     ·intro b a w ha HM hb hon hoff K hK
      have e30 := PE ha 1 hon
      exact VL (.pointer (some ⟨gof27, (t298 : Int).toNat * 3, none⟩)) (hK.out _ _ ⟨PUT ha 2 hb, HM⟩)
     refine SY ?_ ?_
     ·intro b a w ha HM hb hon hoff K hK
      have e31 := PE ha 2 hon
      exact VL (.pointer (some ⟨gof27, (t298 : Int).toNat * 3 + 1, none⟩)) (hK.out _ _ ⟨PUT ha 3 hb, HM⟩)
     refine SY ?_ ?_
     ·intro b a w ha HM hb hon hoff K hK
      have p300 : 0 ≤ (t298 : Int) := of_decide_eq_true AS
      have q300 : (t298 : Int) < (y299.length : Int) := (by have h_ : (t298 : Int) < ((t288.length : Int) : Int) := of_decide_eq_true AS; first | exact h_ | (simp only [Ny299.out, List.length_set] at h_ ⊢; exact h_))
      have ql300 : ((t298 : Int) < ((t288.length : Int) : Int)) = True := eq_true (of_decide_eq_true AS)
      obtain ⟨ad300, e300, hx300_0, hx300_1, hx300_2⟩ := at_T67 (HM.CR 2 rfl).2.2 t298 p300 q300
      obtain rfl := Option.some.inj e300
      (first | simp only [add_plain] at hx300_0 | simp only [add_at] at hx300_0 | simp only [Addr.add, Nat.zero_add] at hx300_0 | skip)
      (first | simp only [add_plain] at hx300_1 | simp only [add_at] at hx300_1 | simp only [Addr.add, Nat.zero_add] at hx300_1 | skip)
      (first | simp only [add_plain] at hx300_2 | simp only [add_at] at hx300_2 | simp only [Addr.add, Nat.zero_add] at hx300_2 | skip)
      replace p300 := eq_true p300
      replace q300 := eq_true q300
      have e32 := PE ha 3 hon
      exact VL (.string ((rd_T67 y299 t298).f1)) (hK.out _ _ ⟨PUT ha 4 hb, HM⟩)
     refine SY ?_ ?_
     ·intro b a w ha HM hb hon hoff K hK
      replace HM := HM.sF 1 rfl hb
      have e4 := PG ha 4
      have e29 := PE ha 0 hon
      refine ST (eS 1 4 0 [.int .i64 t286, .int .i64 t287, .slice (some ⟨gof27, 0, none⟩) t288.length ko13, .slice Xo14 t291.length ko14, .slice Xo15 t294.length ko15] HM rfl rfl ?_ (hp := (eval_of e4)) (hx := (by rw [eval_of e29]; rfl)))
      clear HM
      intro w34 HM
      exact hK.out _ _ ⟨PUS ha, (HM).pick [0, 1, 2, 3, 4, 5]⟩
     refine SY ?_ ?_
     ·intro b a w ha HM hb hon hoff K hK
      have e33 := PE ha 4 hon
      exact VL (.string ((rd_T67 y299 t298).f1)) (hK.out _ _ ⟨PUT ha 5 hb, HM⟩)
     refine SY ?_ ?_
     ·intro b a w ha HM hb hon hoff K hK
      exact VL (.bool true) (hK.out _ _ ⟨PUT ha 6 hb, HM⟩)
     exact steps_nil
    rintro _ w35 ⟨rfl, HM⟩
    replace HM := HM.sT 1 rfl rfl
    simp only [putSel, if_true, Act.put, List.setIfInBounds_toArray, List.set_cons_zero, List.set_cons_succ, gt_iff_lt, ge_iff_le]
    simp only [Option.some.injEq, Prod.mk.injEq] at H
    obtain ⟨rfl, rfl, rfl, rfl, rfl, rfl, rfl⟩ := H
    go_wp2
    refine bodyPost_ret (results_ctt rfl _ _ gb284 71 #[.int .i64 t286, .int .i64 t287, .slice (some ⟨gof27, 0, none⟩) t288.length ko13, .slice Xo14 t291.length ko14, .slice Xo15 t294.length ko15] (0, 0) _ rfl (HM.bx 1 rfl) Try.underlying71 rfl (by kernel_rfl)) rfl ?_
    exact ⟨_, _, _, ER, (MD HM).pick [2, 3, 4]⟩
   ·have c24b0 : decide (t298 < (t288.length : Int)) = false := decide_eq_false c24
    clear c24
    replace H := GD H; obtain ⟨c36, H⟩ := H
    have c36b0 : decide (0 ≤ (wrap64 (t298 - (t288.length : Int)))) = true := decide_eq_true c36
    clear c36
    replace H := GD H; obtain ⟨c37, H⟩ := H
    have c37b0 : decide ((wrap64 (t298 - (t288.length : Int))) < (t291.length : Int)) = true := decide_eq_true c37
    clear c37
    obtain ⟨ji40, hji40⟩ : ∃ j_ : Int, (mn 3 (wrap64 (((rd_T67 t291 (wrap64 (t298 - (t288.length : Int)))).f2) + 1))) = j_ := ⟨_, rfl⟩
    (first | rw [hji40] at H | simp only [hji40] at H | skip)
    have hji40_ : (if (wrap64 (((rd_T67 t291 (wrap64 (t298 - (t288.length : Int)))).f2) + 1)) < 3 then (wrap64 (((rd_T67 t291 (wrap64 (t298 - (t288.length : Int)))).f2) + 1)) else 3) = ji40 := hji40
    (try (have hji40h : ji40 ≤ 3 := by (rw [← hji40]; unfold mn; (repeat' split) <;> omega)))
    replace H := BLt H; obtain ⟨y301, Ny301, H⟩ := H
    replace Ny301 := Aside0.mk Ny301
    try go_wp2_with (first | ((with_reducible refine gN 2 rfl ?_); refine pB 2 71 [.int .i64 a0_0, .int .i64 a0_1, .slice A0_2 l0_2.length c0_2, .slice A0_3 l0_3.length c0_3, .slice A0_4 l0_4.length c0_4] HM rfl ?_; clear HM; intro gb283 w3 HM) | ((with_reducible refine gN 4 rfl ?_); refine pB 4 71 [.int .i64 0, .int .i64 0, .slice none 0 0, .slice none 0 0, .slice none 0 0] HM rfl ?_; clear HM; intro gb284 w4 HM; obtain ⟨z5_0, z5_1, z5_2, z5_3, z5_4, Z5_0, Z5_1, Z5_2, Z5_3, Z5_4⟩ := bk5 (HM.bx 0 rfl)) | ((with_reducible refine gC 59 rfl ?_); refine pC (some 10) rfl #[.agg #[.int .i64 a0_0, .int .i64 a0_1, .slice A0_2 l0_2.length c0_2, .slice A0_3 l0_3.length c0_3, .slice A0_4 l0_4.length c0_4]] rfl Try.func59 (impl_ThreeOk.calls k a0_0 a0_1 _ _ l0_2 _ _ l0_3 _ _ l0_4 true _ (HM.came HR0_2.out) HC0_2.out (HM.came HR0_3.out) HC0_3.out (HM.came HR0_4.out) HC0_4.out A6.out) ?_; rintro e w7 ⟨rfl, hR⟩; refine ⟨_, rfl, ?_⟩; replace HM := HM.call hR; clear hR; obtain ⟨z9_0, z9_1, z9_2, z9_3, z9_4, Z9_0, Z9_1, Z9_2, Z9_3, Z9_4⟩ := bk5 (HM.bx 0 rfl)) | ((with_reducible refine gC 79 rfl ?_); refine pC (some 14) rfl #[.agg #[.int .i64 a0_0, .int .i64 a0_1, .slice A0_2 l0_2.length c0_2, .slice A0_3 l0_3.length c0_3, .slice A0_4 l0_4.length c0_4]] rfl Try.func79 (impl_copyThree.calls a0_0 a0_1 _ _ l0_2 _ _ l0_3 _ _ l0_4 t286 t287 t288 t291 t294 _ (HM.came HR0_2.out) HC0_2.out (HM.came HR0_3.out) HC0_3.out (HM.came HR0_4.out) HC0_4.out A10.out) ?_; rintro e w11 ⟨v289, v292, v295, rfl, hR⟩; refine ⟨_, rfl, ?_⟩; replace HM := HM.call hR; clear hR) | ((with_reducible refine gN 7 rfl ?_); refine pB 7 71 [.int .i64 0, .int .i64 0, .slice none 0 0, .slice none 0 0, .slice none 0 0] HM rfl ?_; clear HM; intro gb297 w12 HM; obtain ⟨Xo13, ko13, eo13⟩ := HM.rdR 2 rfl; subst eo13; obtain ⟨Xo14, ko14, eo14⟩ := HM.rdR 3 rfl; subst eo14; obtain ⟨Xo15, ko15, eo15⟩ := HM.rdR 4 rfl; subst eo15) | ((with_reducible refine gS 7 rfl ?_); refine pS 5 7 0 [.int .i64 t286, .int .i64 t287, .slice Xo13 t288.length ko13, .slice Xo14 t291.length ko14, .slice Xo15 t294.length ko15] HM rfl rfl ?_; clear HM; intro w16 HM; obtain ⟨z17_0, z17_1, z17_2, z17_3, z17_4, Z17_0, Z17_1, Z17_2, Z17_3, Z17_4⟩ := bk5 (HM.bx 5 rfl)) | ((with_reducible refine gC 80 rfl ?_); refine pC (some 16) rfl #[.pointer (some ⟨gb297, 0, none⟩), .string a1] rfl Try.func80 (impl_Three_item.calls gb297 t286 t287 (.slice Xo15 t294.length ko15) Xo13 ko13 t288 Xo14 ko14 t291 a1 t298 _ (HM.CR 2 rfl).2.2 (HM.CR 2 rfl).2.1 (HM.CR 3 rfl).2.2 (HM.CR 3 rfl).2.1 (HM.bx 5 rfl) A18.out) ?_; rintro e w19 ⟨rfl, hb⟩; refine ⟨_, rfl, ?_⟩; replace HM := HM.below hb; clear hb; have pf39 : 0 ≤ ((wrap64 (t298 - (t288.length : Int))) : Int) := of_decide_eq_true AS; have qf39 : ((wrap64 (t298 - (t288.length : Int))) : Int) < ((t291.length : Int) : Int) := of_decide_eq_true AS; obtain ⟨gof39, eff39⟩ := HM.form 3 rfl (by have h_ := (HM.CR 3 rfl).1; omega); subst eff39; clear pf39 qf39; (first | rw [impl_Three_item.ptr_nil (by assumption)] | rw [impl_Three_item.ptr_small (by assumption) (by assumption)] | rw [impl_Three_item.ptr_main (by assumption) (by assumption)] | rw [impl_Three_item.ptr_nil' (by assumption)] | rw [impl_Three_item.ptr_small' (by assumption) (by assumption)] | rw [impl_Three_item.ptr_main' (by assumption) (by assumption)]); obtain ⟨z23_0, z23_1, z23_2, z23_3, z23_4, Z23_0, Z23_1, Z23_2, Z23_3, Z23_4⟩ := bk5 (HM.bx 5 rfl); have p38 : 0 ≤ ((wrap64 (t298 - (t288.length : Int))) : Int) := of_decide_eq_true AS; have q38 : ((wrap64 (t298 - (t288.length : Int))) : Int) < ((t291.length : Int) : Int) := of_decide_eq_true AS; obtain ⟨hx38_0, hx38_1, hx38_2, hf38_0, hf38_1, hf38_2⟩ := HM.el3 3 rfl z67 ((wrap64 (t298 - (t288.length : Int))) : Int) p38 (by have h_ := (HM.CR 3 rfl).1; omega) (.string ((rd_T67 t291 (wrap64 (t298 - (t288.length : Int)))).f0)) (.string ((rd_T67 t291 (wrap64 (t298 - (t288.length : Int)))).f1)) (.int .i64 ((rd_T67 t291 (wrap64 (t298 - (t288.length : Int)))).f2)) (fun _ _ h => k67_openM h); replace p38 := eq_true p38; replace q38 := eq_true q38) | ((with_reducible refine gS 28 rfl ?_); refine pPR 3 28 ((wrap64 (t298 - (t288.length : Int))) : Int) 2 [.int .i64 ji40] k67 67 t291 (⟨(rd_T67 t291 (wrap64 (t298 - (t288.length : Int)))).f0, (rd_T67 t291 (wrap64 (t298 - (t288.length : Int)))).f1, ji40⟩ : S67) z67 [.string ((rd_T67 t291 (wrap64 (t298 - (t288.length : Int)))).f0), .string ((rd_T67 t291 (wrap64 (t298 - (t288.length : Int)))).f1), .int .i64 ((rd_T67 t291 (wrap64 (t298 - (t288.length : Int)))).f2)] HM rfl rfl (of_decide_eq_true AS) (by have h_ : ((wrap64 (t298 - (t288.length : Int))) : Int) < ((t291.length : Int) : Int) := of_decide_eq_true AS; have e_ := (HM.CR 3 rfl).1; omega) (fun _ _ h => k67_openM h) (k67_mkM _ _ _ (⟨(rd_T67 t291 (wrap64 (t298 - (t288.length : Int)))).f0, (rd_T67 t291 (wrap64 (t298 - (t288.length : Int)))).f1, ji40⟩ : S67)) ?_; clear HM; intro w41 HM; replace HM := HM.nm 3 rfl Ny301.out; have p42 : 0 ≤ ((wrap64 (t298 - (t288.length : Int))) : Int) := of_decide_eq_true AS; have q42 : ((wrap64 (t298 - (t288.length : Int))) : Int) < ((t291.length : Int) : Int) := of_decide_eq_true AS; obtain ⟨hx42_0, hx42_1, hx42_2, hf42_0, hf42_1, hf42_2⟩ := HM.el3 3 rfl z67 ((wrap64 (t298 - (t288.length : Int))) : Int) p42 (by have h_ := (HM.CR 3 rfl).1; omega) (.string ((rd_T67 y301 (wrap64 (t298 - (t288.length : Int)))).f0)) (.string ((rd_T67 y301 (wrap64 (t298 - (t288.length : Int)))).f1)) (.int .i64 ((rd_T67 y301 (wrap64 (t298 - (t288.length : Int)))).f2)) (fun _ _ h => k67_openM h); replace p42 := eq_true p42; replace q42 := eq_true q42))
    have p302 : 0 ≤ ((wrap64 (t298 - (t288.length : Int))) : Int) := of_decide_eq_true AS
    have q302 : ((wrap64 (t298 - (t288.length : Int))) : Int) < (y301.length : Int) := (by have h_ : ((wrap64 (t298 - (t288.length : Int))) : Int) < ((t291.length : Int) : Int) := of_decide_eq_true AS; first | exact h_ | (simp only [Ny301.out, List.length_set] at h_ ⊢; exact h_))
    have ql302 : (((wrap64 (t298 - (t288.length : Int))) : Int) < ((t291.length : Int) : Int)) = True := eq_true (of_decide_eq_true AS)
    obtain ⟨ad302, e302, hx302_0, hx302_1, hx302_2⟩ := at_T67 (HM.CR 3 rfl).2.2 (wrap64 (t298 - (t288.length : Int))) p302 q302
    obtain rfl := Option.some.inj e302
    (first | simp only [add_plain] at hx302_0 | simp only [add_at] at hx302_0 | simp only [Addr.add, Nat.zero_add] at hx302_0 | skip)
    (first | simp only [add_plain] at hx302_1 | simp only [add_at] at hx302_1 | simp only [Addr.add, Nat.zero_add] at hx302_1 | skip)
    (first | simp only [add_plain] at hx302_2 | simp only [add_at] at hx302_2 | simp only [Addr.add, Nat.zero_add] at hx302_2 | skip)
    replace p302 := eq_true p302
    replace q302 := eq_true q302
    refine RGN 8 [0, 1, 2, 3, 4, 5, 6, 7] (fun a0 b a w' => a = putSel a0 b [(0, 29, .agg #[.int .i64 t286, .int .i64 t287, .slice Xo13 t288.length ko13, .slice (some ⟨gof39, 0, none⟩) t291.length ko14, .slice Xo15 t294.length ko15]), (1, 30, .pointer (some ⟨gof39, (wrap64 (t298 - (t288.length : Int)) : Int).toNat * 3, none⟩)), (2, 31, .pointer (some ⟨gof39, (wrap64 (t298 - (t288.length : Int)) : Int).toNat * 3, none⟩)), (3, 32, .pointer (some ⟨gof39, (wrap64 (t298 - (t288.length : Int)) : Int).toNat * 3 + 1, none⟩)), (4, 33, .string ((rd_T67 y301 (wrap64 (t298 - (t288.length : Int)))).f1)), (6, 5, .string ((rd_T67 y301 (wrap64 (t298 - (t288.length : Int)))).f1)), (7, 6, .bool true)] ∧ Mem w [] w' [box 71 gb283 [.int .i64 a0_0, .int .i64 a0_1, .slice A0_2 l0_2.length c0_2, .slice A0_3 l0_3.length c0_3, .slice A0_4 l0_4.length c0_4], sel (b 5) (box 71 gb284 [.int .i64 t286, .int .i64 t287, .slice Xo13 t288.length ko13, .slice (some ⟨gof39, 0, none⟩) t291.length ko14, .slice Xo15 t294.length ko15]) (box 71 gb284 [.int .i64 0, .int .i64 0, .slice none 0 0, .slice none 0 0, .slice none 0 0]), rowR k67 67 (.slice Xo13 t288.length ko13) t288, rowR k67 67 (.slice (some ⟨gof39, 0, none⟩) t291.length ko14) y301, rowR (Kd.int .i64) 3 (.slice Xo15 t294.length ko15) t294, box 71 gb297 [.int .i64 t286, .int .i64 t287, .slice Xo13 t288.length ko13, .slice (some ⟨gof39, 0, none⟩) t291.length ko14, .slice Xo15 t294.length ko15]]) impl_Get.tab8 impl_Get.bits8 ?_ ?_ ?_
    ·exact ⟨PS0' rfl _, (HM.drew).pick [0, 1, 2, 3, 4, 5]⟩
    ·clear HM
     refine SY ?_ ?_
     ·intro b a w ha HM hb hon hoff K hK
      obtain ⟨z45_0, z45_1, z45_2, z45_3, z45_4, Z45_0, Z45_1, Z45_2, Z45_3, Z45_4⟩ := bk5 (HM.bx 5 rfl)
      have e7 := PG ha 7
      exact VL (.agg #[.int .i64 t286, .int .i64 t287, .slice Xo13 t288.length ko13, .slice (some ⟨gof39, 0, none⟩) t291.length ko14, .slice Xo15 t294.length ko15]) (hK.out _ _ ⟨PUT ha 0 hb, HM⟩)
     refine SY ?_ ?_
     ·intro b a w ha HM hb hon hoff K hK
      have e8 := PG ha 8
      exact VL (.pointer (some ⟨gof39, (wrap64 (t298 - (t288.length : Int)) : Int).toNat * 3, none⟩)) (hK.out _ _ ⟨PUT ha 1 hb, HM⟩)
     refine SY ?_ ?_
     ·intro b a w ha HM hb hon hoff K hK
      have e30 := PE ha 1 hon
      exact VL (.pointer (some ⟨gof39, (wrap64 (t298 - (t288.length : Int)) : Int).toNat * 3, none⟩)) (hK.out _ _ ⟨PUT ha 2 hb, HM⟩)
     refine SY ?_ ?_
     ·intro b a w ha HM hb hon hoff K hK
      have e31 := PE ha 2 hon
      exact VL (.pointer (some ⟨gof39, (wrap64 (t298 - (t288.length : Int)) : Int).toNat * 3 + 1, none⟩)) (hK.out _ _ ⟨PUT ha 3 hb, HM⟩)
     refine SY ?_ ?_
     ·intro b a w ha HM hb hon hoff K hK
      have p302 : 0 ≤ ((wrap64 (t298 - (t288.length : Int))) : Int) := of_decide_eq_true AS
      have q302 : ((wrap64 (t298 - (t288.length : Int))) : Int) < (y301.length : Int) := (by have h_ : ((wrap64 (t298 - (t288.length : Int))) : Int) < ((t291.length : Int) : Int) := of_decide_eq_true AS; first | exact h_ | (simp only [Ny301.out, List.length_set] at h_ ⊢; exact h_))
      have ql302 : (((wrap64 (t298 - (t288.length : Int))) : Int) < ((t291.length : Int) : Int)) = True := eq_true (of_decide_eq_true AS)
      obtain ⟨ad302, e302, hx302_0, hx302_1, hx302_2⟩ := at_T67 (HM.CR 3 rfl).2.2 (wrap64 (t298 - (t288.length : Int))) p302 q302
      obtain rfl := Option.some.inj e302
      (first | simp only [add_plain] at hx302_0 | simp only [add_at] at hx302_0 | simp only [Addr.add, Nat.zero_add] at hx302_0 | skip)
      (first | simp only [add_plain] at hx302_1 | simp only [add_at] at hx302_1 | simp only [Addr.add, Nat.zero_add] at hx302_1 | skip)
      (first | simp only [add_plain] at hx302_2 | simp only [add_at] at hx302_2 | simp only [Addr.add, Nat.zero_add] at hx302_2 | skip)
      replace p302 := eq_true p302
      replace q302 := eq_true q302
      have e32 := PE ha 3 hon
      exact VL (.string ((rd_T67 y301 (wrap64 (t298 - (t288.length : Int)))).f1)) (hK.out _ _ ⟨PUT ha 4 hb, HM⟩)
     refine SY ?_ ?_
     ·intro b a w ha HM hb hon hoff K hK
      replace HM := HM.sF 1 rfl hb
      have e4 := PG ha 4
      have e29 := PE ha 0 hon
      refine ST (eS 1 4 0 [.int .i64 t286, .int .i64 t287, .slice Xo13 t288.length ko13, .slice (some ⟨gof39, 0, none⟩) t291.length ko14, .slice Xo15 t294.length ko15] HM rfl rfl ?_ (hp := (eval_of e4)) (hx := (by rw [eval_of e29]; rfl)))
      clear HM
      intro w46 HM
      exact hK.out _ _ ⟨PUS ha, (HM).pick [0, 1, 2, 3, 4, 5]⟩
     refine SY ?_ ?_
     ·intro b a w ha HM hb hon hoff K hK
      have e33 := PE ha 4 hon
      exact VL (.string ((rd_T67 y301 (wrap64 (t298 - (t288.length : Int)))).f1)) (hK.out _ _ ⟨PUT ha 5 hb, HM⟩)
     refine SY ?_ ?_
     ·intro b a w ha HM hb hon hoff K hK
      exact VL (.bool true) (hK.out _ _ ⟨PUT ha 6 hb, HM⟩)
     exact steps_nil
    rintro _ w47 ⟨rfl, HM⟩
    replace HM := HM.sT 1 rfl rfl
    simp only [putSel, if_true, Act.put, List.setIfInBounds_toArray, List.set_cons_zero, List.set_cons_succ, gt_iff_lt, ge_iff_le]
    simp only [Option.some.injEq, Prod.mk.injEq] at H
    obtain ⟨rfl, rfl, rfl, rfl, rfl, rfl, rfl⟩ := H
    go_wp2
    refine bodyPost_ret (results_ctt rfl _ _ gb284 71 #[.int .i64 t286, .int .i64 t287, .slice Xo13 t288.length ko13, .slice (some ⟨gof39, 0, none⟩) t291.length ko14, .slice Xo15 t294.length ko15] (0, 0) _ rfl (HM.bx 1 rfl) Try.underlying71 rfl (by kernel_rfl)) rfl ?_
    exact ⟨_, _, _, ER, (MD HM).pick [2, 3, 4]⟩
 ·subst c8
  simp only [Option.some.injEq, Prod.mk.injEq] at H
  obtain ⟨rfl, rfl, rfl, rfl, rfl, rfl, rfl⟩ := H
  go_wp2_with (first | ((with_reducible refine gN 2 rfl ?_); refine pB 2 71 [.int .i64 a0_0, .int .i64 a0_1, .slice A0_2 l0_2.length c0_2, .slice A0_3 l0_3.length c0_3, .slice A0_4 l0_4.length c0_4] HM rfl ?_; clear HM; intro gb283 w3 HM) | ((with_reducible refine gN 4 rfl ?_); refine pB 4 71 [.int .i64 0, .int .i64 0, .slice none 0 0, .slice none 0 0, .slice none 0 0] HM rfl ?_; clear HM; intro gb284 w4 HM; obtain ⟨z5_0, z5_1, z5_2, z5_3, z5_4, Z5_0, Z5_1, Z5_2, Z5_3, Z5_4⟩ := bk5 (HM.bx 0 rfl)) | ((with_reducible refine gC 59 rfl ?_); refine pC (some 10) rfl #[.agg #[.int .i64 a0_0, .int .i64 a0_1, .slice A0_2 l0_2.length c0_2, .slice A0_3 l0_3.length c0_3, .slice A0_4 l0_4.length c0_4]] rfl Try.func59 (impl_ThreeOk.calls k a0_0 a0_1 _ _ l0_2 _ _ l0_3 _ _ l0_4 false _ (HM.came HR0_2.out) HC0_2.out (HM.came HR0_3.out) HC0_3.out (HM.came HR0_4.out) HC0_4.out A6.out) ?_; rintro e w7 ⟨rfl, hR⟩; refine ⟨_, rfl, ?_⟩; replace HM := HM.call hR; clear hR) | ((with_reducible refine gS 4 rfl ?_); refine pS 1 4 0 [.int .i64 0, .int .i64 0, .slice none 0 0, .slice none 0 0, .slice none 0 0] HM rfl rfl ?_; clear HM; intro w48 HM; replace HM := HM.nl k67 67; replace HM := HM.nl k67 67; replace HM := HM.nl (Kd.int .i64) 3))
  refine bodyPost_ret (results_ctt rfl _ _ gb284 71 #[.int .i64 0, .int .i64 0, .slice none 0 0, .slice none 0 0, .slice none 0 0] (0, 0) _ rfl (HM.bx 1 rfl) Try.underlying71 rfl (by kernel_rfl)) rfl ?_
  exact ⟨_, _, _, ER, (MD HM).pick [2, 3, 4]⟩
end Go.Proofs.Ytlokjgngjgbpmaa.G

namespace Go.Proofs.Ytlokjgngjgbpmaa.G
open Go.RowKit Go.Proofs.YtlokjgngjgbpmaaW.PrintWords Go.Proofs.YtlokjgngjgbpmaaW.PrintLast Go.Proofs.YtlokjgngjgbpmaaW.PrintMore Go.Proofs.Ytlokjgngjgbpmaa.Sh
attribute [local go_sem] max2_int min2_int max_two min_two max_three min_three max_four min_four
set_option linter.unusedVariables false
set_option linter.unusedSimpArgs false
def impl_Hash.l0 : Nat → ByteArray → Int → Int → Option (Int)
 | 0, _, _, _ => none
 | k + 1, x0, x3, x4 => if x4 < (x0.size : Int) then (if 0 ≤ x4 then (impl_Hash.l0 k x0 (Int.tmod (wrap64 ((Go.bits .xor .i64 x3 (wrap64 (bt x0 x4))) * 16777619)) 4294967296) (wrap64 (x4 + 1))) else (none)) else (some x3)
def impl_Hash.f (k : Nat) (a0 : ByteArray) : Option (Int) := impl_Hash.l0 k a0 2166136261 0
set_option maxHeartbeats 8000000 in
set_option maxRecDepth 100000 in
theorem impl_Hash.calls (k : Nat) (a0 : ByteArray) (r : Int) (w : World) (h : impl_Hash.f k a0 = some r) :
  Calls Try.prog 82 #[.string a0] w fun e w' => e = .returned (.int .i64 r) ∧ Drawn0 w w' := by
 have H : (impl_Hash.l0 k a0 2166136261 0) = some r := h
 clear h
 have H' := Aside0.mk H
 clear H
 go_enter Try.func82, Try.ntmps82
 go_wp2
 go_loopg [3, 4] k (fun kq v3 v4 w' => ∃ (x3_1 : Int) (x4_1 : Int), v3 = .int .i64 x3_1 ∧ v4 = .int .i64 x4_1 ∧ Aside0 (impl_Hash.l0 kq a0 x3_1 x4_1 = some r) ∧ Aside0 (kq ≤ k) ∧ Drawn0 w w')
 case atStart => exact ⟨(2166136261), (0), RS, RS, H', ⟨Nat.le_refl _⟩, DR⟩
 case round =>
  clear H'
  obtain ⟨x3_1, x4_1, rfl, rfl, HA, HK1, ⟨m1, rfl⟩⟩ := hrel
  cases gk with
  | zero => exact absurd HA.out (by simp [impl_Hash.l0])
  | succ k1 =>
   have H := HA.out
   clear HA
   simp only [impl_Hash.l0] at H
   by_cases c2 : x4_1 < (a0.size : Int)
   ·rw [if_pos c2] at H
    have c2b0 : decide (x4_1 < (a0.size : Int)) = true := decide_eq_true c2
    clear c2
    by_cases c3 : 0 ≤ x4_1
    ·rw [if_pos c3] at H
     have c3b0 : decide (0 ≤ x4_1) = true := decide_eq_true c3
     clear c3
     have H' := Aside0.mk H
     clear H
     have p4 : 0 ≤ (x4_1 : Int) := of_decide_eq_true AS
     have q4 : x4_1 < (a0.size : Int) := of_decide_eq_true AS
     have hx4 := bt_at a0 x4_1
     replace p4 := eq_true p4
     replace q4 := eq_true q4
     go_wp2
     go_roundg k1
     case measure => have := HK1.out; omega
     case rel => exact ⟨(Int.tmod (wrap64 ((Go.bits .xor .i64 x3_1 (wrap64 (bt a0 x4_1))) * 16777619)) 4294967296), (wrap64 (x4_1 + 1)), RS, RS, H', ⟨by have := HK1.out; omega⟩, DR⟩
    ·rw [if_neg c3] at H
     exact absurd H (by simp)
   ·rw [if_neg c2] at H
    have c2b0 : decide (x4_1 < (a0.size : Int)) = false := decide_eq_false c2
    clear c2
    obtain rfl := Option.some.inj H
    go_wp2
    go_ret
    exact ⟨by first | rfl | (simp; done) | (simp [*]; done), DR⟩
end Go.Proofs.Ytlokjgngjgbpmaa.G

namespace Go.Proofs.Ytlokjgngjgbpmaa.G
open Go.RowKit Go.Proofs.YtlokjgngjgbpmaaW.PrintWords Go.Proofs.YtlokjgngjgbpmaaW.PrintLast Go.Proofs.YtlokjgngjgbpmaaW.PrintMore Go.Proofs.Ytlokjgngjgbpmaa.Sh
attribute [local go_sem] max2_int min2_int max_two min_two max_three min_three max_four min_four
set_option linter.unusedVariables false
set_option linter.unusedSimpArgs false
open Go.Proofs.Ytlokjgngjgbpmaa.Man
section
variable {P : Program}
/-- 'clear(s)' of what lies behind a queue of the call's own, in its spare room: the queue stays. -/
theorem Q_clear_run {α : Type} (d : Kd α) {W : World} (base : Nat) (t ty e : TypeId) (z : Value) (ht : P.underlying t = some (.slice e)) (hz : ∀ w, (zeroValue e).run P w = .ok z w) (hzs : z.cells.size = d.sz) (hz1 : ∀ u ∈ z.cells.toList, u.oneCell' = true)
  {g o n c m : Nat} {xs : List α} {ok : Nat → Prop} (HO : d.Q e W base ok (.slice (some ⟨g, o, none⟩) n c) xs) (hm : n + m ≤ c) (hm0 : 0 < m) (hn0 : 0 < c) (c2 : Nat) (hpos : 0 < d.sz) :
  ∃ w1, (Builtin.clear_ #[t] ty #[.slice (some ⟨g, o + n * d.sz, none⟩) m c2]).run P W = .ok (.tuple #[]) w1 ∧ d.Q e w1 base ok (.slice (some ⟨g, o, none⟩) n c) xs ∧ W.grownBy w1 (some g) := by
 obtain ⟨hn, hnc, _⟩ := Kd.Q_reads' HO
 obtain ⟨hok, inner, hown, hr⟩ := HO
 have hin : inner.length = n * d.sz := by rw [hr.1, hn]
 rcases hown.2 with ⟨h0, A, hv, _⟩ | ⟨g', off, cap', cur, hv, hb, hh, hcn, hcm, hcs, htake⟩
 ·injection hv with _ h1 h2
  omega
 injection hv with ha _ hc
 injection ha with ha
 injection ha with hg ho
 subst hg; subst hc; subst ho
 rw [← hn] at htake
 obtain ⟨news, hnews⟩ : ∃ news, news = (Builtin.zeroCells z.cells m).toList := ⟨_, rfl⟩
 have hnl : news.length = m * d.sz := by rw [hnews, cycle_len _ _ hm0, hzs]
 have hone : ∀ u ∈ news, u.oneCell' = true := by
  intro u hu
  rw [hnews] at hu
  have hp : 0 < z.cells.size := by omega
  simp only [Builtin.zeroCells, Array.toList_map, List.mem_map] at hu
  obtain ⟨i, _, rfl⟩ := hu
  have hi := Nat.mod_lt i hp
  rw [getElem!_pos z.cells _ hi]
  exact hz1 _ (by simp)
 have hnm : (n + m) * d.sz ≤ c * d.sz := Nat.mul_le_mul_right _ hm
 have hnm2 : (n + m) * d.sz = n * d.sz + m * d.sz := Nat.add_mul _ _ _
 have hoc : (off + c) * d.sz = off * d.sz + c * d.sz := Nat.add_mul _ _ _
 have hfit : off * d.sz + n * d.sz + news.length ≤ cur.size := by omega
 have hst := run_storeCells_cells (P := P) g (off * d.sz + n * d.sz) news 0 W (fun j hj => by rw [cell_of_row W g _ cur e (0, 0) hh]; simp; omega) (fun j _ => blk_frozen hh _) hone
 simp only [Nat.add_zero] at hst
 obtain ⟨cur', h3, h4, h5⟩ := setCells_row news (off * d.sz + n * d.sz) W cur hh hfit
 obtain ⟨s1, s2, s3, s4⟩ := setCells_same g news (off * d.sz + n * d.sz) W
 have hfar : ∀ k', k' ≠ g → (W.setCells g (off * d.sz + n * d.sz) news).heap[k']? = W.heap[k']? := fun k' hk' => setCells_far news _ k' hk'
 refine ⟨_, ?_, ⟨hok, inner, ⟨by rw [hin, hn], .inr ⟨g, off, c, cur', by rw [hn], hb, h3, by omega, hcm, by rw [h4, hcs], ?_⟩⟩, ?_⟩, ⟨s1, s2, s3, by rw [s4]; exact Nat.le_refl _, fun k' _ hk' => hfar k' (fun he => hk' (by rw [he]))⟩⟩
 ·obtain ⟨k, rfl⟩ : ∃ k, m = k + 1 := ⟨m - 1, by omega⟩
  have hzc : (Builtin.zeroCells z.cells (k + 1)).toList = news := hnews.symm
  simp [Builtin.clear_, run_underlying ht, hz, hzc, hst]
 ·rw [← hn, h5, List.append_assoc]
  have hl : (cur.toList.take (off * d.sz + n * d.sz)).drop (off * d.sz) = (cur.toList.drop (off * d.sz)).take (n * d.sz) := by
   rw [List.drop_take]
   congr 1
   omega
  have hlen : (cur.toList.take (off * d.sz + n * d.sz)).length = off * d.sz + n * d.sz := by
   rw [List.length_take, Array.length_toList]; omega
  rw [List.drop_append_of_le_length (by rw [hlen]; omega), hl, htake]
  exact List.take_left' hin
 ·exact hr.imp_ (fun p q hp => d.M_move (fun k' hk' => hfar k' (fun he => hk'.2 (by simp [Value.ownBlock, he]))) hp)
end
def delInt.idx (h : Int) : List Int → Nat → Int
 | [], _ => -1
 | x :: r, i => if x = h then (i : Int) else delInt.idx h r (i + 1)
theorem delInt.idx_at (h : Int) (l : List Int) (i : Nat) (hi : i < l.length) : delInt.idx h (l.drop i) i = if rd l (i : Int) = h then (i : Int) else delInt.idx h (l.drop (i + 1)) (i + 1) := by
 rw [List.drop_eq_getElem_cons hi, delInt.idx]
 have e : rd l (i : Int) = l[i] := by
  show l.getD (i : Int).toNat _ = _
  simp [List.getD_eq_getElem?_getD, hi]
 rw [e]
theorem delInt.idx_end (h : Int) (l : List Int) (i : Nat) (hi : ¬ i < l.length) : delInt.idx h (l.drop i) i = -1 := by
 rw [List.drop_of_length_le (by omega)]; rfl
/-- What is asked of a closure over one number: it tells whether it is handed just that one. -/
def delInt.Clo (M : Nat) (fnM : Func) (B : Nat) (h : Int) : Prop := Try.prog.funcs[M]? = some fnM ∧ (fnM.name == "runtime.NumGoroutine") = false ∧ fnM.body.isSome = true ∧ ∀ (y : Int) (W : World), W.heap[B]? = some (.cells #[.int .i64 h] 3 (0, 0)) →
 Calls Try.prog M #[.int .i64 y, .pointer (some ⟨B, 0, none⟩)] W fun e w' => e = .returned (.bool (y == h)) ∧ Below W.heap.size W w'
set_option maxHeartbeats 8000000 in
set_option maxRecDepth 100000 in
theorem delInt.index (M : Nat) (fnM : Func) (B : Nat) (h : Int) (hM : delInt.Clo M fnM B h) (A0 : Option Addr) (c0 : Nat) (l0 : List Int) (w : World) (hblk : w.heap[B]? = some (.cells #[.int .i64 h] 3 (0, 0))) (hr0 : Kd.C (Kd.int .i64) w A0 l0.length l0) (hc0 : l0.length ≤ c0) :
  Calls Try.prog 100 #[.slice A0 l0.length c0, .func (.func M) #[] #[.pointer (some ⟨B, 0, none⟩)]] w fun e w' => e = .returned (.int .i64 (delInt.idx h l0 0)) ∧ Below w.heap.size w w' := by
 obtain ⟨hfM, hnM, hbM, hcM⟩ := hM
 have HR0 := Aside0.mk hr0
 have HC0 := Aside0.mk hc0
 have HL := Aside0.mk (show l0.length ≤ 9223372036854775807 from hr0.2.1)
 have HX := Aside0.mk hblk
 have HF := Aside0.mk hfM
 have HN1 := Aside0.mk hnM
 have HB1 := Aside0.mk hbM
 have HCM := Aside0.mk hcM
 clear hr0 hc0 hblk hfM hnM hbM hcM
 have HB := Aside0.mk (Below.refl w.heap.size w)
 obtain ⟨R, hR⟩ : ∃ R, R = delInt.idx h l0 0 := ⟨_, rfl⟩
 rw [← hR]
 have HN := Aside0.mk (show delInt.idx h (l0.drop 0) 0 = R from hR.symm)
 clear hR
 go_enter Try.func100, Try.ntmps100
 go_wp2
 go_loopg [5, 8] l0.length (fun kq _ v8 w' => ∃ x : Int, v8 = .int .i64 x ∧ Aside0 (∃ n : Nat, x = (n : Int) ∧ delInt.idx h (l0.drop n) n = R ∧ n + kq = l0.length) ∧ Aside0 (Below w.heap.size w w'))
 case atStart => exact ⟨0, rfl, ⟨0, rfl, HN.out, Nat.zero_add _⟩, HB⟩
 case round =>
  clear HN
  obtain ⟨x, rfl, HN, HB⟩ := hrel
  by_cases hlt : x < (l0.length : Int)
  ·have hd : decide (x < (l0.length : Int)) = true := decide_eq_true hlt
   have hn0 : 0 ≤ x := by obtain ⟨n, rfl, _⟩ := HN.out; exact Int.natCast_nonneg n
   obtain ⟨ad, hA, hx0⟩ := Kd.at_int HR0.out x hn0 hlt
   subst hA
   replace hx0 := (HB.out.cell (World.block_lt_of_cell? w _ hx0)).trans hx0
   have H0 := Aside0.mk hn0
   have H1 := Aside0.mk hlt
   replace hn0 := eq_true hn0
   replace hlt := eq_true hlt
   obtain ⟨y, hy⟩ : ∃ y, rd l0 x = y := ⟨_, rfl⟩
   rw [hy] at hx0
   have HY := Aside0.mk hy
   clear hy
   by_cases c : y = h
   ·have C := Aside0.mk c
    have hbq : (y == h) = true := beq_iff_eq.mpr c
    clear c
    go_wp2_with fail
    rw [enters_ HF.out HN1.out HB1.out, Oper.upon_enter]
    refine (HCM.out y _ (blk_below HX.out HB.out)).mono ?_
    rintro e w' ⟨rfl, hb'⟩
    have HB' := Aside0.mk hb'
    clear hb'
    rw [hbq]
    go_wp2
    go_ret
    refine ⟨?_, below_step HB.out HB'.out⟩
    obtain ⟨n, rfl, hn, hk⟩ := HN.out
    have e := delInt.idx_at h l0 n (Int.ofNat_lt.mp H1.out)
    rw [HY.out, if_pos C.out, hn] at e
    rw [e]
    rfl
   ·have C := Aside0.mk c
    have hbq : (y == h) = false := beq_eq_false_iff_ne.mpr c
    clear c
    go_wp2_with fail
    rw [enters_ HF.out HN1.out HB1.out, Oper.upon_enter]
    refine (HCM.out y _ (blk_below HX.out HB.out)).mono ?_
    rintro e w' ⟨rfl, hb'⟩
    have HB' := Aside0.mk hb'
    clear hb'
    rw [hbq]
    go_wp2
    obtain ⟨n, rfl, hn, hk⟩ := HN.out
    have hlt' := Int.ofNat_lt.mp H1.out
    go_roundg (gk - 1)
    case measure => omega
    case rel =>
     have e := delInt.idx_at h l0 n hlt'
     rw [HY.out, if_neg C.out, hn] at e
     exact ⟨_, rfl, ⟨n + 1, wsucc_ (by have := HL.out; omega), e.symm, by omega⟩, ⟨below_step HB.out HB'.out⟩⟩
  ·have hd : decide (x < (l0.length : Int)) = false := decide_eq_false hlt
   have HLT := Aside0.mk hlt
   clear hlt
   go_wp2
   go_ret
   obtain ⟨n, rfl, hn, hk⟩ := HN.out
   have hlt' := HLT.out
   rw [delInt.idx_end h l0 n (by omega)] at hn
   exact ⟨by rw [← hn]; rfl, HB.out⟩
def slices_DeleteFunc_int_int.f (l0 : List Int) (a1 : Int) : Option (List Int) := some (l0.filter (fun y => !(y == a1)))
theorem delInt.idx_neg (h : Int) : ∀ (l : List Int) (i : Nat), delInt.idx h l i = -1 → l.filter (fun y => !(y == h)) = l
 | [], _, _ => rfl
 | x :: r, i, e => by
  rw [delInt.idx] at e
  by_cases c : x = h
  ·rw [if_pos c] at e; omega
  ·rw [if_neg c] at e
   rw [List.filter_cons, if_pos (by simp [c]), delInt.idx_neg h r (i + 1) e]
theorem delInt.idx_pos (h : Int) : ∀ (l : List Int) (i : Nat), delInt.idx h l i ≠ -1 → ∃ p, p < l.length ∧ delInt.idx h l i = ((i + p : Nat) : Int) ∧ (l.take p).filter (fun y => !(y == h)) = l.take p ∧ rd l (p : Int) = h
 | [], _, e => by simp [delInt.idx] at e
 | x :: r, i, e => by
  rw [delInt.idx] at e ⊢
  by_cases c : x = h
  ·exact ⟨0, by simp, by rw [if_pos c]; simp, rfl, c⟩
  ·rw [if_neg c] at e ⊢
   obtain ⟨p, h1, h2, h3, h4⟩ := delInt.idx_pos h r (i + 1) e
   refine ⟨p + 1, by simpa using h1, by rw [h2]; omega, ?_, ?_⟩
   ·rw [List.take_succ_cons, List.filter_cons, if_pos (by simp [c]), h3]
   ·have : rd (x :: r) ((p + 1 : Nat) : Int) = rd r (p : Int) := by
     show (x :: r).getD ((p + 1 : Nat) : Int).toNat _ = r.getD (p : Int).toNat _
     simp
    rw [this, h4]
/-- What the loop keeps: ahead of i what stays of the first j, from j on the rest. -/
structure delInt.Inv (h : Int) (l cur : List Int) (i j : Nat) : Prop where
 len : cur.length = l.length
 lt : i < j
 le : j ≤ l.length
 front : cur.take i = (l.take j).filter (fun y => !(y == h))
 back : cur.drop j = l.drop j
theorem delInt.Inv.read {h : Int} {l cur : List Int} {i j : Nat} (v : delInt.Inv h l cur i j) (hj : j < l.length) : rd cur (j : Int) = rd l (j : Int) := by
 have e := congrArg (fun z => z.head?) v.back
 simp only [List.head?_drop] at e
 show cur.getD (j : Int).toNat _ = l.getD (j : Int).toNat _
 simp [List.getD_eq_getElem?_getD, e]
theorem delInt.take_succ {l : List Int} {j : Nat} (hj : j < l.length) : l.take (j + 1) = l.take j ++ [rd l (j : Int)] := by
 have e : rd l (j : Int) = l[j] := by
  show l.getD (j : Int).toNat _ = _
  simp [List.getD_eq_getElem?_getD, hj]
 rw [e, List.take_succ_eq_append_getElem hj]
theorem delInt.Inv.skip {h : Int} {l cur : List Int} {i j : Nat} (v : delInt.Inv h l cur i j) (hj : j < l.length) (e : rd l (j : Int) = h) : delInt.Inv h l cur i (j + 1) := by
 refine ⟨v.len, by have := v.lt; omega, hj, ?_, ?_⟩
 ·rw [v.front, delInt.take_succ hj, List.filter_append]
  simp [e]
 ·rw [← List.drop_drop, ← List.drop_drop, v.back]
theorem delInt.Inv.put {h : Int} {l cur : List Int} {i j : Nat} (v : delInt.Inv h l cur i j) (hj : j < l.length) (e : rd l (j : Int) ≠ h) : delInt.Inv h l (cur.set i (rd l (j : Int))) (i + 1) (j + 1) := by
 have hi := v.lt
 have hl := v.len
 refine ⟨by rw [List.length_set]; exact hl, by omega, hj, ?_, ?_⟩
 ·rw [List.take_succ_eq_append_getElem (by rw [List.length_set]; omega), List.take_set_of_le (Nat.le_refl _), v.front, delInt.take_succ hj, List.filter_append]
  simp [e]
 ·rw [List.drop_set_of_lt (by omega), ← List.drop_drop, ← List.drop_drop, v.back]
set_option maxHeartbeats 8000000 in
set_option maxRecDepth 100000 in
theorem slices_DeleteFunc_int_int.calls (P0_ : Nat → Prop) (u9000_ : Value) (l0 : List Int) (M : Nat) (fnM : Func) (B : Nat) (a1 : Int) (r : List Int) (w0 w : World) (hB : Below w0.heap.size w0 w) (ho0 : Kd.Q (Kd.int .i64) 3 w w0.heap.size P0_ u9000_ l0) (hM : delInt.Clo M fnM B a1) (hblk : w.heap[B]? = some (.cells #[.int .i64 a1] 3 (0, 0))) (hPB : ∀ k_, P0_ k_ → k_ ≠ B) (h : slices_DeleteFunc_int_int.f l0 a1 = some r) :
  Calls Try.prog 83 #[u9000_, .func (.func M) #[] #[.pointer (some ⟨B, 0, none⟩)]] w fun e w' => ∃ v0_ : Value, e = .returned v0_ ∧ Kd.Q (Kd.int .i64) 3 w' w0.heap.size (fun k_ => P0_ k_ ∨ w.heap.size ≤ k_) v0_ r ∧ Below w0.heap.size w0 w' ∧ Kept w w' (fun k_ => P0_ k_) := by
 obtain rfl := Option.some.inj h
 clear h
 obtain ⟨A0, c0, rfl, hlc⟩ := Kd.Q_slice ho0
 obtain ⟨_, _, hC⟩ := Kd.Q_reads' ho0
 have hidx := delInt.index M fnM B a1 hM A0 c0 l0 w hblk hC hlc
 have hL : l0.length ≤ 9223372036854775807 := hC.2.1
 obtain ⟨hfM, hnM, hbM, hcM⟩ := hM
 have HF := Aside0.mk hfM
 have HN1 := Aside0.mk hnM
 have HB1 := Aside0.mk hbM
 have HCM := Aside0.mk hcM
 have HX := Aside0.mk hblk
 have HQ := Aside0.mk ho0
 have HBW := Aside0.mk hB
 have HPB := Aside0.mk hPB
 have HL := Aside0.mk hL
 have HLC := Aside0.mk hlc
 clear hfM hnM hbM hcM hblk ho0 hB hPB hL hC
 by_cases ci : delInt.idx a1 l0 0 = -1
 ·have e1 := delInt.idx_neg a1 l0 0 ci
  rw [e1]
  rw [ci] at hidx
  clear e1 ci
  go_enter Try.func83, Try.ntmps83
  go_wp2_with fail
  refine hidx.mono ?_
  rintro e w' ⟨rfl, hb⟩
  have HB := Aside0.mk hb
  clear hb hidx
  go_wp2
  go_ret
  exact ⟨_, rfl, Kd.Q_mono (Kd.Q_below HQ.out HB.out) (fun _ h => Or.inl h), below_step HBW.out HB.out, Kept.below (Kept.refl _ _) HB.out⟩
 ·obtain ⟨p, hp, e1, e2, e3⟩ := delInt.idx_pos a1 l0 0 ci
  rw [Nat.zero_add] at e1
  rw [e1] at hidx
  obtain ⟨g, o, cap, hv, hbg, hgl, cl, hgc⟩ := Kd.Q_form HQ.out (by omega)
  injection hv with ha _ hcap
  subst ha
  subst hcap
  have hP0 : P0_ g := HQ.out.1 g rfl
  have HG := Aside0.mk hbg
  have HGL := Aside0.mk hgl
  have HP0 := Aside0.mk hP0
  have I0 : delInt.Inv a1 l0 l0 p (p + 1) := by
   refine ⟨rfl, by omega, hp, ?_, rfl⟩
   rw [delInt.take_succ hp, List.filter_append, e2]
   simp [e3]
  have HI0 := Aside0.mk I0
  have HP := Aside0.mk hp
  have ew : IntKind.i64.wrap ((p : Int) + 1) = ((p + 1 : Nat) : Int) := by exact (i64_w _).trans (by have := HL.out; unfold wrap64; omega)
  have hne : ((p : Int) == -1) = false := by rw [beq_eq_false_iff_ne]; omega
  clear ci e1 e2 e3 hbg hgl hgc hP0 I0 hp
  go_enter Try.func83, Try.ntmps83
  go_wp2_with fail
  refine hidx.mono ?_
  rintro e w1 ⟨rfl, hb⟩
  have HB := Aside0.mk hb
  clear hb hidx
  go_wp2
  go_loopg [5, 6, 7] (l0.length - (p + 1)) (fun kq v5 v6 v7 w' => ∃ x5 x6 : Int, v5 = .int .i64 x5 ∧ v6 = .int .i64 x6 ∧ Aside0 (∃ (i j : Nat) (cur : List Int), x5 = (i : Int) ∧ x6 = (j : Int) ∧ j + kq = l0.length + 0 ∧ delInt.Inv a1 l0 cur i j ∧ Kd.Q (Kd.int .i64) 3 w' w0.heap.size (fun k_ => P0_ k_ ∨ w.heap.size ≤ k_) (.slice (some ⟨g, o, none⟩) l0.length c0) cur) ∧ Aside0 (Below w0.heap.size w0 w') ∧ Aside0 (Kept w w' (fun k_ => P0_ k_)))
  case atStart =>
   exact ⟨(p : Int), ((p + 1 : Nat) : Int), rfl, rfl, ⟨p, p + 1, l0, rfl, rfl, by have := HP.out; omega, HI0.out, Kd.Q_mono (Kd.Q_below HQ.out HB.out) (fun _ h => Or.inl h)⟩, ⟨below_step HBW.out HB.out⟩, ⟨Kept.below (Kept.refl _ _) HB.out⟩⟩
  case round =>
   clear HI0 HQ HB HBW HP ew hne
   obtain ⟨x5, x6, rfl, rfl, HI, HB, HK⟩ := hrel
   obtain ⟨i, j, cur, rfl, rfl, hq, hi, hQ⟩ := HI.out
   clear HI
   have HI := Aside0.mk hi
   have HQ := Aside0.mk hQ
   have HJ := Aside0.mk hq
   clear hi hQ hq
   by_cases hlt : (j : Int) < (l0.length : Int)
   ·have hd : decide ((j : Int) < (l0.length : Int)) = true := decide_eq_true hlt
    have hn0 : (0 : Int) ≤ (j : Int) := Int.natCast_nonneg j
    obtain ⟨hx0, hf0⟩ := Kd.Q_cell (0 : Int) HQ.out (j : Int) hn0 hlt
    obtain ⟨y, hy⟩ : ∃ y, rd l0 (j : Int) = y := ⟨_, rfl⟩
    have hyc : rdOf (0 : Int) cur (j : Int) = y := (HI.out.read (Int.ofNat_lt.mp hlt)).trans hy
    rw [hyc] at hx0
    simp only [Int.toNat_natCast] at hx0 hf0
    have HY := Aside0.mk hy
    have HLT := Aside0.mk (Int.ofNat_lt.mp hlt)
    replace hn0 := eq_true hn0
    replace hlt := eq_true hlt
    clear hy hyc hf0
    by_cases c : y = a1
    ·have C := Aside0.mk c
     have hbq : (y == a1) = true := beq_iff_eq.mpr c
     clear c
     go_wp2_with fail
     rw [enters_ HF.out HN1.out HB1.out, Oper.upon_enter]
     refine (HCM.out y _ (blk_kept HX.out HK.out (fun h => HPB.out B h rfl))).mono ?_
     rintro e w' ⟨rfl, hb'⟩
     have HB' := Aside0.mk hb'
     clear hb'
     rw [hbq]
     go_wp2
     go_roundg (gk - 1)
     case measure => have := HJ.out; have := HLT.out; omega
     case rel =>
      exact ⟨(i : Int), _, rfl, rfl, ⟨i, j + 1, cur, rfl, wsucc_ (by have := HL.out; have := HLT.out; omega), by have := HJ.out; have := HLT.out; omega, HI.out.skip HLT.out (HY.out.trans C.out), Kd.Q_below HQ.out HB'.out⟩, ⟨below_step HB.out HB'.out⟩, ⟨Kept.below HK.out HB'.out⟩⟩
    ·have C := Aside0.mk c
     have hbq : (y == a1) = false := beq_eq_false_iff_ne.mpr c
     clear c
     go_wp2_with fail
     rw [enters_ HF.out HN1.out HB1.out, Oper.upon_enter]
     refine (HCM.out y _ (blk_kept HX.out HK.out (fun h => HPB.out B h rfl))).mono ?_
     rintro e w' ⟨rfl, hb'⟩
     have HB' := Aside0.mk hb'
     have HQ' := Aside0.mk (Kd.Q_below HQ.out hb')
     have hi0 : (0 : Int) ≤ (i : Int) := Int.natCast_nonneg i
     have hil : (i : Int) < (l0.length : Int) := by have := HI.out.lt; have := HLT.out; omega
     obtain ⟨hxi, hfi⟩ := Kd.Q_cell (0 : Int) HQ'.out (i : Int) hi0 hil
     simp only [Int.toNat_natCast] at hxi hfi
     have HS := Aside0.mk (by have h := Kd.Q_putg HQ'.out (i : Int) hi0 hil y; simp only [Int.toNat_natCast] at h; exact h)
     have HBS := Aside0.mk (below_set (j := o + i) (v := .int .i64 y) (below_step HB.out hb') HG.out)
     have HKS := Aside0.mk (Kept.setCell (p := ⟨g, o + i, none⟩) (Kept.below HK.out hb') (.inl HP0.out) (.int .i64 y))
     replace hi0 := eq_true hi0
     replace hil := eq_true hil
     clear hb'
     rw [hbq]
     go_wp2
     go_roundg (gk - 1)
     case measure => have := HJ.out; have := HLT.out; omega
     case rel =>
      have e := HI.out.put HLT.out (fun e => C.out (HY.out.symm.trans e))
      rw [HY.out] at e
      exact ⟨_, _, rfl, rfl, ⟨i + 1, j + 1, cur.set i y, wsucc_ (by have := HL.out; have := HLT.out; have := HI.out.lt; omega), wsucc_ (by have := HL.out; have := HLT.out; omega), by have := HJ.out; have := HLT.out; omega, e, HS.out.1⟩, ⟨HBS.out⟩, ⟨HKS.out⟩⟩
   ·have hd : decide ((j : Int) < (l0.length : Int)) = false := decide_eq_false hlt
    have hj : j = l0.length := by have := HI.out.le; omega
    subst hj
    have hil : i < l0.length := HI.out.lt
    have hcl : cur.length = l0.length := HI.out.len
    have hft : cur.take i = l0.filter (fun y => !(y == a1)) := by
     have := HI.out.front
     rwa [List.take_length] at this
    have hQt := Kd.Q_take HQ.out (m := i) (by omega)
    rw [hft] at hQt
    have HQT := Aside0.mk hQt
    have hc0 : i ≤ c0 := by have := HLC.out; omega
    have hli : (List.filter (fun y => !(y == a1)) l0).length = i := by rw [← hft, List.length_take]; omega
    obtain ⟨w2, hrun, hr2, hg2⟩ := Q_clear_run (P := Try.prog) (Kd.int .i64) w0.heap.size 69 0 3 (.int .i64 0) Try.underlying69 Try.zeroValue3 rfl (by decide) hQt (m := l0.length - i) (by omega) (by omega) (by omega) (c0 - i) (by decide)
    have HR2 := Aside0.mk hr2
    have HG2 := Aside0.mk hg2
    have b1 : (i : Int) ≤ (l0.length : Int) := by omega
    have b2 : (l0.length : Int) ≤ (c0 : Int) := by have := HLC.out; omega
    have b3 : (i : Int) ≤ (c0 : Int) := by omega
    have b4 : (0 : Int) ≤ (i : Int) := by omega
    have b5 : (c0 = i) = False := eq_false (by omega)
    have HLI := Aside0.mk hli
    change Sem.run _ (Builtin.clear_ #[69] 0 #[.slice (some ⟨g, o + i * 1, none⟩) (l0.length - i) (c0 - i)]) _ = _ at hrun
    rw [Nat.mul_one] at hrun
    clear hr2 hg2 hQt hft hcl hil hli hlt
    go_wp2
    go_ret
    exact ⟨_, rfl, HR2.out, HB.out.grown HG2.out HB.out.size (fun k hk => by injection hk with hk; subst hk; exact HG.out), Kept.of_grown HG2.out HK.out (fun k hk => by injection hk with hk; subst hk; exact .inl HP0.out)⟩
end Go.Proofs.Ytlokjgngjgbpmaa.G

namespace Go.Proofs.Ytlokjgngjgbpmaa.G
open Go.RowKit Go.Proofs.YtlokjgngjgbpmaaW.PrintWords Go.Proofs.YtlokjgngjgbpmaaW.PrintLast Go.Proofs.YtlokjgngjgbpmaaW.PrintMore Go.Proofs.Ytlokjgngjgbpmaa.Sh
attribute [local go_sem] max2_int min2_int max_two min_two max_three min_three max_four min_four
set_option linter.unusedVariables false
set_option linter.unusedSimpArgs false
open Go.Proofs.Ytlokjgngjgbpmaa.Mm
theorem impl_Three_evictSmall.clo114 (B : Nat) (h : Int) : delInt.Clo 114 Try.f114 B h := by
 refine ⟨Try.func114, by kernel_rfl, by rfl, fun y W hb => ?_⟩
 have HB := Aside0.mk (Below.refl W.heap.size W)
 have hc : W.cell? ⟨B, 0, none⟩ = some (.int .i64 h) := (blk_cell hb 0).trans rfl
 clear hb
 go_enter Try.func114, Try.ntmps114
 go_wp2
 go_ret
 exact ⟨rfl, HB.out⟩
def impl_Three_evictSmall.l0 : Nat → Int → Int → List (S67) → List (S67) → List Int → Option (Int × Int × (List (S67)) × (List (S67)) × List Int × ByteArray × Bool)
 | 0, _, _, _, _, _ => none
 | k + 1, x307000, x307001, x307002, x307003, x307004 => if (x307002.length : Int) > 0 then (if 0 < (x307002.length : Int) then (if 1 ≤ (x307002.length : Int) then ((some (x307002.drop (1 : Int).toNat : List (S67))).bind fun y309 => (if ((rd_T67 x307002 0).f2) > 1 then (if x307003.length < 3518437208883 then (impl_Three_evictSmall.l0 k x307000 x307001 y309 (x307003 ++ [(⟨(rd_T67 x307002 0).f0, (rd_T67 x307002 0).f1, 0⟩ : S67)]) x307004) else (none)) else ((impl_Hash.f k ((rd_T67 x307002 0).f0)).bind fun t315 => ((slices_DeleteFunc_int_int.f x307004 t315).bind fun t317 => (if t317.length < 17592186044416 then ((some (t317 ++ [t315] : List Int)).bind fun y320 => ((impl_Three_ghosts.f x307000 x307001).bind fun t323 => (if (y320.length : Int) > t323 then (if 1 ≤ (y320.length : Int) then (some (x307000, x307001, y309, x307003, (y320.drop (1 : Int).toNat), (rd_T67 x307002 0).f0, true)) else (none)) else (some (x307000, x307001, y309, x307003, y320, (rd_T67 x307002 0).f0, true))))) else (none)))))) else (none)) else (none)) else (some (x307000, x307001, x307002, x307003, x307004, (⟨#[]⟩ : ByteArray), false))
def impl_Three_evictSmall.f (k : Nat) (a0_0 : Int) (a0_1 : Int) (l0_2 : List (S67)) (l0_3 : List (S67)) (l0_4 : List Int) : Option (Int × Int × (List (S67)) × (List (S67)) × List Int × ByteArray × Bool) := impl_Three_evictSmall.l0 k a0_0 a0_1 l0_2 l0_3 l0_4
def impl_Three_evictSmall.T6 : Bool × List (List Nat × List Nat) := (true, [([], []), ([], []), ([1], [1]), ([2], [2]), ([3], [3]), ([], []), ([5], [5]), ([4, 6], [4, 6]), ([0, 0, 1, 2, 3, 4, 5, 6, 7], [0]), ([8, 0, 1, 2, 3, 4, 5, 6, 7], [8]), ([9, 7, 7, 0, 1, 2, 3, 4, 5, 6, 7], [7, 9])])
def impl_Three_evictSmall.B6 : List Nat := [0, 0, 2, 6, 14, 0, 32, 126, 255, 511, 1023]
theorem impl_Three_evictSmall.tab6 : rtab .any (opsOf Try.f98 6) = impl_Three_evictSmall.T6 := by kernel_rfl
theorem impl_Three_evictSmall.bits6 : waitsOk impl_Three_evictSmall.T6.2 impl_Three_evictSmall.B6 = true := by kernel_rfl
def impl_Three_evictSmall.T8 : Bool × List (List Nat × List Nat) := (true, [([], []), ([], []), ([1], [1]), ([2], [2]), ([3], [3]), ([], []), ([4, 5], [4, 5]), ([], []), ([7], [7]), ([6, 8, 6], [6, 8]), ([0, 0, 1, 2, 3, 4, 5, 6, 7, 8, 9], [0]), ([10, 0, 1, 2, 3, 4, 5, 6, 7, 8, 9], [10]), ([11, 9, 9, 0, 1, 2, 3, 4, 5, 6, 7, 8, 9], [9, 11])])
def impl_Three_evictSmall.B8 : List Nat := [0, 0, 2, 6, 14, 0, 62, 0, 128, 510, 1023, 2047, 4095]
theorem impl_Three_evictSmall.tab8 : rtab .any (opsOf Try.f98 8) = impl_Three_evictSmall.T8 := by kernel_rfl
theorem impl_Three_evictSmall.bits8 : waitsOk impl_Three_evictSmall.T8.2 impl_Three_evictSmall.B8 = true := by kernel_rfl
def impl_Three_evictSmall.T9 : Bool × List (List Nat × List Nat) := (true, [([], []), ([0], [0]), ([1], [1]), ([2], [2]), ([3], [3]), ([], []), ([5], [5]), ([4, 6], [4, 6])])
def impl_Three_evictSmall.B9 : List Nat := [0, 1, 3, 7, 15, 0, 32, 127]
theorem impl_Three_evictSmall.tab9 : rtab .any (opsOf Try.f98 9) = impl_Three_evictSmall.T9 := by kernel_rfl
theorem impl_Three_evictSmall.bits9 : waitsOk impl_Three_evictSmall.T9.2 impl_Three_evictSmall.B9 = true := by kernel_rfl
set_option maxHeartbeats 8000000 in
set_option maxRecDepth 100000 in
theorem impl_Three_evictSmall.calls (k : Nat) (g : Nat) (a0_0 : Int) (a0_1 : Int) (u9000_ : Value) (l0_2 : List (S67)) (u9001_ : Value) (l0_3 : List (S67)) (u9002_ : Value) (l0_4 : List Int) (r1 : Int) (r2 : Int) (r3 : List (S67)) (r4 : List (S67)) (r5 : List Int) (r6 : ByteArray) (r7 : Bool) (w0 w : World) (F : List SP)  (hM : Mem w0 F w [row k67 67 u9000_ l0_2, row k67 67 u9001_ l0_3, row (Kd.int .i64) 3 u9002_ l0_4, box 71 g [.int .i64 a0_0, .int .i64 a0_1, u9000_, u9001_, u9002_]]) (h : impl_Three_evictSmall.f k a0_0 a0_1 l0_2 l0_3 l0_4 = some (r1, r2, r3, r4, r5, r6, r7)) :
  Calls Try.prog 98 #[.pointer (some ⟨g, 0, none⟩)] w fun e w' => ∃ v2_ v3_ v4_ : Value, e = .returned (.tuple #[.string r6, .bool r7]) ∧ Mem w0 F w' [row k67 67 v2_ r3, row k67 67 v3_ r4, row (Kd.int .i64) 3 v4_ r5, box 71 g [.int .i64 r1, .int .i64 r2, v2_, v3_, v4_]] := by
 have hu67 := Try.underlying67
 have HM := hM
 clear hM
 have H := h
 clear h
 unfold impl_Three_evictSmall.f at H
 go_enter Try.func98, Try.ntmps98
 have H' := Aside0.mk H
 clear H
 go_wp2
 go_loopg [] k (fun kq w' => ∃ (x307000_1 : Int) (x307001_1 : Int) (x307002_1 : List (S67)) (x307003_1 : List (S67)) (x307004_1 : List Int) (u307002 : Value) (u307003 : Value) (u307004 : Value), Aside0 (impl_Three_evictSmall.l0 kq x307000_1 x307001_1 x307002_1 x307003_1 x307004_1 = some (r1, r2, r3, r4, r5, r6, r7)) ∧ Aside0 (kq ≤ k) ∧ Mem w0 F w' [row k67 67 u307002 x307002_1, row k67 67 u307003 x307003_1, row (Kd.int .i64) 3 u307004 x307004_1, box 71 g [.int .i64 x307000_1, .int .i64 x307001_1, u307002, u307003, u307004]])
 case atStart => exact ⟨(a0_0), (a0_1), (l0_2), (l0_3), (l0_4), (u9000_), (u9001_), (u9002_), H', ⟨Nat.le_refl _⟩, (MD HM).pick [0, 1, 2, 3]⟩
 case round =>
  clear H' HM
  obtain ⟨x307000_1, x307001_1, x307002_1, x307003_1, x307004_1, u307002, u307003, u307004, HA, HK1, HM⟩ := hrel
  cases gk with
  | zero => exact absurd HA.out (by simp [impl_Three_evictSmall.l0])
  | succ k1 =>
   have H := HA.out
   clear HA
   simp only [impl_Three_evictSmall.l0] at H
   obtain ⟨z2_0, z2_1, z2_2, z2_3, z2_4, Z2_0, Z2_1, Z2_2, Z2_3, Z2_4⟩ := bk5 (HM.bx 3 rfl)
   obtain ⟨Xo3, ko3, eo3⟩ := HM.rd 0 rfl
   subst eo3
   go_upto_if 11 with (fail)
   replace H := IT H; rcases H with ⟨c4, H⟩ | ⟨c4, H⟩
   ·replace c4 : (x307002_1.length : Int) > 0 := c4
    have c4b0 : decide (0 < (x307002_1.length : Int)) = true := decide_eq_true c4
    have c4b1 : decide (0 < x307002_1.length) = true := decide_eq_true (by omega)
    have c4b9 : decide (0 < x307002_1.length) = true := decide_eq_true (by omega)
    clear c4
    (first | rw [c4b0] | rw [c4b9] | (simp only [i64_w, i32_w]; rw [c4b0]) | skip)
    replace H := GD H; obtain ⟨c5, H⟩ := H
    replace c5 : 0 < (x307002_1.length : Int) := c5
    have c5b0 : decide (0 < (x307002_1.length : Int)) = true := decide_eq_true c5
    have c5b1 : decide (0 < x307002_1.length) = true := decide_eq_true (by omega)
    have c5b9 : decide (0 < x307002_1.length) = true := decide_eq_true (by omega)
    clear c5
    replace H := GD H; obtain ⟨c9, H⟩ := H
    have c9b0 := eq_true c9
    have c9b1 : decide (1 ≤ (x307002_1.length : Int)) = true := decide_eq_true c9
    clear c9
    replace H := BLt H; obtain ⟨y309, Ny309, H⟩ := H
    replace Ny309 := Aside0.mk Ny309
    have p307 : 0 ≤ (0 : Int) := (by omega)
    have q307 : (0 : Int) < (x307002_1.length : Int) := of_decide_eq_true AS
    obtain ⟨ad307, e307, hx307_0, hx307_1, hx307_2⟩ := at_T67 (HM.C 0 rfl).2.2 0 p307 q307
    cases e307
    have qi307 : (0 < x307002_1.length) = True := eq_true (by omega)
    (try rw [show ((0 : Int)).toNat = 0 from rfl] at hx307_0)
    (try rw [show 0 * 3 = 0 from rfl] at hx307_0)
    (try rw [Addr.add_zero'] at hx307_0)
    (try rw [show ((0 : Int)).toNat = 0 from rfl] at hx307_1)
    (try rw [show 0 * 3 = 0 from rfl] at hx307_1)
    (try rw [Addr.add_zero'] at hx307_1)
    (try rw [show ((0 : Int)).toNat = 0 from rfl] at hx307_2)
    (try rw [show 0 * 3 = 0 from rfl] at hx307_2)
    (try rw [Addr.add_zero'] at hx307_2)
    replace p307 := eq_true p307
    replace q307 := eq_true q307
    go_upto_if 28 with (first | ((with_reducible refine gN 4 rfl ?_); refine pB 4 67 [.string (⟨#[]⟩ : ByteArray), .string (⟨#[]⟩ : ByteArray), .int .i64 0] HM rfl ?_; clear HM; intro gb308 w6 HM) | ((with_reducible refine gS 4 rfl ?_); refine pS 4 4 0 [.string ((rd_T67 x307002_1 0).f0), .string ((rd_T67 x307002_1 0).f1), .int .i64 ((rd_T67 x307002_1 0).f2)] HM rfl rfl ?_; clear HM; intro w7 HM; obtain ⟨z8_0, z8_1, z8_2, z8_3, z8_4, Z8_0, Z8_1, Z8_2, Z8_3, Z8_4⟩ := bk5 (HM.bx 3 rfl)) | ((with_reducible refine gate_sl (t := 68) rfl ?_); refine pD 0 68 67 k67 _ _ 1 x307002_1 (some ad307) ko3 HM rfl Try.underlying68 info67 rfl (fun _ _ h => h) (by omega) (by have h_ : (1 : Int) ≤ ((x307002_1.length : Int) : Int) := of_decide_eq_true AS; first | exact h_ | (have e_ := (HM.C 0 rfl).1; omega)) ?_; clear HM; intro v310 HM; replace HM := HM.nmQ 0 rfl Ny309.out; obtain ⟨Xo10, ko10, eo10⟩ := HM.rd 0 rfl; subst eo10) | ((with_reducible refine gS 25 rfl ?_); refine pS 3 25 2 [.slice Xo10 y309.length ko10] HM rfl rfl ?_; clear HM; intro w11 HM; obtain ⟨z12_0, z12_1, z12_2, Z12_0, Z12_1, Z12_2⟩ := bk3 (HM.bx 4 rfl)))
    replace HM := nzM HM
    replace H := IT H; rcases H with ⟨c13, H⟩ | ⟨c13, H⟩
    ·have c13b0 : decide (1 < ((rd_T67 x307002_1 0).f2)) = true := decide_eq_true c13
     clear c13
     (first | rw [c13b0] | (simp only [i64_w, i32_w]; rw [c13b0]) | skip)
     try go_wp2_with (first | ((with_reducible refine gS 29 rfl ?_); refine pS 4 29 2 [.int .i64 0] HM rfl rfl ?_; clear HM; intro w14 HM))
     replace H := GD H; obtain ⟨c15, H⟩ := H
     have LMc15 := Aside0.mk c15
     clear c15
     obtain ⟨Xo24, ko24, eo24⟩ := HM.rd 1 rfl
     subst eo24
     refine RGN 11 [0, 1, 2, 3, 4, 5, 6, 7, 8, 9, 10] (fun a0 b a w' => ∃ (v19 : Value) (v313 : Value), a = putSel a0 b [(0, 30, .pointer (some ⟨g, 0, none⟩)), (1, 31, .pointer (some ⟨g, 0, none⟩)), (2, 32, .pointer (some ⟨g, 0, none⟩)), (3, 33, .pointer (some ⟨g, 3, none⟩)), (4, 34, .slice Xo24 x307003_1.length ko24), (5, 35, .agg #[.string ((rd_T67 x307002_1 0).f0), .string ((rd_T67 x307002_1 0).f1), .int .i64 0]), (6, 36, v19), (7, 37, v313), (8, 38, .pointer (some ⟨g, 0, none⟩)), (9, 39, .pointer (some ⟨g, 3, none⟩))] ∧ Mem w0 F w' [row k67 67 (.slice Xo10 y309.length ko10) y309, sel (b 7) (row k67 67 v313 (x307003_1 ++ [(⟨(rd_T67 x307002_1 0).f0, (rd_T67 x307002_1 0).f1, 0⟩ : S67)])) (row k67 67 (.slice Xo24 x307003_1.length ko24) x307003_1), row (Kd.int .i64) 3 u307004 x307004_1, sel (b 10) (box 71 g [.int .i64 x307000_1, .int .i64 x307001_1, .slice Xo10 y309.length ko10, v313, u307004]) (box 71 g [.int .i64 x307000_1, .int .i64 x307001_1, .slice Xo10 y309.length ko10, .slice Xo24 x307003_1.length ko24, u307004]), box 67 gb308 [.string ((rd_T67 x307002_1 0).f0), .string ((rd_T67 x307002_1 0).f1), .int .i64 0], sel (b 6) (rowR k67 67 v19 [(⟨(rd_T67 x307002_1 0).f0, (rd_T67 x307002_1 0).f1, 0⟩ : S67)]) (emp)]) impl_Three_evictSmall.tab6 impl_Three_evictSmall.bits6 ?_ ?_ ?_
     ·exact ⟨.bool false, .bool false, PS0' rfl _, (HM.drew.ems 1).pick [0, 1, 2, 3, 4, 5]⟩
     ·clear HM
      refine steps_cons ?_ ?_
      ·rintro b a w ⟨v19, v313, ha, HM⟩ hb hon hoff
       refine ⟨_, rfl, fun K hK => ?_⟩
       replace ha := Aside0.mk ha
       have e0 := PG ha 0
       exact VL (.pointer (some ⟨g, 0, none⟩)) (hK.out _ _ ⟨v19, v313, PUT ha 0 hb, HM⟩)
      refine steps_cons ?_ ?_
      ·rintro b a w ⟨v19, v313, ha, HM⟩ hb hon hoff
       refine ⟨_, rfl, fun K hK => ?_⟩
       replace ha := Aside0.mk ha
       have e0 := PG ha 0
       exact VL (.pointer (some ⟨g, 0, none⟩)) (hK.out _ _ ⟨v19, v313, PUT ha 1 hb, HM⟩)
      refine steps_cons ?_ ?_
      ·rintro b a w ⟨v19, v313, ha, HM⟩ hb hon hoff
       refine ⟨_, rfl, fun K hK => ?_⟩
       replace ha := Aside0.mk ha
       have e31 := PE ha 1 hon
       exact VL (.pointer (some ⟨g, 0, none⟩)) (hK.out _ _ ⟨v19, v313, PUT ha 2 hb, HM⟩)
      refine steps_cons ?_ ?_
      ·rintro b a w ⟨v19, v313, ha, HM⟩ hb hon hoff
       refine ⟨_, rfl, fun K hK => ?_⟩
       replace ha := Aside0.mk ha
       have e32 := PE ha 2 hon
       exact VL (.pointer (some ⟨g, 3, none⟩)) (hK.out _ _ ⟨v19, v313, PUT ha 3 hb, HM⟩)
      refine steps_cons ?_ ?_
      ·rintro b a w ⟨v19, v313, ha, HM⟩ hb hon hoff
       refine ⟨_, rfl, fun K hK => ?_⟩
       replace ha := Aside0.mk ha
       have HZ := HM
       replace HM := HM.sF 3 rfl (hoff 10 (by kernel_rfl))
       obtain ⟨z25_0, z25_1, z25_2, z25_3, z25_4, Z25_0, Z25_1, Z25_2, Z25_3, Z25_4⟩ := bk5 (HM.bx 3 rfl)
       have e33 := PE ha 3 hon
       exact VL (.slice Xo24 x307003_1.length ko24) (hK.out _ _ ⟨v19, v313, PUT ha 4 hb, HZ⟩)
      refine steps_cons ?_ ?_
      ·rintro b a w ⟨v19, v313, ha, HM⟩ hb hon hoff
       refine ⟨_, rfl, fun K hK => ?_⟩
       replace ha := Aside0.mk ha
       obtain ⟨z26_0, z26_1, z26_2, Z26_0, Z26_1, Z26_2⟩ := bk3 (HM.bx 4 rfl)
       have e4 := PG ha 4
       exact VL (.agg #[.string ((rd_T67 x307002_1 0).f0), .string ((rd_T67 x307002_1 0).f1), .int .i64 0]) (hK.out _ _ ⟨v19, v313, PUT ha 5 hb, HM⟩)
      refine steps_cons ?_ ?_
      ·rintro b a w ⟨v19, v313, ha, HM⟩ hb hon hoff
       refine ⟨_, rfl, fun K hK => ?_⟩
       replace ha := Aside0.mk ha
       have e35 := PE ha 5 hon
       refine ST (eL 36 k67 67 [(⟨(rd_T67 x307002_1 0).f0, (rd_T67 x307002_1 0).f1, 0⟩ : S67)] [.string ((rd_T67 x307002_1 0).f0), .string ((rd_T67 x307002_1 0).f1), .int .i64 0] (Reps.c3 (show Kd.M k67 _ _ _ (⟨(rd_T67 x307002_1 0).f0, (rd_T67 x307002_1 0).f1, 0⟩ : S67) [.string ((rd_T67 x307002_1 0).f0), .string ((rd_T67 x307002_1 0).f1), .int .i64 0] from (k67_mkM _ _ _ (⟨(rd_T67 x307002_1 0).f0, (rd_T67 x307002_1 0).f1, 0⟩ : S67))) (Reps.none _ _)) HM rfl ?_)
       clear HM
       intro v19 w27 HM
       exact hK.out _ _ ⟨v19, v313, PUT ha 6 hb, (HM).pick [0, 1, 2, 3, 4, 6]⟩
      refine steps_cons ?_ ?_
      ·rintro b a w ⟨v19, v313, ha, HM⟩ hb hon hoff
       refine ⟨_, rfl, fun K hK => ?_⟩
       replace ha := Aside0.mk ha
       replace HM := HM.sF 1 rfl hb
       replace HM := HM.sT 5 rfl (hon 6 (by kernel_rfl))
       obtain ⟨Xo28, ko28, eo28⟩ := HM.rdR 5 rfl
       subst eo28
       have e34 := PE ha 4 hon
       have e36 := PE ha 6 hon
       refine ST (eAq 1 (.tmp 34) (.tmp 36) 68 67 k67 (.slice Xo24 x307003_1.length ko24) x307003_1 [(⟨(rd_T67 x307002_1 0).f0, (rd_T67 x307002_1 0).f1, 0⟩ : S67)] Xo28 ([(⟨(rd_T67 x307002_1 0).f0, (rd_T67 x307002_1 0).f1, 0⟩ : S67)].length) ko28 HM rfl Try.underlying68 info67 rfl (HM.CR 5 rfl).2.2 (by have h_ := LMc15.out; simp only [List.length_singleton]; omega) (by simp) ?_ (ops := #[]) (hw := by rfl) (hs := (eval_of e34)) (hx := (eval_of e36)))
       clear HM
       intro v313 w29 HM
       exact hK.out _ _ ⟨.slice Xo28 [(⟨(rd_T67 x307002_1 0).f0, (rd_T67 x307002_1 0).f1, 0⟩ : S67)].length ko28, v313, PUT ha 7 hb, (((HM.sF 3 rfl (hoff 10 (by kernel_rfl))).iF 3 rfl (hoff 10 (by kernel_rfl))).iT 5 rfl (hon 6 (by kernel_rfl))).pick [0, 1, 2, 3, 4, 5]⟩
      refine steps_cons ?_ ?_
      ·rintro b a w ⟨v19, v313, ha, HM⟩ hb hon hoff
       refine ⟨_, rfl, fun K hK => ?_⟩
       replace ha := Aside0.mk ha
       have e30 := PE ha 0 hon
       exact VL (.pointer (some ⟨g, 0, none⟩)) (hK.out _ _ ⟨v19, v313, PUT ha 8 hb, HM⟩)
      refine steps_cons ?_ ?_
      ·rintro b a w ⟨v19, v313, ha, HM⟩ hb hon hoff
       refine ⟨_, rfl, fun K hK => ?_⟩
       replace ha := Aside0.mk ha
       have e38 := PE ha 8 hon
       exact VL (.pointer (some ⟨g, 3, none⟩)) (hK.out _ _ ⟨v19, v313, PUT ha 9 hb, HM⟩)
      refine steps_cons ?_ ?_
      ·rintro b a w ⟨v19, v313, ha, HM⟩ hb hon hoff
       refine ⟨_, rfl, fun K hK => ?_⟩
       replace ha := Aside0.mk ha
       replace HM := HM.sT 1 rfl (hon 7 (by kernel_rfl))
       replace HM := HM.sF 3 rfl hb
       obtain ⟨Xo30, ko30, eo30⟩ := HM.rd 1 rfl
       subst eo30
       have e39 := PE ha 9 hon
       have e37 := PE ha 7 hon
       refine ST (eS 3 39 3 [.slice Xo30 (x307003_1 ++ [(⟨(rd_T67 x307002_1 0).f0, (rd_T67 x307002_1 0).f1, 0⟩ : S67)]).length ko30] HM rfl rfl ?_ (hp := (eval_of e39)) (hx := (by rw [eval_of e37]; rfl)))
       clear HM
       intro w31 HM
       exact hK.out _ _ ⟨v19, .slice Xo30 (x307003_1 ++ [(⟨(rd_T67 x307002_1 0).f0, (rd_T67 x307002_1 0).f1, 0⟩ : S67)]).length ko30, PUS ha, (HM.iT 1 rfl (hon 7 (by kernel_rfl))).pick [0, 1, 2, 3, 4, 5]⟩
      exact steps_nil
     rintro _ w32 ⟨v19, v313, rfl, HM⟩
     replace HM := HM.sT 1 rfl rfl
     replace HM := HM.sT 3 rfl rfl
     replace HM := HM.sT 5 rfl rfl
     simp only [putSel, if_true, Act.put, List.setIfInBounds_toArray, List.set_cons_zero, List.set_cons_succ, gt_iff_lt, ge_iff_le]
     have H' := Aside0.mk H
     clear H
     go_wp2
     go_roundg k1
     case measure => have := HK1.out; omega
     case rel => exact ⟨(x307000_1), (x307001_1), (y309), ((x307003_1 ++ [(⟨(rd_T67 x307002_1 0).f0, (rd_T67 x307002_1 0).f1, 0⟩ : S67)])), (x307004_1), (.slice Xo10 y309.length ko10), (v313), (u307004), H', ⟨by have := HK1.out; omega⟩, (MD HM).pick [0, 1, 2, 3]⟩
    ·have c13b0 : decide (1 < ((rd_T67 x307002_1 0).f2)) = false := decide_eq_false c13
     clear c13
     (first | rw [c13b0] | (simp only [i64_w, i32_w]; rw [c13b0]) | skip)
     replace H := BN H; obtain ⟨t315, A33, H⟩ := H
     try go_wp2_with (first | ((with_reducible refine gC 82 rfl ?_); refine pC (some 42) rfl #[.string ((rd_T67 x307002_1 0).f0)] rfl Try.func82 (impl_Hash.calls k1 ((rd_T67 x307002_1 0).f0) t315 _ A33.out) ?_; rintro e w34 ⟨rfl, hd⟩; refine ⟨_, rfl, ?_⟩; replace HM := HM.drawn hd; clear hd) | ((with_reducible refine gN 5 rfl ?_); refine pB 5 3 [.int .i64 0] HM rfl ?_; clear HM; intro gb316 w35 HM) | ((with_reducible refine gS 5 rfl ?_); refine pS 5 5 0 [.int .i64 t315] HM rfl rfl ?_; clear HM; intro w36 HM))
     replace H := BN H; obtain ⟨t317, A37, H⟩ := H
     replace H := GD H; obtain ⟨c38, H⟩ := H
     have LMc38 := Aside0.mk c38
     clear c38
     replace H := BLt H; obtain ⟨y320, Ny320, H⟩ := H
     replace Ny320 := Aside0.mk Ny320
     obtain ⟨Xo48, ko48, eo48⟩ := HM.rd 2 rfl
     subst eo48
     refine RGN 13 [0, 1, 2, 3, 4, 5, 6, 7, 8, 9, 10, 11, 12] (fun a0 b a w' => ∃ (v318 : Value) (v43 : Value) (v321 : Value), a = putSel a0 b [(0, 43, .pointer (some ⟨g, 0, none⟩)), (1, 44, .pointer (some ⟨g, 0, none⟩)), (2, 45, .pointer (some ⟨g, 0, none⟩)), (3, 46, .pointer (some ⟨g, 4, none⟩)), (4, 47, .slice Xo48 x307004_1.length ko48), (5, 48, .func (.func 114) #[] #[.pointer (some ⟨gb316, 0, none⟩)]), (6, 49, v318), (7, 50, .int .i64 t315), (8, 51, v43), (9, 52, v321), (10, 53, .pointer (some ⟨g, 0, none⟩)), (11, 54, .pointer (some ⟨g, 4, none⟩))] ∧ Mem w0 F w' [row k67 67 (.slice Xo10 y309.length ko10) y309, row k67 67 u307003 x307003_1, sel (b 9) (row (Kd.int .i64) 3 v321 y320) (sel (b 6) (row (Kd.int .i64) 3 v318 t317) (row (Kd.int .i64) 3 (.slice Xo48 x307004_1.length ko48) x307004_1)), sel (b 12) (box 71 g [.int .i64 x307000_1, .int .i64 x307001_1, .slice Xo10 y309.length ko10, u307003, v321]) (box 71 g [.int .i64 x307000_1, .int .i64 x307001_1, .slice Xo10 y309.length ko10, u307003, .slice Xo48 x307004_1.length ko48]), box 67 gb308 [.string ((rd_T67 x307002_1 0).f0), .string ((rd_T67 x307002_1 0).f1), .int .i64 ((rd_T67 x307002_1 0).f2)], box 3 gb316 [.int .i64 t315], sel (b 8) (rowR (Kd.int .i64) 3 v43 [t315]) (emp)]) impl_Three_evictSmall.tab8 impl_Three_evictSmall.bits8 ?_ ?_ ?_
     ·exact ⟨.bool false, .bool false, .bool false, PS0' rfl _, (HM.drew.ems 1).pick [0, 1, 2, 3, 4, 5, 6]⟩
     ·clear HM
      refine steps_cons ?_ ?_
      ·rintro b a w ⟨v318, v43, v321, ha, HM⟩ hb hon hoff
       refine ⟨_, rfl, fun K hK => ?_⟩
       replace ha := Aside0.mk ha
       have e0 := PG ha 0
       exact VL (.pointer (some ⟨g, 0, none⟩)) (hK.out _ _ ⟨v318, v43, v321, PUT ha 0 hb, HM⟩)
      refine steps_cons ?_ ?_
      ·rintro b a w ⟨v318, v43, v321, ha, HM⟩ hb hon hoff
       refine ⟨_, rfl, fun K hK => ?_⟩
       replace ha := Aside0.mk ha
       have e0 := PG ha 0
       exact VL (.pointer (some ⟨g, 0, none⟩)) (hK.out _ _ ⟨v318, v43, v321, PUT ha 1 hb, HM⟩)
      refine steps_cons ?_ ?_
      ·rintro b a w ⟨v318, v43, v321, ha, HM⟩ hb hon hoff
       refine ⟨_, rfl, fun K hK => ?_⟩
       replace ha := Aside0.mk ha
       have e44 := PE ha 1 hon
       exact VL (.pointer (some ⟨g, 0, none⟩)) (hK.out _ _ ⟨v318, v43, v321, PUT ha 2 hb, HM⟩)
      refine steps_cons ?_ ?_
      ·rintro b a w ⟨v318, v43, v321, ha, HM⟩ hb hon hoff
       refine ⟨_, rfl, fun K hK => ?_⟩
       replace ha := Aside0.mk ha
       have e45 := PE ha 2 hon
       exact VL (.pointer (some ⟨g, 4, none⟩)) (hK.out _ _ ⟨v318, v43, v321, PUT ha 3 hb, HM⟩)
      refine steps_cons ?_ ?_
      ·rintro b a w ⟨v318, v43, v321, ha, HM⟩ hb hon hoff
       refine ⟨_, rfl, fun K hK => ?_⟩
       replace ha := Aside0.mk ha
       have HZ := HM
       replace HM := HM.sF 3 rfl (hoff 12 (by kernel_rfl))
       obtain ⟨z49_0, z49_1, z49_2, z49_3, z49_4, Z49_0, Z49_1, Z49_2, Z49_3, Z49_4⟩ := bk5 (HM.bx 3 rfl)
       have e46 := PE ha 3 hon
       exact VL (.slice Xo48 x307004_1.length ko48) (hK.out _ _ ⟨v318, v43, v321, PUT ha 4 hb, HZ⟩)
      refine steps_cons ?_ ?_
      ·rintro b a w ⟨v318, v43, v321, ha, HM⟩ hb hon hoff
       refine ⟨_, rfl, fun K hK => ?_⟩
       replace ha := Aside0.mk ha
       have e5 := PG ha 5
       exact VL (.func (.func 114) #[] #[.pointer (some ⟨gb316, 0, none⟩)]) (hK.out _ _ ⟨v318, v43, v321, PUT ha 5 hb, HM⟩)
      refine steps_cons ?_ ?_
      ·rintro b a w ⟨v318, v43, v321, ha, HM⟩ hb hon hoff
       refine ⟨_, rfl, fun K hK => ?_⟩
       replace ha := Aside0.mk ha
       replace HM := (HM.sF 2 rfl (hoff 9 (by kernel_rfl))).sF 2 rfl hb
       obtain ⟨P_, hq_, hn_, fin_⟩ := HM.man 2 5 rfl rfl
       have e47 := PE ha 4 hon
       have e48 := PE ha 5 hon
       refine ST (eC (some 49) rfl #[.slice Xo48 x307004_1.length ko48, .func (.func 114) #[] #[.pointer (some ⟨gb316, 0, none⟩)]] rfl Try.func83 (slices_DeleteFunc_int_int.calls P_ (.slice Xo48 x307004_1.length ko48) x307004_1 114 Try.f114 gb316 t315 t317 (bare _) _ (bare_below _) hq_ (impl_Three_evictSmall.clo114 _ _) (HM.bx 5 rfl) hn_ A37.out) ?_ (hargs := by (simp only [List.map_toArray, List.map_cons, List.map_nil, evc, eval_of e47, eval_of e48]) <;> rfl))
       rintro e w50 ⟨v318, rfl, hQ_, hB_, hK_⟩
       refine ⟨_, rfl, ?_⟩
       replace HM := fin_ _ _ _ hQ_ hB_ hK_
       clear hQ_ hB_ hK_ hq_ hn_ fin_ P_
       exact hK.out _ _ ⟨v318, v43, v321, PUT ha 6 hb, (HM.iF 2 rfl (hoff 9 (by kernel_rfl))).pick [0, 1, 2, 3, 4, 5, 6]⟩
      refine steps_cons ?_ ?_
      ·rintro b a w ⟨v318, v43, v321, ha, HM⟩ hb hon hoff
       refine ⟨_, rfl, fun K hK => ?_⟩
       replace ha := Aside0.mk ha
       obtain ⟨z51_0, Z51_0⟩ := bk1 (HM.bx 5 rfl)
       have e5 := PG ha 5
       exact VL (.int .i64 t315) (hK.out _ _ ⟨v318, v43, v321, PUT ha 7 hb, HM⟩)
      refine steps_cons ?_ ?_
      ·rintro b a w ⟨v318, v43, v321, ha, HM⟩ hb hon hoff
       refine ⟨_, rfl, fun K hK => ?_⟩
       replace ha := Aside0.mk ha
       have e50 := PE ha 7 hon
       refine ST (eL 51 (Kd.int .i64) 3 [t315] [.int .i64 t315] (Reps.one (show Kd.M (Kd.int .i64) _ _ _ t315 [.int .i64 t315] from rfl) (Reps.none _ _)) HM rfl ?_)
       clear HM
       intro v43 w52 HM
       exact hK.out _ _ ⟨v318, v43, v321, PUT ha 8 hb, (HM).pick [0, 1, 2, 3, 4, 5, 7]⟩
      refine steps_cons ?_ ?_
      ·rintro b a w ⟨v318, v43, v321, ha, HM⟩ hb hon hoff
       refine ⟨_, rfl, fun K hK => ?_⟩
       replace ha := Aside0.mk ha
       replace HM := (HM.sF 2 rfl hb).sT 2 rfl (hon 6 (by kernel_rfl))
       replace HM := HM.sT 6 rfl (hon 8 (by kernel_rfl))
       obtain ⟨Xo53, ko53, eo53⟩ := HM.rdR 6 rfl
       subst eo53
       have e49 := PE ha 6 hon
       have e51 := PE ha 8 hon
       refine ST (eAq 2 (.tmp 49) (.tmp 51) 69 3 (Kd.int .i64) v318 t317 [t315] Xo53 ([t315].length) ko53 HM rfl Try.underlying69 info3 rfl (HM.CR 6 rfl).2.2 (by have h_ := LMc38.out; simp only [List.length_singleton]; omega) (by simp) ?_ (ops := #[]) (hw := by rfl) (hs := (eval_of e49)) (hx := (eval_of e51)))
       clear HM
       intro v321 w54 HM
       replace HM := HM.nmQ 2 rfl Ny320.out
       exact hK.out _ _ ⟨v318, .slice Xo53 [t315].length ko53, v321, PUT ha 9 hb, (((HM.sF 3 rfl (hoff 12 (by kernel_rfl))).iF 3 rfl (hoff 12 (by kernel_rfl))).iT 6 rfl (hon 8 (by kernel_rfl))).pick [0, 1, 2, 3, 4, 5, 6]⟩
      refine steps_cons ?_ ?_
      ·rintro b a w ⟨v318, v43, v321, ha, HM⟩ hb hon hoff
       refine ⟨_, rfl, fun K hK => ?_⟩
       replace ha := Aside0.mk ha
       have e43 := PE ha 0 hon
       exact VL (.pointer (some ⟨g, 0, none⟩)) (hK.out _ _ ⟨v318, v43, v321, PUT ha 10 hb, HM⟩)
      refine steps_cons ?_ ?_
      ·rintro b a w ⟨v318, v43, v321, ha, HM⟩ hb hon hoff
       refine ⟨_, rfl, fun K hK => ?_⟩
       replace ha := Aside0.mk ha
       have e53 := PE ha 10 hon
       exact VL (.pointer (some ⟨g, 4, none⟩)) (hK.out _ _ ⟨v318, v43, v321, PUT ha 11 hb, HM⟩)
      refine steps_cons ?_ ?_
      ·rintro b a w ⟨v318, v43, v321, ha, HM⟩ hb hon hoff
       refine ⟨_, rfl, fun K hK => ?_⟩
       replace ha := Aside0.mk ha
       replace HM := HM.sT 2 rfl (hon 9 (by kernel_rfl))
       replace HM := HM.sF 3 rfl hb
       obtain ⟨Xo55, ko55, eo55⟩ := HM.rd 2 rfl
       subst eo55
       have e54 := PE ha 11 hon
       have e52 := PE ha 9 hon
       refine ST (eS 3 54 4 [.slice Xo55 y320.length ko55] HM rfl rfl ?_ (hp := (eval_of e54)) (hx := (by rw [eval_of e52]; rfl)))
       clear HM
       intro w56 HM
       exact hK.out _ _ ⟨v318, v43, .slice Xo55 y320.length ko55, PUS ha, (HM.iT 2 rfl (hon 9 (by kernel_rfl))).pick [0, 1, 2, 3, 4, 5, 6]⟩
      exact steps_nil
     rintro _ w57 ⟨v318, v43, v321, rfl, HM⟩
     replace HM := HM.sT 2 rfl rfl
     replace HM := HM.sT 3 rfl rfl
     replace HM := HM.sT 6 rfl rfl
     simp only [putSel, if_true, Act.put, List.setIfInBounds_toArray, List.set_cons_zero, List.set_cons_succ, gt_iff_lt, ge_iff_le]
     try go_wp2
     replace H := BN H; obtain ⟨t323, A58, H⟩ := H
     obtain ⟨Xo62, ko62, eo62⟩ := HM.rd 2 rfl
     subst eo62
     refine RGN 8 [0, 1, 2, 3, 4, 5, 6, 7] (fun a0 b a w' => a = putSel a0 b [(0, 55, .pointer (some ⟨g, 0, none⟩)), (1, 56, .pointer (some ⟨g, 0, none⟩)), (2, 57, .pointer (some ⟨g, 4, none⟩)), (3, 58, .slice Xo62 y320.length ko62), (4, 59, .int .i64 (y320.length : Int)), (5, 60, .pointer (some ⟨g, 0, none⟩)), (6, 61, .int .i64 t323), (7, 62, .bool (decide ((y320.length : Int) > t323)))] ∧ Mem w0 F w' [row k67 67 (.slice Xo10 y309.length ko10) y309, row k67 67 u307003 x307003_1, row (Kd.int .i64) 3 (.slice Xo62 y320.length ko62) y320, box 71 g [.int .i64 x307000_1, .int .i64 x307001_1, .slice Xo10 y309.length ko10, u307003, .slice Xo62 y320.length ko62], box 67 gb308 [.string ((rd_T67 x307002_1 0).f0), .string ((rd_T67 x307002_1 0).f1), .int .i64 ((rd_T67 x307002_1 0).f2)], box 3 gb316 [.int .i64 t315], rowR (Kd.int .i64) 3 v43 [t315]]) impl_Three_evictSmall.tab9 impl_Three_evictSmall.bits9 ?_ ?_ ?_
     ·exact ⟨PS0' rfl _, (HM.drew).pick [0, 1, 2, 3, 4, 5, 6]⟩
     ·clear HM
      refine SY ?_ ?_
      ·intro b a w ha HM hb hon hoff K hK
       have e0 := PG ha 0
       exact VL (.pointer (some ⟨g, 0, none⟩)) (hK.out _ _ ⟨PUT ha 0 hb, HM⟩)
      refine SY ?_ ?_
      ·intro b a w ha HM hb hon hoff K hK
       have e55 := PE ha 0 hon
       exact VL (.pointer (some ⟨g, 0, none⟩)) (hK.out _ _ ⟨PUT ha 1 hb, HM⟩)
      refine SY ?_ ?_
      ·intro b a w ha HM hb hon hoff K hK
       have e56 := PE ha 1 hon
       exact VL (.pointer (some ⟨g, 4, none⟩)) (hK.out _ _ ⟨PUT ha 2 hb, HM⟩)
      refine SY ?_ ?_
      ·intro b a w ha HM hb hon hoff K hK
       obtain ⟨z63_0, z63_1, z63_2, z63_3, z63_4, Z63_0, Z63_1, Z63_2, Z63_3, Z63_4⟩ := bk5 (HM.bx 3 rfl)
       have e57 := PE ha 2 hon
       exact VL (.slice Xo62 y320.length ko62) (hK.out _ _ ⟨PUT ha 3 hb, HM⟩)
      refine SY ?_ ?_
      ·intro b a w ha HM hb hon hoff K hK
       have e58 := PE ha 3 hon
       exact VL (.int .i64 (y320.length : Int)) (hK.out _ _ ⟨PUT ha 4 hb, HM⟩)
      refine SY ?_ ?_
      ·intro b a w ha HM hb hon hoff K hK
       have e0 := PG ha 0
       exact VL (.pointer (some ⟨g, 0, none⟩)) (hK.out _ _ ⟨PUT ha 5 hb, HM⟩)
      refine SY ?_ ?_
      ·intro b a w ha HM hb hon hoff K hK
       have e60 := PE ha 5 hon
       refine ST (eC (some 61) rfl #[.pointer (some ⟨g, 0, none⟩)] rfl Try.func75 (impl_Three_ghosts.calls g x307000_1 x307001_1 _ _ _ t323 _ (HM.bx 3 rfl) A58.out) ?_ (hargs := by (simp only [List.map_toArray, List.map_cons, List.map_nil, evc, eval_of e60]) <;> rfl))
       rintro e w64 ⟨rfl, nd_, rfl⟩
       refine ⟨_, rfl, ?_⟩
       replace HM := HM.drewN nd_
       exact hK.out _ _ ⟨PUT ha 6 hb, (HM).pick [0, 1, 2, 3, 4, 5, 6]⟩
      refine SY ?_ ?_
      ·intro b a w ha HM hb hon hoff K hK
       have e59 := PE ha 4 hon
       have e61 := PE ha 6 hon
       exact VL (.bool (decide ((y320.length : Int) > t323))) (hK.out _ _ ⟨PUT ha 7 hb, HM⟩)
      exact steps_nil
     rintro _ w65 ⟨rfl, HM⟩
     simp only [putSel, if_true, Act.put, List.setIfInBounds_toArray, List.set_cons_zero, List.set_cons_succ, gt_iff_lt, ge_iff_le]
     go_upto_if 62 with (fail)
     replace H := IT H; rcases H with ⟨c66, H⟩ | ⟨c66, H⟩
     ·have c66b0 : decide (t323 < (y320.length : Int)) = true := decide_eq_true c66
      clear c66
      (first | rw [c66b0] | (simp only [i64_w, i32_w]; rw [c66b0]) | skip)
      replace H := GD H; obtain ⟨c68, H⟩ := H
      have c68b0 := eq_true c68
      have c68b1 : decide (1 ≤ (y320.length : Int)) = true := decide_eq_true c68
      clear c68
      simp only [Option.some.injEq, Prod.mk.injEq] at H
      obtain ⟨rfl, rfl, rfl, rfl, rfl, rfl, rfl⟩ := H
      obtain ⟨z67_0, z67_1, z67_2, z67_3, z67_4, Z67_0, Z67_1, Z67_2, Z67_3, Z67_4⟩ := bk5 (HM.bx 3 rfl)
      go_wp2_with (first | ((with_reducible refine gate_sl (t := 69) rfl ?_); refine pD 2 69 3 (Kd.int .i64) _ _ 1 y320 Xo62 ko62 HM rfl Try.underlying69 info3 rfl (fun _ _ h => h) (by omega) (by have h_ : (1 : Int) ≤ ((y320.length : Int) : Int) := of_decide_eq_true AS; first | exact h_ | (have e_ := (HM.C 2 rfl).1; omega)) ?_; clear HM; intro v325 HM; obtain ⟨Xo69, ko69, eo69⟩ := HM.rd 2 rfl; subst eo69) | ((with_reducible refine gS 70 rfl ?_); refine pS 3 70 4 [.slice Xo69 (y320.drop (1 : Int).toNat).length ko69] HM rfl rfl ?_; clear HM; intro w70 HM; obtain ⟨z71_0, z71_1, z71_2, Z71_0, Z71_1, Z71_2⟩ := bk3 (HM.bx 4 rfl)))
      go_ret2
      first | exact ⟨_, _, _, ER, (MD HM).pick [0, 1, 2, 3]⟩ | exact ⟨ER, _, _, _, (MD HM).pick [0, 1, 2, 3]⟩
     ·have c66b0 : decide (t323 < (y320.length : Int)) = false := decide_eq_false c66
      clear c66
      (first | rw [c66b0] | (simp only [i64_w, i32_w]; rw [c66b0]) | skip)
      simp only [Option.some.injEq, Prod.mk.injEq] at H
      obtain ⟨rfl, rfl, rfl, rfl, rfl, rfl, rfl⟩ := H
      obtain ⟨z72_0, z72_1, z72_2, Z72_0, Z72_1, Z72_2⟩ := bk3 (HM.bx 4 rfl)
      go_wp2
      go_ret2
      first | exact ⟨_, _, _, ER, (MD HM).pick [0, 1, 2, 3]⟩ | exact ⟨ER, _, _, _, (MD HM).pick [0, 1, 2, 3]⟩
   ·replace c4 : ¬ ((x307002_1.length : Int) > 0) := c4
    have c4b0 : decide (0 < (x307002_1.length : Int)) = false := decide_eq_false c4
    have c4b1 : decide (0 < x307002_1.length) = false := decide_eq_false (by omega)
    have c4b9 : decide (0 < x307002_1.length) = false := decide_eq_false (by omega)
    clear c4
    (first | rw [c4b0] | rw [c4b9] | (simp only [i64_w, i32_w]; rw [c4b0]) | skip)
    simp only [Option.some.injEq, Prod.mk.injEq] at H
    obtain ⟨rfl, rfl, rfl, rfl, rfl, rfl, rfl⟩ := H
    go_wp2
    go_ret2
    first | exact ⟨_, _, _, ER, (MD HM).pick [0, 1, 2, 3]⟩ | exact ⟨ER, _, _, _, (MD HM).pick [0, 1, 2, 3]⟩
def impl_Three_evictMain.l0 : Nat → Int → Int → List (S67) → List (S67) → List Int → Option (Int × Int × (List (S67)) × (List (S67)) × List Int × ByteArray × Bool)
 | 0, _, _, _, _, _ => none
 | k + 1, x328000, x328001, x328002, x328003, x328004 => if (x328003.length : Int) > 0 then (if 0 < (x328003.length : Int) then (if 1 ≤ (x328003.length : Int) then ((some (x328003.drop (1 : Int).toNat : List (S67))).bind fun y330 => (if ((rd_T67 x328003 0).f2) = 0 then (some (x328000, x328001, x328002, y330, x328004, (rd_T67 x328003 0).f0, true)) else (if y330.length < 3518437208883 then (impl_Three_evictMain.l0 k x328000 x328001 x328002 (y330 ++ [(⟨(rd_T67 x328003 0).f0, (rd_T67 x328003 0).f1, wrap64 (((rd_T67 x328003 0).f2) - 1)⟩ : S67)]) x328004) else (none)))) else (none)) else (none)) else (some (x328000, x328001, x328002, x328003, x328004, (⟨#[]⟩ : ByteArray), false))
def impl_Three_evictMain.f (k : Nat) (a0_0 : Int) (a0_1 : Int) (l0_2 : List (S67)) (l0_3 : List (S67)) (l0_4 : List Int) : Option (Int × Int × (List (S67)) × (List (S67)) × List Int × ByteArray × Bool) := impl_Three_evictMain.l0 k a0_0 a0_1 l0_2 l0_3 l0_4
def impl_Three_evictMain.T7 : Bool × List (List Nat × List Nat) := (true, [([], []), ([], []), ([1], [1]), ([2], [2]), ([3], [3]), ([], []), ([5], [5]), ([4, 6], [4, 6]), ([0, 0, 1, 2, 3, 4, 5, 6, 7], [0]), ([8, 0, 1, 2, 3, 4, 5, 6, 7], [8]), ([9, 7, 7, 0, 1, 2, 3, 4, 5, 6, 7], [7, 9])])
def impl_Three_evictMain.B7 : List Nat := [0, 0, 2, 6, 14, 0, 32, 126, 255, 511, 1023]
theorem impl_Three_evictMain.tab7 : rtab .any (opsOf Try.f99 7) = impl_Three_evictMain.T7 := by kernel_rfl
theorem impl_Three_evictMain.bits7 : waitsOk impl_Three_evictMain.T7.2 impl_Three_evictMain.B7 = true := by kernel_rfl
set_option maxHeartbeats 8000000 in
set_option maxRecDepth 100000 in
theorem impl_Three_evictMain.calls (k : Nat) (g : Nat) (a0_0 : Int) (a0_1 : Int) (u9000_ : Value) (l0_2 : List (S67)) (u9001_ : Value) (l0_3 : List (S67)) (u9002_ : Value) (l0_4 : List Int) (r1 : Int) (r2 : Int) (r3 : List (S67)) (r4 : List (S67)) (r5 : List Int) (r6 : ByteArray) (r7 : Bool) (w0 w : World) (F : List SP)  (hM : Mem w0 F w [row k67 67 u9000_ l0_2, row k67 67 u9001_ l0_3, row (Kd.int .i64) 3 u9002_ l0_4, box 71 g [.int .i64 a0_0, .int .i64 a0_1, u9000_, u9001_, u9002_]]) (h : impl_Three_evictMain.f k a0_0 a0_1 l0_2 l0_3 l0_4 = some (r1, r2, r3, r4, r5, r6, r7)) :
  Calls Try.prog 99 #[.pointer (some ⟨g, 0, none⟩)] w fun e w' => ∃ v2_ v3_ v4_ : Value, e = .returned (.tuple #[.string r6, .bool r7]) ∧ Mem w0 F w' [row k67 67 v2_ r3, row k67 67 v3_ r4, row (Kd.int .i64) 3 v4_ r5, box 71 g [.int .i64 r1, .int .i64 r2, v2_, v3_, v4_]] := by
 have hu67 := Try.underlying67
 have HM := hM
 clear hM
 have H := h
 clear h
 unfold impl_Three_evictMain.f at H
 go_enter Try.func99, Try.ntmps99
 have H' := Aside0.mk H
 clear H
 go_wp2
 go_loopg [] k (fun kq w' => ∃ (x328003_1 : List (S67)) (u328003 : Value), Aside0 (impl_Three_evictMain.l0 kq a0_0 a0_1 l0_2 x328003_1 l0_4 = some (r1, r2, r3, r4, r5, r6, r7)) ∧ Aside0 (kq ≤ k) ∧ Mem w0 F w' [row k67 67 u9000_ l0_2, row k67 67 u328003 x328003_1, row (Kd.int .i64) 3 u9002_ l0_4, box 71 g [.int .i64 a0_0, .int .i64 a0_1, u9000_, u328003, u9002_]])
 case atStart => exact ⟨(l0_3), (u9001_), H', ⟨Nat.le_refl _⟩, (MD HM).pick [0, 1, 2, 3]⟩
 case round =>
  clear H' HM
  obtain ⟨x328003_1, u328003, HA, HK1, HM⟩ := hrel
  cases gk with
  | zero => exact absurd HA.out (by simp [impl_Three_evictMain.l0])
  | succ k1 =>
   have H := HA.out
   clear HA
   simp only [impl_Three_evictMain.l0] at H
   obtain ⟨z2_0, z2_1, z2_2, z2_3, z2_4, Z2_0, Z2_1, Z2_2, Z2_3, Z2_4⟩ := bk5 (HM.bx 3 rfl)
   obtain ⟨Xo3, ko3, eo3⟩ := HM.rd 1 rfl
   subst eo3
   go_upto_if 10 with (fail)
   replace H := IT H; rcases H with ⟨c4, H⟩ | ⟨c4, H⟩
   ·replace c4 : (x328003_1.length : Int) > 0 := c4
    have c4b0 : decide (0 < (x328003_1.length : Int)) = true := decide_eq_true c4
    have c4b1 : decide (0 < x328003_1.length) = true := decide_eq_true (by omega)
    have c4b9 : decide (0 < x328003_1.length) = true := decide_eq_true (by omega)
    clear c4
    (first | rw [c4b0] | rw [c4b9] | (simp only [i64_w, i32_w]; rw [c4b0]) | skip)
    replace H := GD H; obtain ⟨c5, H⟩ := H
    replace c5 : 0 < (x328003_1.length : Int) := c5
    have c5b0 : decide (0 < (x328003_1.length : Int)) = true := decide_eq_true c5
    have c5b1 : decide (0 < x328003_1.length) = true := decide_eq_true (by omega)
    have c5b9 : decide (0 < x328003_1.length) = true := decide_eq_true (by omega)
    clear c5
    replace H := GD H; obtain ⟨c9, H⟩ := H
    have c9b0 := eq_true c9
    have c9b1 : decide (1 ≤ (x328003_1.length : Int)) = true := decide_eq_true c9
    clear c9
    replace H := BLt H; obtain ⟨y330, Ny330, H⟩ := H
    replace Ny330 := Aside0.mk Ny330
    have p328 : 0 ≤ (0 : Int) := (by omega)
    have q328 : (0 : Int) < (x328003_1.length : Int) := of_decide_eq_true AS
    obtain ⟨ad328, e328, hx328_0, hx328_1, hx328_2⟩ := at_T67 (HM.C 1 rfl).2.2 0 p328 q328
    cases e328
    have qi328 : (0 < x328003_1.length) = True := eq_true (by omega)
    (try rw [show ((0 : Int)).toNat = 0 from rfl] at hx328_0)
    (try rw [show 0 * 3 = 0 from rfl] at hx328_0)
    (try rw [Addr.add_zero'] at hx328_0)
    (try rw [show ((0 : Int)).toNat = 0 from rfl] at hx328_1)
    (try rw [show 0 * 3 = 0 from rfl] at hx328_1)
    (try rw [Addr.add_zero'] at hx328_1)
    (try rw [show ((0 : Int)).toNat = 0 from rfl] at hx328_2)
    (try rw [show 0 * 3 = 0 from rfl] at hx328_2)
    (try rw [Addr.add_zero'] at hx328_2)
    replace p328 := eq_true p328
    replace q328 := eq_true q328
    go_upto_if 27 with (first | ((with_reducible refine gN 4 rfl ?_); refine pB 4 67 [.string (⟨#[]⟩ : ByteArray), .string (⟨#[]⟩ : ByteArray), .int .i64 0] HM rfl ?_; clear HM; intro gb329 w6 HM) | ((with_reducible refine gS 4 rfl ?_); refine pS 4 4 0 [.string ((rd_T67 x328003_1 0).f0), .string ((rd_T67 x328003_1 0).f1), .int .i64 ((rd_T67 x328003_1 0).f2)] HM rfl rfl ?_; clear HM; intro w7 HM; obtain ⟨z8_0, z8_1, z8_2, z8_3, z8_4, Z8_0, Z8_1, Z8_2, Z8_3, Z8_4⟩ := bk5 (HM.bx 3 rfl)) | ((with_reducible refine gate_sl (t := 68) rfl ?_); refine pD 1 68 67 k67 _ _ 1 x328003_1 (some ad328) ko3 HM rfl Try.underlying68 info67 rfl (fun _ _ h => h) (by omega) (by have h_ : (1 : Int) ≤ ((x328003_1.length : Int) : Int) := of_decide_eq_true AS; first | exact h_ | (have e_ := (HM.C 1 rfl).1; omega)) ?_; clear HM; intro v331 HM; replace HM := HM.nmQ 1 rfl Ny330.out; obtain ⟨Xo10, ko10, eo10⟩ := HM.rd 1 rfl; subst eo10) | ((with_reducible refine gS 24 rfl ?_); refine pS 3 24 3 [.slice Xo10 y330.length ko10] HM rfl rfl ?_; clear HM; intro w11 HM; obtain ⟨z12_0, z12_1, z12_2, Z12_0, Z12_1, Z12_2⟩ := bk3 (HM.bx 4 rfl)))
    replace HM := nzM HM
    replace H := IT H; rcases H with ⟨c13, H⟩ | ⟨c13, H⟩
    ·have c13b0 : (((rd_T67 x328003_1 0).f2) == 0) = true := beq_iff_eq.mpr c13
     have c13b1 : (((rd_T67 x328003_1 0).f2) != 0) = false := bne_eq_false_iff_eq.mpr c13
     clear c13
     (first | rw [c13b0] | (simp only [i64_w, i32_w]; rw [c13b0]) | skip)
     simp only [Option.some.injEq, Prod.mk.injEq] at H
     obtain ⟨rfl, rfl, rfl, rfl, rfl, rfl, rfl⟩ := H
     go_wp2
     go_ret2
     first | exact ⟨_, _, _, ER, (MD HM).pick [0, 1, 2, 3]⟩ | exact ⟨ER, _, _, _, (MD HM).pick [0, 1, 2, 3]⟩
    ·have c13b0 : (((rd_T67 x328003_1 0).f2) == 0) = false := beq_eq_false_iff_ne.mpr c13
     have c13b1 : (((rd_T67 x328003_1 0).f2) != 0) = true := bne_iff_ne.mpr c13
     (first | rw [c13b0] | (simp only [i64_w, i32_w]; rw [c13b0]) | skip)
     try go_wp2_with (first | ((with_reducible refine gS 33 rfl ?_); refine pS 4 33 2 [.int .i64 (wrap64 (((rd_T67 x328003_1 0).f2) - 1))] HM rfl rfl ?_; clear HM; intro w14 HM))
     replace H := GD H; obtain ⟨c15, H⟩ := H
     have LMc15 := Aside0.mk c15
     clear c15
     refine RGN 11 [0, 1, 2, 3, 4, 5, 6, 7, 8, 9, 10] (fun a0 b a w' => ∃ (v19 : Value) (v334 : Value), a = putSel a0 b [(0, 34, .pointer (some ⟨g, 0, none⟩)), (1, 35, .pointer (some ⟨g, 0, none⟩)), (2, 36, .pointer (some ⟨g, 0, none⟩)), (3, 37, .pointer (some ⟨g, 3, none⟩)), (4, 38, .slice Xo10 y330.length ko10), (5, 39, .agg #[.string ((rd_T67 x328003_1 0).f0), .string ((rd_T67 x328003_1 0).f1), .int .i64 (wrap64 (((rd_T67 x328003_1 0).f2) - 1))]), (6, 40, v19), (7, 41, v334), (8, 42, .pointer (some ⟨g, 0, none⟩)), (9, 43, .pointer (some ⟨g, 3, none⟩))] ∧ Mem w0 F w' [row k67 67 u9000_ l0_2, sel (b 7) (row k67 67 v334 (y330 ++ [(⟨(rd_T67 x328003_1 0).f0, (rd_T67 x328003_1 0).f1, wrap64 (((rd_T67 x328003_1 0).f2) - 1)⟩ : S67)])) (row k67 67 (.slice Xo10 y330.length ko10) y330), row (Kd.int .i64) 3 u9002_ l0_4, sel (b 10) (box 71 g [.int .i64 a0_0, .int .i64 a0_1, u9000_, v334, u9002_]) (box 71 g [.int .i64 a0_0, .int .i64 a0_1, u9000_, .slice Xo10 y330.length ko10, u9002_]), box 67 gb329 [.string ((rd_T67 x328003_1 0).f0), .string ((rd_T67 x328003_1 0).f1), .int .i64 (wrap64 (((rd_T67 x328003_1 0).f2) - 1))], sel (b 6) (rowR k67 67 v19 [(⟨(rd_T67 x328003_1 0).f0, (rd_T67 x328003_1 0).f1, wrap64 (((rd_T67 x328003_1 0).f2) - 1)⟩ : S67)]) (emp)]) impl_Three_evictMain.tab7 impl_Three_evictMain.bits7 ?_ ?_ ?_
     ·exact ⟨.bool false, .bool false, PS0' rfl _, (HM.drew.ems 1).pick [0, 1, 2, 3, 4, 5]⟩
     ·clear HM
      refine steps_cons ?_ ?_
      ·rintro b a w ⟨v19, v334, ha, HM⟩ hb hon hoff
       refine ⟨_, rfl, fun K hK => ?_⟩
       replace ha := Aside0.mk ha
       have e0 := PG ha 0
       exact VL (.pointer (some ⟨g, 0, none⟩)) (hK.out _ _ ⟨v19, v334, PUT ha 0 hb, HM⟩)
      refine steps_cons ?_ ?_
      ·rintro b a w ⟨v19, v334, ha, HM⟩ hb hon hoff
       refine ⟨_, rfl, fun K hK => ?_⟩
       replace ha := Aside0.mk ha
       have e0 := PG ha 0
       exact VL (.pointer (some ⟨g, 0, none⟩)) (hK.out _ _ ⟨v19, v334, PUT ha 1 hb, HM⟩)
      refine steps_cons ?_ ?_
      ·rintro b a w ⟨v19, v334, ha, HM⟩ hb hon hoff
       refine ⟨_, rfl, fun K hK => ?_⟩
       replace ha := Aside0.mk ha
       have e35 := PE ha 1 hon
       exact VL (.pointer (some ⟨g, 0, none⟩)) (hK.out _ _ ⟨v19, v334, PUT ha 2 hb, HM⟩)
      refine steps_cons ?_ ?_
      ·rintro b a w ⟨v19, v334, ha, HM⟩ hb hon hoff
       refine ⟨_, rfl, fun K hK => ?_⟩
       replace ha := Aside0.mk ha
       have e36 := PE ha 2 hon
       exact VL (.pointer (some ⟨g, 3, none⟩)) (hK.out _ _ ⟨v19, v334, PUT ha 3 hb, HM⟩)
      refine steps_cons ?_ ?_
      ·rintro b a w ⟨v19, v334, ha, HM⟩ hb hon hoff
       refine ⟨_, rfl, fun K hK => ?_⟩
       replace ha := Aside0.mk ha
       have HZ := HM
       replace HM := HM.sF 3 rfl (hoff 10 (by kernel_rfl))
       obtain ⟨z24_0, z24_1, z24_2, z24_3, z24_4, Z24_0, Z24_1, Z24_2, Z24_3, Z24_4⟩ := bk5 (HM.bx 3 rfl)
       have e37 := PE ha 3 hon
       exact VL (.slice Xo10 y330.length ko10) (hK.out _ _ ⟨v19, v334, PUT ha 4 hb, HZ⟩)
      refine steps_cons ?_ ?_
      ·rintro b a w ⟨v19, v334, ha, HM⟩ hb hon hoff
       refine ⟨_, rfl, fun K hK => ?_⟩
       replace ha := Aside0.mk ha
       obtain ⟨z25_0, z25_1, z25_2, Z25_0, Z25_1, Z25_2⟩ := bk3 (HM.bx 4 rfl)
       have e4 := PG ha 4
       exact VL (.agg #[.string ((rd_T67 x328003_1 0).f0), .string ((rd_T67 x328003_1 0).f1), .int .i64 (wrap64 (((rd_T67 x328003_1 0).f2) - 1))]) (hK.out _ _ ⟨v19, v334, PUT ha 5 hb, HM⟩)
      refine steps_cons ?_ ?_
      ·rintro b a w ⟨v19, v334, ha, HM⟩ hb hon hoff
       refine ⟨_, rfl, fun K hK => ?_⟩
       replace ha := Aside0.mk ha
       have e39 := PE ha 5 hon
       refine ST (eL 40 k67 67 [(⟨(rd_T67 x328003_1 0).f0, (rd_T67 x328003_1 0).f1, wrap64 (((rd_T67 x328003_1 0).f2) - 1)⟩ : S67)] [.string ((rd_T67 x328003_1 0).f0), .string ((rd_T67 x328003_1 0).f1), .int .i64 (wrap64 (((rd_T67 x328003_1 0).f2) - 1))] (Reps.c3 (show Kd.M k67 _ _ _ (⟨(rd_T67 x328003_1 0).f0, (rd_T67 x328003_1 0).f1, wrap64 (((rd_T67 x328003_1 0).f2) - 1)⟩ : S67) [.string ((rd_T67 x328003_1 0).f0), .string ((rd_T67 x328003_1 0).f1), .int .i64 (wrap64 (((rd_T67 x328003_1 0).f2) - 1))] from (k67_mkM _ _ _ (⟨(rd_T67 x328003_1 0).f0, (rd_T67 x328003_1 0).f1, wrap64 (((rd_T67 x328003_1 0).f2) - 1)⟩ : S67))) (Reps.none _ _)) HM rfl ?_)
       clear HM
       intro v19 w26 HM
       exact hK.out _ _ ⟨v19, v334, PUT ha 6 hb, (HM).pick [0, 1, 2, 3, 4, 6]⟩
      refine steps_cons ?_ ?_
      ·rintro b a w ⟨v19, v334, ha, HM⟩ hb hon hoff
       refine ⟨_, rfl, fun K hK => ?_⟩
       replace ha := Aside0.mk ha
       replace HM := HM.sF 1 rfl hb
       replace HM := HM.sT 5 rfl (hon 6 (by kernel_rfl))
       obtain ⟨Xo27, ko27, eo27⟩ := HM.rdR 5 rfl
       subst eo27
       have e38 := PE ha 4 hon
       have e40 := PE ha 6 hon
       refine ST (eAq 1 (.tmp 38) (.tmp 40) 68 67 k67 (.slice Xo10 y330.length ko10) y330 [(⟨(rd_T67 x328003_1 0).f0, (rd_T67 x328003_1 0).f1, wrap64 (((rd_T67 x328003_1 0).f2) - 1)⟩ : S67)] Xo27 ([(⟨(rd_T67 x328003_1 0).f0, (rd_T67 x328003_1 0).f1, wrap64 (((rd_T67 x328003_1 0).f2) - 1)⟩ : S67)].length) ko27 HM rfl Try.underlying68 info67 rfl (HM.CR 5 rfl).2.2 (by have h_ := LMc15.out; simp only [List.length_singleton]; omega) (by simp) ?_ (ops := #[]) (hw := by rfl) (hs := (eval_of e38)) (hx := (eval_of e40)))
       clear HM
       intro v334 w28 HM
       exact hK.out _ _ ⟨.slice Xo27 [(⟨(rd_T67 x328003_1 0).f0, (rd_T67 x328003_1 0).f1, wrap64 (((rd_T67 x328003_1 0).f2) - 1)⟩ : S67)].length ko27, v334, PUT ha 7 hb, (((HM.sF 3 rfl (hoff 10 (by kernel_rfl))).iF 3 rfl (hoff 10 (by kernel_rfl))).iT 5 rfl (hon 6 (by kernel_rfl))).pick [0, 1, 2, 3, 4, 5]⟩
      refine steps_cons ?_ ?_
      ·rintro b a w ⟨v19, v334, ha, HM⟩ hb hon hoff
       refine ⟨_, rfl, fun K hK => ?_⟩
       replace ha := Aside0.mk ha
       have e34 := PE ha 0 hon
       exact VL (.pointer (some ⟨g, 0, none⟩)) (hK.out _ _ ⟨v19, v334, PUT ha 8 hb, HM⟩)
      refine steps_cons ?_ ?_
      ·rintro b a w ⟨v19, v334, ha, HM⟩ hb hon hoff
       refine ⟨_, rfl, fun K hK => ?_⟩
       replace ha := Aside0.mk ha
       have e42 := PE ha 8 hon
       exact VL (.pointer (some ⟨g, 3, none⟩)) (hK.out _ _ ⟨v19, v334, PUT ha 9 hb, HM⟩)
      refine steps_cons ?_ ?_
      ·rintro b a w ⟨v19, v334, ha, HM⟩ hb hon hoff
       refine ⟨_, rfl, fun K hK => ?_⟩
       replace ha := Aside0.mk ha
       replace HM := HM.sT 1 rfl (hon 7 (by kernel_rfl))
       replace HM := HM.sF 3 rfl hb
       obtain ⟨Xo29, ko29, eo29⟩ := HM.rd 1 rfl
       subst eo29
       have e43 := PE ha 9 hon
       have e41 := PE ha 7 hon
       refine ST (eS 3 43 3 [.slice Xo29 (y330 ++ [(⟨(rd_T67 x328003_1 0).f0, (rd_T67 x328003_1 0).f1, wrap64 (((rd_T67 x328003_1 0).f2) - 1)⟩ : S67)]).length ko29] HM rfl rfl ?_ (hp := (eval_of e43)) (hx := (by rw [eval_of e41]; rfl)))
       clear HM
       intro w30 HM
       exact hK.out _ _ ⟨v19, .slice Xo29 (y330 ++ [(⟨(rd_T67 x328003_1 0).f0, (rd_T67 x328003_1 0).f1, wrap64 (((rd_T67 x328003_1 0).f2) - 1)⟩ : S67)]).length ko29, PUS ha, (HM.iT 1 rfl (hon 7 (by kernel_rfl))).pick [0, 1, 2, 3, 4, 5]⟩
      exact steps_nil
     rintro _ w31 ⟨v19, v334, rfl, HM⟩
     replace HM := HM.sT 1 rfl rfl
     replace HM := HM.sT 3 rfl rfl
     replace HM := HM.sT 5 rfl rfl
     simp only [putSel, if_true, Act.put, List.setIfInBounds_toArray, List.set_cons_zero, List.set_cons_succ, gt_iff_lt, ge_iff_le]
     have H' := Aside0.mk H
     clear H
     go_wp2
     go_roundg k1
     case measure => have := HK1.out; omega
     case rel => exact ⟨((y330 ++ [(⟨(rd_T67 x328003_1 0).f0, (rd_T67 x328003_1 0).f1, wrap64 (((rd_T67 x328003_1 0).f2) - 1)⟩ : S67)])), (v334), H', ⟨by have := HK1.out; omega⟩, (MD HM).pick [0, 1, 2, 3]⟩
   ·replace c4 : ¬ ((x328003_1.length : Int) > 0) := c4
    have c4b0 : decide (0 < (x328003_1.length : Int)) = false := decide_eq_false c4
    have c4b1 : decide (0 < x328003_1.length) = false := decide_eq_false (by omega)
    have c4b9 : decide (0 < x328003_1.length) = false := decide_eq_false (by omega)
    clear c4
    (first | rw [c4b0] | rw [c4b9] | (simp only [i64_w, i32_w]; rw [c4b0]) | skip)
    simp only [Option.some.injEq, Prod.mk.injEq] at H
    obtain ⟨rfl, rfl, rfl, rfl, rfl, rfl, rfl⟩ := H
    go_wp2
    go_ret2
    first | exact ⟨_, _, _, ER, (MD HM).pick [0, 1, 2, 3]⟩ | exact ⟨ER, _, _, _, (MD HM).pick [0, 1, 2, 3]⟩
def impl_Three_evict.j0 : Nat → Bool → Int → Int → List (S67) → List (S67) → List Int → Option (Int × Int × (List (S67)) × (List (S67)) × List Int × ByteArray × Bool)
 | 0, _, _, _, _, _, _ => none
 | k + 1, x23, x337000, x337001, x337002, x337003, x337004 => if x23 = true then ((impl_Three_evictSmall.f k x337000 x337001 x337002 x337003 x337004).bind fun bt337 => (if bt337.2.2.2.2.2.2 = true then (some (bt337.1, bt337.2.1, bt337.2.2.1, bt337.2.2.2.1, bt337.2.2.2.2.1, bt337.2.2.2.2.2.1, true)) else ((impl_Three_evictMain.f k bt337.1 bt337.2.1 bt337.2.2.1 bt337.2.2.2.1 bt337.2.2.2.2.1).bind fun bt350 => (some (bt350.1, bt350.2.1, bt350.2.2.1, bt350.2.2.2.1, bt350.2.2.2.2.1, bt350.2.2.2.2.2.1, bt350.2.2.2.2.2.2))))) else ((impl_Three_evictMain.f k x337000 x337001 x337002 x337003 x337004).bind fun bt363 => (some (bt363.1, bt363.2.1, bt363.2.2.1, bt363.2.2.2.1, bt363.2.2.2.2.1, bt363.2.2.2.2.2.1, bt363.2.2.2.2.2.2)))
def impl_Three_evict.f (k : Nat) (a0_0 : Int) (a0_1 : Int) (l0_2 : List (S67)) (l0_3 : List (S67)) (l0_4 : List Int) : Option (Int × Int × (List (S67)) × (List (S67)) × List Int × ByteArray × Bool) := if (l0_2.length : Int) ≥ a0_1 then (impl_Three_evict.j0 k true a0_0 a0_1 l0_2 l0_3 l0_4) else (impl_Three_evict.j0 k ((l0_3.length : Int) == 0) a0_0 a0_1 l0_2 l0_3 l0_4)
set_option maxHeartbeats 8000000 in
set_option maxRecDepth 100000 in
theorem impl_Three_evict.calls (k : Nat) (g : Nat) (a0_0 : Int) (a0_1 : Int) (u9000_ : Value) (l0_2 : List (S67)) (u9001_ : Value) (l0_3 : List (S67)) (u9002_ : Value) (l0_4 : List Int) (r1 : Int) (r2 : Int) (r3 : List (S67)) (r4 : List (S67)) (r5 : List Int) (r6 : ByteArray) (r7 : Bool) (w0 w : World) (F : List SP)  (hM : Mem w0 F w [row k67 67 u9000_ l0_2, row k67 67 u9001_ l0_3, row (Kd.int .i64) 3 u9002_ l0_4, box 71 g [.int .i64 a0_0, .int .i64 a0_1, u9000_, u9001_, u9002_]]) (h : impl_Three_evict.f k a0_0 a0_1 l0_2 l0_3 l0_4 = some (r1, r2, r3, r4, r5, r6, r7)) :
  Calls Try.prog 81 #[.pointer (some ⟨g, 0, none⟩)] w fun e w' => ∃ v2_ v3_ v4_ : Value, e = .returned (.tuple #[.string r6, .bool r7]) ∧ Mem w0 F w' [row k67 67 v2_ r3, row k67 67 v3_ r4, row (Kd.int .i64) 3 v4_ r5, box 71 g [.int .i64 r1, .int .i64 r2, v2_, v3_, v4_]] := by
 have HM := hM
 clear hM
 have H := h
 clear h
 unfold impl_Three_evict.f at H
 go_enter Try.func81, Try.ntmps81
 have HC2 := Aside0.mk H
 clear H
 go_upto_region 1 with (fail)
 repeat (go_quiet (fail); go_upto_region 1 with (fail))
 go_cut [23] (fun v23 wc => ∃ (kq : Nat) (x23_1 : Bool), v23 = .bool x23_1 ∧ Aside0 (impl_Three_evict.j0 kq x23_1 a0_0 a0_1 l0_2 l0_3 l0_4 = some (r1, r2, r3, r4, r5, r6, r7)) ∧ Aside0 (kq ≤ k) ∧ Mem w0 F wc [row k67 67 u9000_ l0_2, row k67 67 u9001_ l0_3, row (Kd.int .i64) 3 u9002_ l0_4, box 71 g [.int .i64 a0_0, .int .i64 a0_1, u9000_, u9001_, u9002_]])
 case first =>
  have H := HC2.out
  clear HC2
  replace H := IT H; rcases H with ⟨c5, H⟩ | ⟨c5, H⟩
  ·have c5b0 : decide (a0_1 ≤ (l0_2.length : Int)) = true := decide_eq_true c5
   clear c5
   have H' := Aside0.mk H
   clear H
   obtain ⟨z3_0, z3_1, z3_2, z3_3, z3_4, Z3_0, Z3_1, Z3_2, Z3_3, Z3_4⟩ := bk5 (HM.bx 3 rfl)
   obtain ⟨Xo4, ko4, eo4⟩ := HM.rd 0 rfl
   subst eo4
   go_wp2
   repeat (go_quiet (fail); try go_wp2_with (fail))
   go_meet
   case rel => exact ⟨_, (true), RS, H', ⟨by first | omega | exact Nat.le_refl _⟩, (MD HM).pick [0, 1, 2, 3]⟩
  ·have c5b0 : decide (a0_1 ≤ (l0_2.length : Int)) = false := decide_eq_false c5
   clear c5
   have H' := Aside0.mk H
   clear H
   obtain ⟨z3_0, z3_1, z3_2, z3_3, z3_4, Z3_0, Z3_1, Z3_2, Z3_3, Z3_4⟩ := bk5 (HM.bx 3 rfl)
   obtain ⟨Xo4, ko4, eo4⟩ := HM.rd 0 rfl
   subst eo4
   obtain ⟨Xo6, ko6, eo6⟩ := HM.rd 1 rfl
   subst eo6
   go_wp2
   repeat (go_quiet (fail); try go_wp2_with (fail))
   go_meet
   case rel => exact ⟨_, (((l0_3.length : Int) == 0)), RS, H', ⟨by first | omega | exact Nat.le_refl _⟩, (MD HM).pick [0, 1, 2, 3]⟩
 case rest =>
  clear HC2 HM
  obtain ⟨kq, x23_1, rfl, HA, HJ1, HM⟩ := hcut
  cases kq with
  | zero => exact absurd HA.out (by simp [impl_Three_evict.j0])
  | succ kj1 =>
   have H := HA.out
   clear HA
   simp only [impl_Three_evict.j0] at H
   go_upto_if 23 with (fail)
   repeat (go_quiet (fail); go_upto_if 23 with (fail))
   replace H := IB H
   rcases H with ⟨c7, H⟩ | ⟨c7, H⟩
   ·subst c7
    replace H := BN H; obtain ⟨⟨t337, t338, t339, t342, t345, t348, t349⟩, A8, H⟩ := H
    go_upto_if 29 with (first | ((with_reducible refine gC 98 rfl ?_); refine pC (some 26) rfl #[.pointer (some ⟨g, 0, none⟩)] rfl Try.func98 (impl_Three_evictSmall.calls kj1 g a0_0 a0_1 u9000_ l0_2 u9001_ l0_3 u9002_ l0_4 t337 t338 t339 t342 t345 t348 t349 _ _ _ (HM.focus [] [0, 1, 2, 3]) A8.out) ?_; rintro e w9 ⟨v340, v343, v346, rfl, hR⟩; refine ⟨_, rfl, ?_⟩; replace HM := nzM hR.unfocus; clear hR))
    repeat (go_quiet (first | ((with_reducible refine gC 98 rfl ?_); refine pC (some 26) rfl #[.pointer (some ⟨g, 0, none⟩)] rfl Try.func98 (impl_Three_evictSmall.calls kj1 g a0_0 a0_1 u9000_ l0_2 u9001_ l0_3 u9002_ l0_4 t337 t338 t339 t342 t345 t348 t349 _ _ _ (HM.focus [] [0, 1, 2, 3]) A8.out) ?_; rintro e w9 ⟨v340, v343, v346, rfl, hR⟩; refine ⟨_, rfl, ?_⟩; replace HM := nzM hR.unfocus; clear hR)); go_upto_if 29 with (first | ((with_reducible refine gC 98 rfl ?_); refine pC (some 26) rfl #[.pointer (some ⟨g, 0, none⟩)] rfl Try.func98 (impl_Three_evictSmall.calls kj1 g a0_0 a0_1 u9000_ l0_2 u9001_ l0_3 u9002_ l0_4 t337 t338 t339 t342 t345 t348 t349 _ _ _ (HM.focus [] [0, 1, 2, 3]) A8.out) ?_; rintro e w9 ⟨v340, v343, v346, rfl, hR⟩; refine ⟨_, rfl, ?_⟩; replace HM := nzM hR.unfocus; clear hR)))
    replace H := IB H
    rcases H with ⟨c10, H⟩ | ⟨c10, H⟩
    ·subst c10
     simp only [Option.some.injEq, Prod.mk.injEq] at H
     obtain ⟨rfl, rfl, rfl, rfl, rfl, rfl, rfl⟩ := H
     go_wp2
     repeat (go_quiet (fail); try go_wp2_with (fail))
     go_ret2
     first | exact ⟨_, _, _, ER, (MD HM).pick [0, 1, 2, 3]⟩ | exact ⟨ER, _, _, _, (MD HM).pick [0, 1, 2, 3]⟩
    ·subst c10
     replace H := BN H; obtain ⟨⟨t350, t351, t352, t355, t358, t361, t362⟩, A11, H⟩ := H
     simp only [Option.some.injEq, Prod.mk.injEq] at H
     obtain ⟨rfl, rfl, rfl, rfl, rfl, rfl, rfl⟩ := H
     go_wp2_with (first | ((with_reducible refine gC 99 rfl ?_); refine pC (some 32) rfl #[.pointer (some ⟨g, 0, none⟩)] rfl Try.func99 (impl_Three_evictMain.calls kj1 g t337 t338 v340 t339 v343 t342 v346 t345 t350 t351 t352 t355 t358 t361 t362 _ _ _ (HM.focus [] [0, 1, 2, 3]) A11.out) ?_; rintro e w12 ⟨v353, v356, v359, rfl, hR⟩; refine ⟨_, rfl, ?_⟩; replace HM := nzM hR.unfocus; clear hR))
     repeat (go_quiet (first | ((with_reducible refine gC 99 rfl ?_); refine pC (some 32) rfl #[.pointer (some ⟨g, 0, none⟩)] rfl Try.func99 (impl_Three_evictMain.calls kj1 g t337 t338 v340 t339 v343 t342 v346 t345 t350 t351 t352 t355 t358 t361 t362 _ _ _ (HM.focus [] [0, 1, 2, 3]) A11.out) ?_; rintro e w12 ⟨v353, v356, v359, rfl, hR⟩; refine ⟨_, rfl, ?_⟩; replace HM := nzM hR.unfocus; clear hR)); try go_wp2_with (first | ((with_reducible refine gC 99 rfl ?_); refine pC (some 32) rfl #[.pointer (some ⟨g, 0, none⟩)] rfl Try.func99 (impl_Three_evictMain.calls kj1 g t337 t338 v340 t339 v343 t342 v346 t345 t350 t351 t352 t355 t358 t361 t362 _ _ _ (HM.focus [] [0, 1, 2, 3]) A11.out) ?_; rintro e w12 ⟨v353, v356, v359, rfl, hR⟩; refine ⟨_, rfl, ?_⟩; replace HM := nzM hR.unfocus; clear hR)))
     go_ret2
     first | exact ⟨_, _, _, ER, (MD HM).pick [0, 1, 2, 3]⟩ | exact ⟨ER, _, _, _, (MD HM).pick [0, 1, 2, 3]⟩
   ·subst c7
    replace H := BN H; obtain ⟨⟨t363, t364, t365, t368, t371, t374, t375⟩, A13, H⟩ := H
    simp only [Option.some.injEq, Prod.mk.injEq] at H
    obtain ⟨rfl, rfl, rfl, rfl, rfl, rfl, rfl⟩ := H
    go_wp2_with (first | ((with_reducible refine gC 99 rfl ?_); refine pC (some 36) rfl #[.pointer (some ⟨g, 0, none⟩)] rfl Try.func99 (impl_Three_evictMain.calls kj1 g a0_0 a0_1 u9000_ l0_2 u9001_ l0_3 u9002_ l0_4 t363 t364 t365 t368 t371 t374 t375 _ _ _ (HM.focus [] [0, 1, 2, 3]) A13.out) ?_; rintro e w14 ⟨v366, v369, v372, rfl, hR⟩; refine ⟨_, rfl, ?_⟩; replace HM := nzM hR.unfocus; clear hR))
    repeat (go_quiet (first | ((with_reducible refine gC 99 rfl ?_); refine pC (some 36) rfl #[.pointer (some ⟨g, 0, none⟩)] rfl Try.func99 (impl_Three_evictMain.calls kj1 g a0_0 a0_1 u9000_ l0_2 u9001_ l0_3 u9002_ l0_4 t363 t364 t365 t368 t371 t374 t375 _ _ _ (HM.focus [] [0, 1, 2, 3]) A13.out) ?_; rintro e w14 ⟨v366, v369, v372, rfl, hR⟩; refine ⟨_, rfl, ?_⟩; replace HM := nzM hR.unfocus; clear hR)); try go_wp2_with (first | ((with_reducible refine gC 99 rfl ?_); refine pC (some 36) rfl #[.pointer (some ⟨g, 0, none⟩)] rfl Try.func99 (impl_Three_evictMain.calls kj1 g a0_0 a0_1 u9000_ l0_2 u9001_ l0_3 u9002_ l0_4 t363 t364 t365 t368 t371 t374 t375 _ _ _ (HM.focus [] [0, 1, 2, 3]) A13.out) ?_; rintro e w14 ⟨v366, v369, v372, rfl, hR⟩; refine ⟨_, rfl, ?_⟩; replace HM := nzM hR.unfocus; clear hR)))
    go_ret2
    first | exact ⟨_, _, _, ER, (MD HM).pick [0, 1, 2, 3]⟩ | exact ⟨ER, _, _, _, (MD HM).pick [0, 1, 2, 3]⟩
theorem impl_Put.clo84 (B : Nat) (h : Int) : delInt.Clo 84 Try.f84 B h := by
 refine ⟨Try.func84, by kernel_rfl, by rfl, fun y W hb => ?_⟩
 have HB := Aside0.mk (Below.refl W.heap.size W)
 have hc : W.cell? ⟨B, 0, none⟩ = some (.int .i64 h) := (blk_cell hb 0).trans rfl
 clear hb
 go_enter Try.func84, Try.ntmps84
 go_wp2
 go_ret
 exact ⟨rfl, HB.out⟩
mutual
def impl_Put.j0 : Nat → ByteArray → ByteArray → Bool → Int → Int → List (S67) → List (S67) → List Int → Option (Int × Int × (List (S67)) × (List (S67)) × List Int × List ByteArray × Bool)
 | 0, _, _, _, _, _, _, _, _ => none
 | k + 1, x1, x2, x24, x377000, x377001, x377002, x377003, x377004 => if x24 = true then (some (0, 0, ([] : List (S67)), ([] : List (S67)), ([] : List Int), ([] : List ByteArray), false)) else ((impl_copyThree.f x377000 x377001 x377002 x377003 x377004).bind fun bt380 => ((some (([] : List ByteArray) : List ByteArray)).bind fun y392 => ((impl_Three_item.f bt380.2.2.1 bt380.2.2.2.1 x1).bind fun t395 => (if t395 ≥ 0 then (if t395 < (bt380.2.2.1.length : Int) then (if 0 ≤ t395 then ((some (bt380.2.2.1.set (t395 : Int).toNat (⟨(rd_T67 bt380.2.2.1 t395).f0, x2, (rd_T67 bt380.2.2.1 t395).f2⟩ : S67) : List (S67))).bind fun y396 => (some (bt380.1, bt380.2.1, (y396.set (t395 : Int).toNat (⟨(rd_T67 y396 t395).f0, (rd_T67 y396 t395).f1, mn 3 (wrap64 (((rd_T67 y396 t395).f2) + 1))⟩ : S67)), bt380.2.2.2.1, bt380.2.2.2.2, y392, true))) else (none)) else (if 0 ≤ (wrap64 (t395 - (bt380.2.2.1.length : Int))) then (if (wrap64 (t395 - (bt380.2.2.1.length : Int))) < (bt380.2.2.2.1.length : Int) then ((some (bt380.2.2.2.1.set ((wrap64 (t395 - (bt380.2.2.1.length : Int))) : Int).toNat (⟨(rd_T67 bt380.2.2.2.1 (wrap64 (t395 - (bt380.2.2.1.length : Int)))).f0, x2, (rd_T67 bt380.2.2.2.1 (wrap64 (t395 - (bt380.2.2.1.length : Int)))).f2⟩ : S67) : List (S67))).bind fun y398 => (some (bt380.1, bt380.2.1, bt380.2.2.1, (y398.set ((wrap64 (t395 - (bt380.2.2.1.length : Int))) : Int).toNat (⟨(rd_T67 y398 (wrap64 (t395 - (bt380.2.2.1.length : Int)))).f0, (rd_T67 y398 (wrap64 (t395 - (bt380.2.2.1.length : Int)))).f1, mn 3 (wrap64 (((rd_T67 y398 (wrap64 (t395 - (bt380.2.2.1.length : Int)))).f2) + 1))⟩ : S67)), bt380.2.2.2.2, y392, true))) else (none)) else (none))) else (impl_Put.l0 k x1 x2 y392 bt380.1 bt380.2.1 bt380.2.2.1 bt380.2.2.2.1 bt380.2.2.2.2)))))
def impl_Put.l0 : Nat → ByteArray → ByteArray → List ByteArray → Int → Int → List (S67) → List (S67) → List Int → Option (Int × Int × (List (S67)) × (List (S67)) × List Int × List ByteArray × Bool)
 | 0, _, _, _, _, _, _, _, _ => none
 | k + 1, x1, x2, x10, x392000, x392001, x392002, x392003, x392004 => if (wrap64 ((x392002.length : Int) + (x392003.length : Int))) ≥ x392000 then ((impl_Three_evict.f k x392000 x392001 x392002 x392003 x392004).bind fun bt400 => (if x10.length < 8796093022208 then (impl_Put.l0 k x1 x2 (x10 ++ [bt400.2.2.2.2.2.1]) bt400.1 bt400.2.1 bt400.2.2.1 bt400.2.2.2.1 bt400.2.2.2.2.1) else (none))) else ((impl_Hash.f k x1).bind fun t416 => ((slices_Contains_int_int.f k x392004 t416).bind fun t418 => (if t418 = true then ((slices_DeleteFunc_int_int.f x392004 t416).bind fun t419 => (if x392003.length < 3518437208883 then ((impl_copyThree.f x392000 x392001 x392002 (x392003 ++ [(⟨x1, x2, 0⟩ : S67)]) t419).bind fun bt425 => (some (bt425.1, bt425.2.1, bt425.2.2.1, bt425.2.2.2.1, bt425.2.2.2.2, x10, true))) else (none))) else (if x392002.length < 3518437208883 then ((impl_copyThree.f x392000 x392001 (x392002 ++ [(⟨x1, x2, 0⟩ : S67)]) x392003 x392004).bind fun bt439 => (some (bt439.1, bt439.2.1, bt439.2.2.1, bt439.2.2.2.1, bt439.2.2.2.2, x10, true))) else (none)))))
end
def impl_Put.f (k : Nat) (a0_0 : Int) (a0_1 : Int) (l0_2 : List (S67)) (l0_3 : List (S67)) (l0_4 : List Int) (a1 : ByteArray) (a2 : ByteArray) : Option (Int × Int × (List (S67)) × (List (S67)) × List Int × List ByteArray × Bool) := (impl_ThreeOk.f k a0_0 a0_1 l0_2 l0_3 l0_4).bind fun t378 => (if t378 = true then ((impl_ItemOk.f k a1 a2 0).bind fun t379 => (impl_Put.j0 k a1 a2 (!t379) a0_0 a0_1 l0_2 l0_3 l0_4)) else (impl_Put.j0 k a1 a2 true a0_0 a0_1 l0_2 l0_3 l0_4))
set_option maxHeartbeats 8000000 in
set_option maxRecDepth 100000 in
theorem impl_Put.calls (k : Nat) (a0_0 : Int) (a0_1 : Int) (A0_2 : Option Addr) (c0_2 : Nat) (l0_2 : List (S67)) (A0_3 : Option Addr) (c0_3 : Nat) (l0_3 : List (S67)) (A0_4 : Option Addr) (c0_4 : Nat) (l0_4 : List Int) (a1 : ByteArray) (a2 : ByteArray) (r1 : Int) (r2 : Int) (r3 : List (S67)) (r4 : List (S67)) (r5 : List Int) (r6 : List ByteArray) (r7 : Bool) (w : World) (hr0_2 : Kd.C k67 w A0_2 l0_2.length l0_2) (hc0_2 : l0_2.length ≤ c0_2) (hr0_3 : Kd.C k67 w A0_3 l0_3.length l0_3) (hc0_3 : l0_3.length ≤ c0_3) (hr0_4 : Kd.C (Kd.int .i64) w A0_4 l0_4.length l0_4) (hc0_4 : l0_4.length ≤ c0_4) (h : impl_Put.f k a0_0 a0_1 l0_2 l0_3 l0_4 a1 a2 = some (r1, r2, r3, r4, r5, r6, r7)) :
  Calls Try.prog 62 #[.agg #[.int .i64 a0_0, .int .i64 a0_1, .slice A0_2 l0_2.length c0_2, .slice A0_3 l0_3.length c0_3, .slice A0_4 l0_4.length c0_4], .string a1, .string a2] w fun e w' => ∃ v2_ v3_ v4_ v5_ : Value, e = .returned (.tuple #[.agg #[.int .i64 r1, .int .i64 r2, v2_, v3_, v4_], v5_, .bool r7]) ∧ Mem w [] w' [rowR k67 67 v2_ r3, rowR k67 67 v3_ r4, rowR (Kd.int .i64) 3 v4_ r5, rowR Kd.string 9 v5_ r6] := by
 have hu71 := Try.underlying71
 have hu67 := Try.underlying67
 have HR0_2 := Aside0.mk hr0_2
 have HC0_2 := Aside0.mk hc0_2
 clear hr0_2 hc0_2
 have HR0_3 := Aside0.mk hr0_3
 have HC0_3 := Aside0.mk hc0_3
 clear hr0_3 hc0_3
 have HR0_4 := Aside0.mk hr0_4
 have HC0_4 := Aside0.mk hc0_4
 clear hr0_4 hc0_4
 have HM := Mem.nil w
 have H := h
 clear h
 unfold impl_Put.f at H
 go_enter Try.func62, Try.ntmps62
 have HC6 := Aside0.mk H
 clear H
 go_upto_region 1 with (first | ((with_reducible refine gN 3 rfl ?_); refine pB 3 71 [.int .i64 a0_0, .int .i64 a0_1, .slice A0_2 l0_2.length c0_2, .slice A0_3 l0_3.length c0_3, .slice A0_4 l0_4.length c0_4] HM rfl ?_; clear HM; intro gb376 w4 HM) | ((with_reducible refine gN 6 rfl ?_); refine pB 6 71 [.int .i64 0, .int .i64 0, .slice none 0 0, .slice none 0 0, .slice none 0 0] HM rfl ?_; clear HM; intro gb377 w5 HM))
 replace HM := nzM HM
 try simp only [Act.put, List.setIfInBounds_toArray, List.set_cons_zero, List.set_cons_succ]
 go_cut [24] (fun v24 wc => ∃ (kq : Nat) (x24_5 : Bool), v24 = .bool x24_5 ∧ Aside0 (impl_Put.j0 kq a1 a2 x24_5 a0_0 a0_1 l0_2 l0_3 l0_4 = some (r1, r2, r3, r4, r5, r6, r7)) ∧ Aside0 (kq ≤ k) ∧ Mem w [] wc [box 71 gb376 [.int .i64 a0_0, .int .i64 a0_1, .slice A0_2 l0_2.length c0_2, .slice A0_3 l0_3.length c0_3, .slice A0_4 l0_4.length c0_4], box 71 gb377 [.int .i64 0, .int .i64 0, .slice none 0 0, .slice none 0 0, .slice none 0 0]])
 case first =>
  have H := HC6.out
  clear HC6
  replace H := BN H; obtain ⟨t378, A8, H⟩ := H
  replace H := IB H
  rcases H with ⟨c10, H⟩ | ⟨c10, H⟩
  ·subst c10
   replace H := BN H; obtain ⟨t379, A11, H⟩ := H
   have H' := Aside0.mk H
   clear H
   obtain ⟨z7_0, z7_1, z7_2, z7_3, z7_4, Z7_0, Z7_1, Z7_2, Z7_3, Z7_4⟩ := bk5 (HM.bx 0 rfl)
   go_wp2_with (first | ((with_reducible refine gC 59 rfl ?_); refine pC (some 16) rfl #[.agg #[.int .i64 a0_0, .int .i64 a0_1, .slice A0_2 l0_2.length c0_2, .slice A0_3 l0_3.length c0_3, .slice A0_4 l0_4.length c0_4]] rfl Try.func59 (impl_ThreeOk.calls k a0_0 a0_1 _ _ l0_2 _ _ l0_3 _ _ l0_4 true _ (HM.came HR0_2.out) HC0_2.out (HM.came HR0_3.out) HC0_3.out (HM.came HR0_4.out) HC0_4.out A8.out) ?_; rintro e w9 ⟨rfl, hR⟩; refine ⟨_, rfl, ?_⟩; replace HM := HM.call hR; clear hR) | ((with_reducible refine gC 42 rfl ?_); refine pC (some 22) rfl #[.agg #[.string a1, .string a2, .int .i64 0]] rfl Try.func42 (impl_ItemOk.calls k a1 a2 0 t379 _ A11.out) ?_; rintro e w12 ⟨rfl, hR⟩; refine ⟨_, rfl, ?_⟩; replace HM := HM.call hR; clear hR))
   go_meet
   case rel => exact ⟨_, (!t379), RS, H', ⟨by first | omega | exact Nat.le_refl _⟩, (MD HM).pick [0, 1]⟩
  ·subst c10
   have H' := Aside0.mk H
   clear H
   obtain ⟨z7_0, z7_1, z7_2, z7_3, z7_4, Z7_0, Z7_1, Z7_2, Z7_3, Z7_4⟩ := bk5 (HM.bx 0 rfl)
   go_wp2_with (first | ((with_reducible refine gC 59 rfl ?_); refine pC (some 16) rfl #[.agg #[.int .i64 a0_0, .int .i64 a0_1, .slice A0_2 l0_2.length c0_2, .slice A0_3 l0_3.length c0_3, .slice A0_4 l0_4.length c0_4]] rfl Try.func59 (impl_ThreeOk.calls k a0_0 a0_1 _ _ l0_2 _ _ l0_3 _ _ l0_4 false _ (HM.came HR0_2.out) HC0_2.out (HM.came HR0_3.out) HC0_3.out (HM.came HR0_4.out) HC0_4.out A8.out) ?_; rintro e w9 ⟨rfl, hR⟩; refine ⟨_, rfl, ?_⟩; replace HM := HM.call hR; clear hR))
   go_meet
   case rel => exact ⟨_, (true), RS, H', ⟨by first | omega | exact Nat.le_refl _⟩, (MD HM).pick [0, 1]⟩
 case rest =>
  clear HC6 HM
  obtain ⟨kq, x24_5, rfl, HA, HJ5, HM⟩ := hcut
  cases kq with
  | zero => exact absurd HA.out (by simp [impl_Put.j0])
  | succ kj5 =>
   have H := HA.out
   clear HA
   simp only [impl_Put.j0] at H
   replace H := IB H
   rcases H with ⟨c13, H⟩ | ⟨c13, H⟩
   ·subst c13
    simp only [Option.some.injEq, Prod.mk.injEq] at H
    obtain ⟨rfl, rfl, rfl, rfl, rfl, rfl, rfl⟩ := H
    go_wp2_with (first | ((with_reducible refine gS 6 rfl ?_); refine pS 1 6 0 [.int .i64 0, .int .i64 0, .slice none 0 0, .slice none 0 0, .slice none 0 0] HM rfl rfl ?_; clear HM; intro w14 HM; replace HM := HM.nl k67 67; replace HM := HM.nl k67 67; replace HM := HM.nl (Kd.int .i64) 3; replace HM := HM.nl Kd.string 9))
    refine bodyPost_ret (results_ctt rfl _ _ gb377 71 #[.int .i64 0, .int .i64 0, .slice none 0 0, .slice none 0 0, .slice none 0 0] (0, 0) _ rfl (HM.bx 1 rfl) Try.underlying71 rfl (by kernel_rfl)) rfl ?_
    exact ⟨_, _, _, _, ER, (MD HM).pick [2, 3, 4, 5]⟩
   ·subst c13
    replace H := BN H; obtain ⟨⟨t380, t381, t382, t385, t388⟩, A16, H⟩ := H
    replace H := BLt H; obtain ⟨y392, Ny392, H⟩ := H
    replace Ny392 := Aside0.mk Ny392
    replace H := BN H; obtain ⟨t395, A25, H⟩ := H
    replace H := IT H; rcases H with ⟨c27, H⟩ | ⟨c27, H⟩
    ·have c27b0 : decide (0 ≤ t395) = true := decide_eq_true c27
     clear c27
     replace H := IT H; rcases H with ⟨c29, H⟩ | ⟨c29, H⟩
     ·have c29b0 : decide (t395 < (t382.length : Int)) = true := decide_eq_true c29
      clear c29
      replace H := GD H; obtain ⟨c30, H⟩ := H
      have c30b0 : decide (0 ≤ t395) = true := decide_eq_true c30
      clear c30
      replace H := BLt H; obtain ⟨y396, Ny396, H⟩ := H
      replace Ny396 := Aside0.mk Ny396
      obtain ⟨ji35, hji35⟩ : ∃ j_ : Int, (mn 3 (wrap64 (((rd_T67 y396 t395).f2) + 1))) = j_ := ⟨_, rfl⟩
      (first | rw [hji35] at H | simp only [hji35] at H | skip)
      have hji35_ : (if (wrap64 (((rd_T67 y396 t395).f2) + 1)) < 3 then (wrap64 (((rd_T67 y396 t395).f2) + 1)) else 3) = ji35 := hji35
      (try (have hji35h : ji35 ≤ 3 := by (rw [← hji35]; unfold mn; (repeat' split) <;> omega)))
      simp only [Option.some.injEq, Prod.mk.injEq] at H
      obtain ⟨rfl, rfl, rfl, rfl, rfl, rfl, rfl⟩ := H
      obtain ⟨z15_0, z15_1, z15_2, z15_3, z15_4, Z15_0, Z15_1, Z15_2, Z15_3, Z15_4⟩ := bk5 (HM.bx 0 rfl)
      go_wp2_with (first | ((with_reducible refine gC 79 rfl ?_); refine pC (some 27) rfl #[.agg #[.int .i64 a0_0, .int .i64 a0_1, .slice A0_2 l0_2.length c0_2, .slice A0_3 l0_3.length c0_3, .slice A0_4 l0_4.length c0_4]] rfl Try.func79 (impl_copyThree.calls a0_0 a0_1 _ _ l0_2 _ _ l0_3 _ _ l0_4 t380 t381 t382 t385 t388 _ (HM.came HR0_2.out) HC0_2.out (HM.came HR0_3.out) HC0_3.out (HM.came HR0_4.out) HC0_4.out A16.out) ?_; rintro e w17 ⟨v383, v386, v389, rfl, hR⟩; refine ⟨_, rfl, ?_⟩; replace HM := HM.call hR; clear hR) | ((with_reducible refine gN 9 rfl ?_); refine pB 9 71 [.int .i64 0, .int .i64 0, .slice none 0 0, .slice none 0 0, .slice none 0 0] HM rfl ?_; clear HM; intro gb391 w18 HM; obtain ⟨Xo19, ko19, eo19⟩ := HM.rdR 2 rfl; subst eo19; obtain ⟨Xo20, ko20, eo20⟩ := HM.rdR 3 rfl; subst eo20; obtain ⟨Xo21, ko21, eo21⟩ := HM.rdR 4 rfl; subst eo21) | ((with_reducible refine gS 9 rfl ?_); refine pS 5 9 0 [.int .i64 t380, .int .i64 t381, .slice Xo19 t382.length ko19, .slice Xo20 t385.length ko20, .slice Xo21 t388.length ko21] HM rfl rfl ?_; clear HM; intro w22 HM) | ((with_reducible refine gN 28 rfl ?_); refine pL 28 Kd.string 9 ([] : List ByteArray) [] (Reps.none _ _) HM rfl ?_; clear HM; intro v393 w23 HM; replace HM := HM.nm 6 rfl Ny392.out; obtain ⟨z24_0, z24_1, z24_2, z24_3, z24_4, Z24_0, Z24_1, Z24_2, Z24_3, Z24_4⟩ := bk5 (HM.bx 5 rfl)) | ((with_reducible refine gC 80 rfl ?_); refine pC (some 30) rfl #[.pointer (some ⟨gb391, 0, none⟩), .string a1] rfl Try.func80 (impl_Three_item.calls gb391 t380 t381 (.slice Xo21 t388.length ko21) Xo19 ko19 t382 Xo20 ko20 t385 a1 t395 _ (HM.CR 2 rfl).2.2 (HM.CR 2 rfl).2.1 (HM.CR 3 rfl).2.2 (HM.CR 3 rfl).2.1 (HM.bx 5 rfl) A25.out) ?_; rintro e w26 ⟨rfl, hb⟩; refine ⟨_, rfl, ?_⟩; replace HM := HM.below hb; clear hb; have pf32 : 0 ≤ (t395 : Int) := of_decide_eq_true AS; have qf32 : (t395 : Int) < ((t382.length : Int) : Int) := of_decide_eq_true AS; obtain ⟨gof32, eff32⟩ := HM.form 2 rfl (by have h_ := (HM.CR 2 rfl).1; omega); subst eff32; clear pf32 qf32; (first | rw [impl_Three_item.ptr_nil (by assumption)] | rw [impl_Three_item.ptr_small (by assumption) (by assumption)] | rw [impl_Three_item.ptr_main (by assumption) (by assumption)] | rw [impl_Three_item.ptr_nil' (by assumption)] | rw [impl_Three_item.ptr_small' (by assumption) (by assumption)] | rw [impl_Three_item.ptr_main' (by assumption) (by assumption)]); obtain ⟨z28_0, z28_1, z28_2, z28_3, z28_4, Z28_0, Z28_1, Z28_2, Z28_3, Z28_4⟩ := bk5 (HM.bx 5 rfl); have p31 : 0 ≤ (t395 : Int) := of_decide_eq_true AS; have q31 : (t395 : Int) < ((t382.length : Int) : Int) := of_decide_eq_true AS; obtain ⟨hx31_0, hx31_1, hx31_2, hf31_0, hf31_1, hf31_2⟩ := HM.el3 2 rfl z67 (t395 : Int) p31 (by have h_ := (HM.CR 2 rfl).1; omega) (.string ((rd_T67 t382 t395).f0)) (.string ((rd_T67 t382 t395).f1)) (.int .i64 ((rd_T67 t382 t395).f2)) (fun _ _ h => k67_openM h); replace p31 := eq_true p31; replace q31 := eq_true q31) | ((with_reducible refine gS 36 rfl ?_); refine pPR 2 36 (t395 : Int) 1 [.string a2] k67 67 t382 (⟨(rd_T67 t382 t395).f0, a2, (rd_T67 t382 t395).f2⟩ : S67) z67 [.string ((rd_T67 t382 t395).f0), .string ((rd_T67 t382 t395).f1), .int .i64 ((rd_T67 t382 t395).f2)] HM rfl rfl (of_decide_eq_true AS) (by have h_ : (t395 : Int) < ((t382.length : Int) : Int) := of_decide_eq_true AS; have e_ := (HM.CR 2 rfl).1; omega) (fun _ _ h => k67_openM h) (k67_mkM _ _ _ (⟨(rd_T67 t382 t395).f0, a2, (rd_T67 t382 t395).f2⟩ : S67)) ?_; clear HM; intro w33 HM; replace HM := HM.nm 2 rfl Ny396.out; have p34 : 0 ≤ (t395 : Int) := of_decide_eq_true AS; have q34 : (t395 : Int) < ((t382.length : Int) : Int) := of_decide_eq_true AS; obtain ⟨hx34_0, hx34_1, hx34_2, hf34_0, hf34_1, hf34_2⟩ := HM.el3 2 rfl z67 (t395 : Int) p34 (by have h_ := (HM.CR 2 rfl).1; omega) (.string ((rd_T67 y396 t395).f0)) (.string ((rd_T67 y396 t395).f1)) (.int .i64 ((rd_T67 y396 t395).f2)) (fun _ _ h => k67_openM h); replace p34 := eq_true p34; replace q34 := eq_true q34) | ((with_reducible refine gS 45 rfl ?_); refine pPR 2 45 (t395 : Int) 2 [.int .i64 ji35] k67 67 y396 (⟨(rd_T67 y396 t395).f0, (rd_T67 y396 t395).f1, ji35⟩ : S67) z67 [.string ((rd_T67 y396 t395).f0), .string ((rd_T67 y396 t395).f1), .int .i64 ((rd_T67 y396 t395).f2)] HM rfl rfl (of_decide_eq_true AS) (by have h_ : (t395 : Int) < ((t382.length : Int) : Int) := of_decide_eq_true AS; have e_ := (HM.CR 2 rfl).1; omega) (fun _ _ h => k67_openM h) (k67_mkM _ _ _ (⟨(rd_T67 y396 t395).f0, (rd_T67 y396 t395).f1, ji35⟩ : S67)) ?_; clear HM; intro w36 HM; have p37 : 0 ≤ (t395 : Int) := of_decide_eq_true AS; have q37 : (t395 : Int) < ((t382.length : Int) : Int) := of_decide_eq_true AS; obtain ⟨hx37_0, hx37_1, hx37_2, hf37_0, hf37_1, hf37_2⟩ := HM.el3 2 rfl z67 (t395 : Int) p37 (by have h_ := (HM.CR 2 rfl).1; omega) (.string ((rd_T67 (y396.set (t395 : Int).toNat (⟨(rd_T67 y396 t395).f0, (rd_T67 y396 t395).f1, ji35⟩ : S67)) t395).f0)) (.string ((rd_T67 (y396.set (t395 : Int).toNat (⟨(rd_T67 y396 t395).f0, (rd_T67 y396 t395).f1, ji35⟩ : S67)) t395).f1)) (.int .i64 ((rd_T67 (y396.set (t395 : Int).toNat (⟨(rd_T67 y396 t395).f0, (rd_T67 y396 t395).f1, ji35⟩ : S67)) t395).f2)) (fun _ _ h => k67_openM h); replace p37 := eq_true p37; replace q37 := eq_true q37; obtain ⟨z38_0, z38_1, z38_2, z38_3, z38_4, Z38_0, Z38_1, Z38_2, Z38_3, Z38_4⟩ := bk5 (HM.bx 5 rfl)) | ((with_reducible refine gS 6 rfl ?_); refine pS 1 6 0 [.int .i64 t380, .int .i64 t381, .slice (some ⟨gof32, 0, none⟩) t382.length ko19, .slice Xo20 t385.length ko20, .slice Xo21 t388.length ko21] HM rfl rfl ?_; clear HM; intro w39 HM))
      refine bodyPost_ret (results_ctt rfl _ _ gb377 71 #[.int .i64 t380, .int .i64 t381, .slice (some ⟨gof32, 0, none⟩) t382.length ko19, .slice Xo20 t385.length ko20, .slice Xo21 t388.length ko21] (0, 0) _ rfl (HM.bx 1 rfl) Try.underlying71 rfl (by kernel_rfl)) rfl ?_
      exact ⟨_, _, _, _, ER, (MD HM).pick [2, 3, 4, 6]⟩
     ·have c29b0 : decide (t395 < (t382.length : Int)) = false := decide_eq_false c29
      clear c29
      replace H := GD H; obtain ⟨c40, H⟩ := H
      have c40b0 : decide (0 ≤ (wrap64 (t395 - (t382.length : Int)))) = true := decide_eq_true c40
      clear c40
      replace H := GD H; obtain ⟨c41, H⟩ := H
      have c41b0 : decide ((wrap64 (t395 - (t382.length : Int))) < (t385.length : Int)) = true := decide_eq_true c41
      clear c41
      replace H := BLt H; obtain ⟨y398, Ny398, H⟩ := H
      replace Ny398 := Aside0.mk Ny398
      obtain ⟨ji46, hji46⟩ : ∃ j_ : Int, (mn 3 (wrap64 (((rd_T67 y398 (wrap64 (t395 - (t382.length : Int)))).f2) + 1))) = j_ := ⟨_, rfl⟩
      (first | rw [hji46] at H | simp only [hji46] at H | skip)
      have hji46_ : (if (wrap64 (((rd_T67 y398 (wrap64 (t395 - (t382.length : Int)))).f2) + 1)) < 3 then (wrap64 (((rd_T67 y398 (wrap64 (t395 - (t382.length : Int)))).f2) + 1)) else 3) = ji46 := hji46
      (try (have hji46h : ji46 ≤ 3 := by (rw [← hji46]; unfold mn; (repeat' split) <;> omega)))
      simp only [Option.some.injEq, Prod.mk.injEq] at H
      obtain ⟨rfl, rfl, rfl, rfl, rfl, rfl, rfl⟩ := H
      obtain ⟨z15_0, z15_1, z15_2, z15_3, z15_4, Z15_0, Z15_1, Z15_2, Z15_3, Z15_4⟩ := bk5 (HM.bx 0 rfl)
      go_wp2_with (first | ((with_reducible refine gC 79 rfl ?_); refine pC (some 27) rfl #[.agg #[.int .i64 a0_0, .int .i64 a0_1, .slice A0_2 l0_2.length c0_2, .slice A0_3 l0_3.length c0_3, .slice A0_4 l0_4.length c0_4]] rfl Try.func79 (impl_copyThree.calls a0_0 a0_1 _ _ l0_2 _ _ l0_3 _ _ l0_4 t380 t381 t382 t385 t388 _ (HM.came HR0_2.out) HC0_2.out (HM.came HR0_3.out) HC0_3.out (HM.came HR0_4.out) HC0_4.out A16.out) ?_; rintro e w17 ⟨v383, v386, v389, rfl, hR⟩; refine ⟨_, rfl, ?_⟩; replace HM := HM.call hR; clear hR) | ((with_reducible refine gN 9 rfl ?_); refine pB 9 71 [.int .i64 0, .int .i64 0, .slice none 0 0, .slice none 0 0, .slice none 0 0] HM rfl ?_; clear HM; intro gb391 w18 HM; obtain ⟨Xo19, ko19, eo19⟩ := HM.rdR 2 rfl; subst eo19; obtain ⟨Xo20, ko20, eo20⟩ := HM.rdR 3 rfl; subst eo20; obtain ⟨Xo21, ko21, eo21⟩ := HM.rdR 4 rfl; subst eo21) | ((with_reducible refine gS 9 rfl ?_); refine pS 5 9 0 [.int .i64 t380, .int .i64 t381, .slice Xo19 t382.length ko19, .slice Xo20 t385.length ko20, .slice Xo21 t388.length ko21] HM rfl rfl ?_; clear HM; intro w22 HM) | ((with_reducible refine gN 28 rfl ?_); refine pL 28 Kd.string 9 ([] : List ByteArray) [] (Reps.none _ _) HM rfl ?_; clear HM; intro v393 w23 HM; replace HM := HM.nm 6 rfl Ny392.out; obtain ⟨z24_0, z24_1, z24_2, z24_3, z24_4, Z24_0, Z24_1, Z24_2, Z24_3, Z24_4⟩ := bk5 (HM.bx 5 rfl)) | ((with_reducible refine gC 80 rfl ?_); refine pC (some 30) rfl #[.pointer (some ⟨gb391, 0, none⟩), .string a1] rfl Try.func80 (impl_Three_item.calls gb391 t380 t381 (.slice Xo21 t388.length ko21) Xo19 ko19 t382 Xo20 ko20 t385 a1 t395 _ (HM.CR 2 rfl).2.2 (HM.CR 2 rfl).2.1 (HM.CR 3 rfl).2.2 (HM.CR 3 rfl).2.1 (HM.bx 5 rfl) A25.out) ?_; rintro e w26 ⟨rfl, hb⟩; refine ⟨_, rfl, ?_⟩; replace HM := HM.below hb; clear hb; have pf43 : 0 ≤ ((wrap64 (t395 - (t382.length : Int))) : Int) := of_decide_eq_true AS; have qf43 : ((wrap64 (t395 - (t382.length : Int))) : Int) < ((t385.length : Int) : Int) := of_decide_eq_true AS; obtain ⟨gof43, eff43⟩ := HM.form 3 rfl (by have h_ := (HM.CR 3 rfl).1; omega); subst eff43; clear pf43 qf43; (first | rw [impl_Three_item.ptr_nil (by assumption)] | rw [impl_Three_item.ptr_small (by assumption) (by assumption)] | rw [impl_Three_item.ptr_main (by assumption) (by assumption)] | rw [impl_Three_item.ptr_nil' (by assumption)] | rw [impl_Three_item.ptr_small' (by assumption) (by assumption)] | rw [impl_Three_item.ptr_main' (by assumption) (by assumption)]); obtain ⟨z28_0, z28_1, z28_2, z28_3, z28_4, Z28_0, Z28_1, Z28_2, Z28_3, Z28_4⟩ := bk5 (HM.bx 5 rfl); have p42 : 0 ≤ ((wrap64 (t395 - (t382.length : Int))) : Int) := of_decide_eq_true AS; have q42 : ((wrap64 (t395 - (t382.length : Int))) : Int) < ((t385.length : Int) : Int) := of_decide_eq_true AS; obtain ⟨hx42_0, hx42_1, hx42_2, hf42_0, hf42_1, hf42_2⟩ := HM.el3 3 rfl z67 ((wrap64 (t395 - (t382.length : Int))) : Int) p42 (by have h_ := (HM.CR 3 rfl).1; omega) (.string ((rd_T67 t385 (wrap64 (t395 - (t382.length : Int)))).f0)) (.string ((rd_T67 t385 (wrap64 (t395 - (t382.length : Int)))).f1)) (.int .i64 ((rd_T67 t385 (wrap64 (t395 - (t382.length : Int)))).f2)) (fun _ _ h => k67_openM h); replace p42 := eq_true p42; replace q42 := eq_true q42) | ((with_reducible refine gS 36 rfl ?_); refine pPR 3 36 ((wrap64 (t395 - (t382.length : Int))) : Int) 1 [.string a2] k67 67 t385 (⟨(rd_T67 t385 (wrap64 (t395 - (t382.length : Int)))).f0, a2, (rd_T67 t385 (wrap64 (t395 - (t382.length : Int)))).f2⟩ : S67) z67 [.string ((rd_T67 t385 (wrap64 (t395 - (t382.length : Int)))).f0), .string ((rd_T67 t385 (wrap64 (t395 - (t382.length : Int)))).f1), .int .i64 ((rd_T67 t385 (wrap64 (t395 - (t382.length : Int)))).f2)] HM rfl rfl (of_decide_eq_true AS) (by have h_ : ((wrap64 (t395 - (t382.length : Int))) : Int) < ((t385.length : Int) : Int) := of_decide_eq_true AS; have e_ := (HM.CR 3 rfl).1; omega) (fun _ _ h => k67_openM h) (k67_mkM _ _ _ (⟨(rd_T67 t385 (wrap64 (t395 - (t382.length : Int)))).f0, a2, (rd_T67 t385 (wrap64 (t395 - (t382.length : Int)))).f2⟩ : S67)) ?_; clear HM; intro w44 HM; replace HM := HM.nm 3 rfl Ny398.out; have p45 : 0 ≤ ((wrap64 (t395 - (t382.length : Int))) : Int) := of_decide_eq_true AS; have q45 : ((wrap64 (t395 - (t382.length : Int))) : Int) < ((t385.length : Int) : Int) := of_decide_eq_true AS; obtain ⟨hx45_0, hx45_1, hx45_2, hf45_0, hf45_1, hf45_2⟩ := HM.el3 3 rfl z67 ((wrap64 (t395 - (t382.length : Int))) : Int) p45 (by have h_ := (HM.CR 3 rfl).1; omega) (.string ((rd_T67 y398 (wrap64 (t395 - (t382.length : Int)))).f0)) (.string ((rd_T67 y398 (wrap64 (t395 - (t382.length : Int)))).f1)) (.int .i64 ((rd_T67 y398 (wrap64 (t395 - (t382.length : Int)))).f2)) (fun _ _ h => k67_openM h); replace p45 := eq_true p45; replace q45 := eq_true q45) | ((with_reducible refine gS 45 rfl ?_); refine pPR 3 45 ((wrap64 (t395 - (t382.length : Int))) : Int) 2 [.int .i64 ji46] k67 67 y398 (⟨(rd_T67 y398 (wrap64 (t395 - (t382.length : Int)))).f0, (rd_T67 y398 (wrap64 (t395 - (t382.length : Int)))).f1, ji46⟩ : S67) z67 [.string ((rd_T67 y398 (wrap64 (t395 - (t382.length : Int)))).f0), .string ((rd_T67 y398 (wrap64 (t395 - (t382.length : Int)))).f1), .int .i64 ((rd_T67 y398 (wrap64 (t395 - (t382.length : Int)))).f2)] HM rfl rfl (of_decide_eq_true AS) (by have h_ : ((wrap64 (t395 - (t382.length : Int))) : Int) < ((t385.length : Int) : Int) := of_decide_eq_true AS; have e_ := (HM.CR 3 rfl).1; omega) (fun _ _ h => k67_openM h) (k67_mkM _ _ _ (⟨(rd_T67 y398 (wrap64 (t395 - (t382.length : Int)))).f0, (rd_T67 y398 (wrap64 (t395 - (t382.length : Int)))).f1, ji46⟩ : S67)) ?_; clear HM; intro w47 HM; have p48 : 0 ≤ ((wrap64 (t395 - (t382.length : Int))) : Int) := of_decide_eq_true AS; have q48 : ((wrap64 (t395 - (t382.length : Int))) : Int) < ((t385.length : Int) : Int) := of_decide_eq_true AS; obtain ⟨hx48_0, hx48_1, hx48_2, hf48_0, hf48_1, hf48_2⟩ := HM.el3 3 rfl z67 ((wrap64 (t395 - (t382.length : Int))) : Int) p48 (by have h_ := (HM.CR 3 rfl).1; omega) (.string ((rd_T67 (y398.set ((wrap64 (t395 - (t382.length : Int))) : Int).toNat (⟨(rd_T67 y398 (wrap64 (t395 - (t382.length : Int)))).f0, (rd_T67 y398 (wrap64 (t395 - (t382.length : Int)))).f1, ji46⟩ : S67)) (wrap64 (t395 - (t382.length : Int)))).f0)) (.string ((rd_T67 (y398.set ((wrap64 (t395 - (t382.length : Int))) : Int).toNat (⟨(rd_T67 y398 (wrap64 (t395 - (t382.length : Int)))).f0, (rd_T67 y398 (wrap64 (t395 - (t382.length : Int)))).f1, ji46⟩ : S67)) (wrap64 (t395 - (t382.length : Int)))).f1)) (.int .i64 ((rd_T67 (y398.set ((wrap64 (t395 - (t382.length : Int))) : Int).toNat (⟨(rd_T67 y398 (wrap64 (t395 - (t382.length : Int)))).f0, (rd_T67 y398 (wrap64 (t395 - (t382.length : Int)))).f1, ji46⟩ : S67)) (wrap64 (t395 - (t382.length : Int)))).f2)) (fun _ _ h => k67_openM h); replace p48 := eq_true p48; replace q48 := eq_true q48; obtain ⟨z49_0, z49_1, z49_2, z49_3, z49_4, Z49_0, Z49_1, Z49_2, Z49_3, Z49_4⟩ := bk5 (HM.bx 5 rfl)) | ((with_reducible refine gS 6 rfl ?_); refine pS 1 6 0 [.int .i64 t380, .int .i64 t381, .slice Xo19 t382.length ko19, .slice (some ⟨gof43, 0, none⟩) t385.length ko20, .slice Xo21 t388.length ko21] HM rfl rfl ?_; clear HM; intro w50 HM))
      refine bodyPost_ret (results_ctt rfl _ _ gb377 71 #[.int .i64 t380, .int .i64 t381, .slice Xo19 t382.length ko19, .slice (some ⟨gof43, 0, none⟩) t385.length ko20, .slice Xo21 t388.length ko21] (0, 0) _ rfl (HM.bx 1 rfl) Try.underlying71 rfl (by kernel_rfl)) rfl ?_
      exact ⟨_, _, _, _, ER, (MD HM).pick [2, 3, 4, 6]⟩
    ·have c27b0 : decide (0 ≤ t395) = false := decide_eq_false c27
     clear c27
     have H' := Aside0.mk H
     clear H
     obtain ⟨z15_0, z15_1, z15_2, z15_3, z15_4, Z15_0, Z15_1, Z15_2, Z15_3, Z15_4⟩ := bk5 (HM.bx 0 rfl)
     go_wp2_with (first | ((with_reducible refine gC 79 rfl ?_); refine pC (some 27) rfl #[.agg #[.int .i64 a0_0, .int .i64 a0_1, .slice A0_2 l0_2.length c0_2, .slice A0_3 l0_3.length c0_3, .slice A0_4 l0_4.length c0_4]] rfl Try.func79 (impl_copyThree.calls a0_0 a0_1 _ _ l0_2 _ _ l0_3 _ _ l0_4 t380 t381 t382 t385 t388 _ (HM.came HR0_2.out) HC0_2.out (HM.came HR0_3.out) HC0_3.out (HM.came HR0_4.out) HC0_4.out A16.out) ?_; rintro e w17 ⟨v383, v386, v389, rfl, hR⟩; refine ⟨_, rfl, ?_⟩; replace HM := HM.call hR; clear hR) | ((with_reducible refine gN 9 rfl ?_); refine pB 9 71 [.int .i64 0, .int .i64 0, .slice none 0 0, .slice none 0 0, .slice none 0 0] HM rfl ?_; clear HM; intro gb391 w18 HM; obtain ⟨Xo19, ko19, eo19⟩ := HM.rdR 2 rfl; subst eo19; obtain ⟨Xo20, ko20, eo20⟩ := HM.rdR 3 rfl; subst eo20; obtain ⟨Xo21, ko21, eo21⟩ := HM.rdR 4 rfl; subst eo21) | ((with_reducible refine gS 9 rfl ?_); refine pS 5 9 0 [.int .i64 t380, .int .i64 t381, .slice Xo19 t382.length ko19, .slice Xo20 t385.length ko20, .slice Xo21 t388.length ko21] HM rfl rfl ?_; clear HM; intro w22 HM) | ((with_reducible refine gN 28 rfl ?_); refine pL 28 Kd.string 9 ([] : List ByteArray) [] (Reps.none _ _) HM rfl ?_; clear HM; intro v393 w23 HM; replace HM := HM.nm 6 rfl Ny392.out; obtain ⟨z24_0, z24_1, z24_2, z24_3, z24_4, Z24_0, Z24_1, Z24_2, Z24_3, Z24_4⟩ := bk5 (HM.bx 5 rfl)) | ((with_reducible refine gC 80 rfl ?_); refine pC (some 30) rfl #[.pointer (some ⟨gb391, 0, none⟩), .string a1] rfl Try.func80 (impl_Three_item.calls gb391 t380 t381 (.slice Xo21 t388.length ko21) Xo19 ko19 t382 Xo20 ko20 t385 a1 t395 _ (HM.CR 2 rfl).2.2 (HM.CR 2 rfl).2.1 (HM.CR 3 rfl).2.2 (HM.CR 3 rfl).2.1 (HM.bx 5 rfl) A25.out) ?_; rintro e w26 ⟨rfl, hb⟩; refine ⟨_, rfl, ?_⟩; replace HM := HM.below hb; clear hb; (first | rw [impl_Three_item.ptr_nil (by assumption)] | rw [impl_Three_item.ptr_small (by assumption) (by assumption)] | rw [impl_Three_item.ptr_main (by assumption) (by assumption)] | rw [impl_Three_item.ptr_nil' (by assumption)] | rw [impl_Three_item.ptr_small' (by assumption) (by assumption)] | rw [impl_Three_item.ptr_main' (by assumption) (by assumption)]); replace HM := HM.toQ 2 rfl; replace HM := HM.toQ 3 rfl; replace HM := HM.toQ 4 rfl))
     go_loopg [10] kj5 (fun kq v10 w' => ∃ (x10_2 : List ByteArray) (x392000_2 : Int) (x392001_2 : Int) (x392002_2 : List (S67)) (x392003_2 : List (S67)) (x392004_2 : List Int) (u392002 : Value) (u392003 : Value) (u392004 : Value), Aside0 (impl_Put.l0 kq a1 a2 x10_2 x392000_2 x392001_2 x392002_2 x392003_2 x392004_2 = some (r1, r2, r3, r4, r5, r6, r7)) ∧ Aside0 (kq ≤ kj5) ∧ Mem w [] w' [rowR Kd.string 9 v10 x10_2, row k67 67 u392002 x392002_2, row k67 67 u392003 x392003_2, row (Kd.int .i64) 3 u392004 x392004_2, box 71 gb376 [.int .i64 a0_0, .int .i64 a0_1, .slice A0_2 l0_2.length c0_2, .slice A0_3 l0_3.length c0_3, .slice A0_4 l0_4.length c0_4], box 71 gb377 [.int .i64 0, .int .i64 0, .slice none 0 0, .slice none 0 0, .slice none 0 0], box 71 gb391 [.int .i64 x392000_2, .int .i64 x392001_2, u392002, u392003, u392004]])
     case atStart => exact ⟨(y392), (t380), (t381), (t382), (t385), (t388), (.slice Xo19 t382.length ko19), (.slice Xo20 t385.length ko20), (.slice Xo21 t388.length ko21), H', ⟨Nat.le_refl _⟩, (MD HM).pick [6, 2, 3, 4, 0, 1, 5]⟩
     case round =>
      clear H' HM
      obtain ⟨x10_2, x392000_2, x392001_2, x392002_2, x392003_2, x392004_2, u392002, u392003, u392004, HA, HK2, HM⟩ := hrel
      cases gk with
      | zero => exact absurd HA.out (by simp [impl_Put.l0])
      | succ k2 =>
       have H := HA.out
       clear HA
       simp only [impl_Put.l0] at H
       replace H := IT H; rcases H with ⟨c54, H⟩ | ⟨c54, H⟩
       ·have c54b0 : decide (x392000_2 ≤ (wrap64 ((x392002_2.length : Int) + (x392003_2.length : Int)))) = true := decide_eq_true c54
        clear c54
        replace H := BN H; obtain ⟨⟨t400, t401, t402, t405, t408, t411, t412⟩, A55, H⟩ := H
        replace H := GD H; obtain ⟨c57, H⟩ := H
        have LMc57 := Aside0.mk c57
        clear c57
        have H' := Aside0.mk H
        clear H
        obtain ⟨z51_0, z51_1, z51_2, z51_3, z51_4, Z51_0, Z51_1, Z51_2, Z51_3, Z51_4⟩ := bk5 (HM.bx 6 rfl)
        obtain ⟨Xo52, ko52, eo52⟩ := HM.rd 1 rfl
        subst eo52
        obtain ⟨Xo53, ko53, eo53⟩ := HM.rd 2 rfl
        subst eo53
        go_wp2_with (first | ((with_reducible refine gC 81 rfl ?_); refine pC (some 59) rfl #[.pointer (some ⟨gb391, 0, none⟩)] rfl Try.func81 (impl_Three_evict.calls k2 gb391 x392000_2 x392001_2 (.slice Xo52 x392002_2.length ko52) x392002_2 (.slice Xo53 x392003_2.length ko53) x392003_2 u392004 x392004_2 t400 t401 t402 t405 t408 t411 t412 _ _ _ (HM.focus [0, 4, 5] [1, 2, 3, 6]) A55.out) ?_; rintro e w56 ⟨v403, v406, v409, rfl, hR⟩; refine ⟨_, rfl, ?_⟩; replace HM := nzM hR.unfocus; clear hR) | ((with_reducible refine gN 64 rfl ?_); refine pL 64 Kd.string 9 [t411] [.string t411] (Reps.one (show Kd.M Kd.string _ _ _ t411 [.string t411] from rfl) (Reps.none _ _)) HM rfl ?_; clear HM; intro v59 w58 HM; obtain ⟨Xv59, kv59, ev59⟩ := HM.rdR 7 rfl; subst ev59) | ((with_reducible refine gate_builtin (b := .append) (xs := #[.tmp 62, .tmp 64]) rfl ?_); refine pA 0 (.tmp 62) (.tmp 64) 23 9 Kd.string u10 x10_2 [t411] Xv59 ([t411].length) kv59 HM rfl Try.underlying23 info9 rfl (HM.CR 7 rfl).2.2 (by have h_ := LMc57.out; simp only [List.length_singleton]; omega) ?_; clear HM; intro v414 w60 HM))
        go_roundg k2
        case measure => have := HJ5.out; have := HK2.out; omega
        case rel => exact ⟨((x10_2 ++ [t411])), (t400), (t401), (t402), (t405), (t408), (v403), (v406), (v409), H', ⟨by have := HJ5.out; have := HK2.out; omega⟩, (MD HM).pick [0, 3, 4, 5, 1, 2, 6]⟩
       ·have c54b0 : decide (x392000_2 ≤ (wrap64 ((x392002_2.length : Int) + (x392003_2.length : Int)))) = false := decide_eq_false c54
        clear c54
        replace H := BN H; obtain ⟨t416, A61, H⟩ := H
        replace H := BN H; obtain ⟨t418, A67, H⟩ := H
        replace H := IB H
        rcases H with ⟨c70, H⟩ | ⟨c70, H⟩
        ·subst c70
         replace H := BN H; obtain ⟨t419, A72, H⟩ := H
         replace H := GD H; obtain ⟨c77, H⟩ := H
         have LMc77 := Aside0.mk c77
         clear c77
         replace H := BN H; obtain ⟨⟨t425, t426, t427, t430, t433⟩, A84, H⟩ := H
         simp only [Option.some.injEq, Prod.mk.injEq] at H
         obtain ⟨rfl, rfl, rfl, rfl, rfl, rfl, rfl⟩ := H
         obtain ⟨z51_0, z51_1, z51_2, z51_3, z51_4, Z51_0, Z51_1, Z51_2, Z51_3, Z51_4⟩ := bk5 (HM.bx 6 rfl)
         obtain ⟨Xo52, ko52, eo52⟩ := HM.rd 1 rfl
         subst eo52
         obtain ⟨Xo53, ko53, eo53⟩ := HM.rd 2 rfl
         subst eo53
         go_wp2_with (first | ((with_reducible refine gC 82 rfl ?_); refine pC (some 67) rfl #[.string a1] rfl Try.func82 (impl_Hash.calls k2 a1 t416 _ A61.out) ?_; rintro e w62 ⟨rfl, hd⟩; refine ⟨_, rfl, ?_⟩; replace HM := HM.drawn hd; clear hd) | ((with_reducible refine gN 14 rfl ?_); refine pB 14 3 [.int .i64 0] HM rfl ?_; clear HM; intro gb417 w63 HM) | ((with_reducible refine gS 14 rfl ?_); refine pS 7 14 0 [.int .i64 t416] HM rfl rfl ?_; clear HM; intro w64 HM; obtain ⟨z65_0, z65_1, z65_2, z65_3, z65_4, Z65_0, Z65_1, Z65_2, Z65_3, Z65_4⟩ := bk5 (HM.bx 6 rfl); obtain ⟨z66_0, Z66_0⟩ := bk1 (HM.bx 7 rfl); obtain ⟨Xo69, ko69, eo69⟩ := HM.rd 3 rfl; subst eo69) | ((with_reducible refine gC 76 rfl ?_); refine pC (some 71) rfl #[.slice Xo69 x392004_2.length ko69, .int .i64 t416] rfl Try.func76 (slices_Contains_int_int.calls k2 _ _ x392004_2 t416 true _ (HM.C 3 rfl).2.2 (HM.C 3 rfl).2.1 A67.out) ?_; rintro e w68 ⟨rfl, hd⟩; refine ⟨_, rfl, ?_⟩; replace HM := HM.drawn hd; clear hd; obtain ⟨z71_0, z71_1, z71_2, z71_3, z71_4, Z71_0, Z71_1, Z71_2, Z71_3, Z71_4⟩ := bk5 (HM.bx 6 rfl); obtain ⟨P_, hq_, hn_, fin_⟩ := HM.man 3 7 rfl rfl) | ((with_reducible refine gC 83 rfl ?_); refine pC (some 75) rfl #[.slice Xo69 x392004_2.length ko69, .func (.func 84) #[] #[.pointer (some ⟨gb417, 0, none⟩)]] rfl Try.func83 (slices_DeleteFunc_int_int.calls P_ (.slice Xo69 x392004_2.length ko69) x392004_2 84 Try.f84 gb417 t416 t419 (bare _) _ (bare_below _) hq_ (impl_Put.clo84 _ _) (HM.bx 7 rfl) hn_ A72.out) ?_; rintro e w73 ⟨v420, rfl, hQ_, hB_, hK_⟩; refine ⟨_, rfl, ?_⟩; replace HM := fin_ _ _ _ hQ_ hB_ hK_; clear hQ_ hB_ hK_ hq_ hn_ fin_ P_; obtain ⟨Xo74, ko74, eo74⟩ := HM.rd 3 rfl; subst eo74) | ((with_reducible refine gS 76 rfl ?_); refine pS 6 76 4 [.slice Xo74 t419.length ko74] HM rfl rfl ?_; clear HM; intro w75 HM; obtain ⟨z76_0, z76_1, z76_2, z76_3, z76_4, Z76_0, Z76_1, Z76_2, Z76_3, Z76_4⟩ := bk5 (HM.bx 6 rfl)) | ((with_reducible refine gN 82 rfl ?_); refine pL 82 k67 67 [(⟨a1, a2, 0⟩ : S67)] [.string a1, .string a2, .int .i64 0] (Reps.c3 (show Kd.M k67 _ _ _ (⟨a1, a2, 0⟩ : S67) [.string a1, .string a2, .int .i64 0] from (k67_mkM _ _ _ (⟨a1, a2, 0⟩ : S67))) (Reps.none _ _)) HM rfl ?_; clear HM; intro v79 w78 HM; obtain ⟨Xv79, kv79, ev79⟩ := HM.rdR 8 rfl; subst ev79) | ((with_reducible refine gate_builtin (b := .append) (xs := #[.tmp 78, .tmp 82]) rfl ?_); refine pAq 2 (.tmp 78) (.tmp 82) 68 67 k67 (.slice Xo53 x392003_2.length ko53) x392003_2 [(⟨a1, a2, 0⟩ : S67)] Xv79 ([(⟨a1, a2, 0⟩ : S67)].length) kv79 HM rfl Try.underlying68 info67 rfl (HM.CR 8 rfl).2.2 (by have h_ := LMc77.out; simp only [List.length_singleton]; omega) (by simp) ?_; clear HM; intro v423 w80 HM; obtain ⟨Xo81, ko81, eo81⟩ := HM.rd 2 rfl; subst eo81) | ((with_reducible refine gS 84 rfl ?_); refine pS 6 84 3 [.slice Xo81 (x392003_2 ++ [(⟨a1, a2, 0⟩ : S67)]).length ko81] HM rfl rfl ?_; clear HM; intro w82 HM; obtain ⟨z83_0, z83_1, z83_2, z83_3, z83_4, Z83_0, Z83_1, Z83_2, Z83_3, Z83_4⟩ := bk5 (HM.bx 6 rfl)) | ((with_reducible refine gC 79 rfl ?_); refine pC (some 94) rfl #[.agg #[.int .i64 x392000_2, .int .i64 x392001_2, .slice Xo52 x392002_2.length ko52, .slice Xo81 (x392003_2 ++ [(⟨a1, a2, 0⟩ : S67)]).length ko81, .slice Xo74 t419.length ko74]] rfl Try.func79 (impl_copyThree.calls x392000_2 x392001_2 _ _ x392002_2 _ _ (x392003_2 ++ [(⟨a1, a2, 0⟩ : S67)]) _ _ t419 t425 t426 t427 t430 t433 _ (HM.C 1 rfl).2.2 (HM.C 1 rfl).2.1 (HM.C 2 rfl).2.2 (HM.C 2 rfl).2.1 (HM.C 3 rfl).2.2 (HM.C 3 rfl).2.1 A84.out) ?_; rintro e w85 ⟨v428, v431, v434, rfl, hR⟩; refine ⟨_, rfl, ?_⟩; replace HM := HM.call hR; clear hR; obtain ⟨Xo86, ko86, eo86⟩ := HM.rdR 9 rfl; subst eo86; obtain ⟨Xo87, ko87, eo87⟩ := HM.rdR 10 rfl; subst eo87; obtain ⟨Xo88, ko88, eo88⟩ := HM.rdR 11 rfl; subst eo88) | ((with_reducible refine gS 6 rfl ?_); refine pS 5 6 0 [.int .i64 t425, .int .i64 t426, .slice Xo86 t427.length ko86, .slice Xo87 t430.length ko87, .slice Xo88 t433.length ko88] HM rfl rfl ?_; clear HM; intro w89 HM))
         refine bodyPost_ret (results_ctt rfl _ _ gb377 71 #[.int .i64 t425, .int .i64 t426, .slice Xo86 t427.length ko86, .slice Xo87 t430.length ko87, .slice Xo88 t433.length ko88] (0, 0) _ rfl (HM.bx 5 rfl) Try.underlying71 rfl (by kernel_rfl)) rfl ?_
         exact ⟨_, _, _, _, ER, (MD HM).pick [9, 10, 11, 0]⟩
        ·subst c70
         replace H := GD H; obtain ⟨c91, H⟩ := H
         have LMc91 := Aside0.mk c91
         clear c91
         replace H := BN H; obtain ⟨⟨t439, t440, t441, t444, t447⟩, A98, H⟩ := H
         simp only [Option.some.injEq, Prod.mk.injEq] at H
         obtain ⟨rfl, rfl, rfl, rfl, rfl, rfl, rfl⟩ := H
         obtain ⟨z51_0, z51_1, z51_2, z51_3, z51_4, Z51_0, Z51_1, Z51_2, Z51_3, Z51_4⟩ := bk5 (HM.bx 6 rfl)
         obtain ⟨Xo52, ko52, eo52⟩ := HM.rd 1 rfl
         subst eo52
         obtain ⟨Xo53, ko53, eo53⟩ := HM.rd 2 rfl
         subst eo53
         go_wp2_with (first | ((with_reducible refine gC 82 rfl ?_); refine pC (some 67) rfl #[.string a1] rfl Try.func82 (impl_Hash.calls k2 a1 t416 _ A61.out) ?_; rintro e w62 ⟨rfl, hd⟩; refine ⟨_, rfl, ?_⟩; replace HM := HM.drawn hd; clear hd) | ((with_reducible refine gN 14 rfl ?_); refine pB 14 3 [.int .i64 0] HM rfl ?_; clear HM; intro gb417 w63 HM) | ((with_reducible refine gS 14 rfl ?_); refine pS 7 14 0 [.int .i64 t416] HM rfl rfl ?_; clear HM; intro w64 HM; obtain ⟨z65_0, z65_1, z65_2, z65_3, z65_4, Z65_0, Z65_1, Z65_2, Z65_3, Z65_4⟩ := bk5 (HM.bx 6 rfl); obtain ⟨z66_0, Z66_0⟩ := bk1 (HM.bx 7 rfl); obtain ⟨Xo69, ko69, eo69⟩ := HM.rd 3 rfl; subst eo69) | ((with_reducible refine gC 76 rfl ?_); refine pC (some 71) rfl #[.slice Xo69 x392004_2.length ko69, .int .i64 t416] rfl Try.func76 (slices_Contains_int_int.calls k2 _ _ x392004_2 t416 false _ (HM.C 3 rfl).2.2 (HM.C 3 rfl).2.1 A67.out) ?_; rintro e w68 ⟨rfl, hd⟩; refine ⟨_, rfl, ?_⟩; replace HM := HM.drawn hd; clear hd; obtain ⟨z90_0, z90_1, z90_2, z90_3, z90_4, Z90_0, Z90_1, Z90_2, Z90_3, Z90_4⟩ := bk5 (HM.bx 6 rfl)) | ((with_reducible refine gN 90 rfl ?_); refine pL 90 k67 67 [(⟨a1, a2, 0⟩ : S67)] [.string a1, .string a2, .int .i64 0] (Reps.c3 (show Kd.M k67 _ _ _ (⟨a1, a2, 0⟩ : S67) [.string a1, .string a2, .int .i64 0] from (k67_mkM _ _ _ (⟨a1, a2, 0⟩ : S67))) (Reps.none _ _)) HM rfl ?_; clear HM; intro v93 w92 HM; obtain ⟨Xv93, kv93, ev93⟩ := HM.rdR 8 rfl; subst ev93) | ((with_reducible refine gate_builtin (b := .append) (xs := #[.tmp 86, .tmp 90]) rfl ?_); refine pAq 1 (.tmp 86) (.tmp 90) 68 67 k67 (.slice Xo52 x392002_2.length ko52) x392002_2 [(⟨a1, a2, 0⟩ : S67)] Xv93 ([(⟨a1, a2, 0⟩ : S67)].length) kv93 HM rfl Try.underlying68 info67 rfl (HM.CR 8 rfl).2.2 (by have h_ := LMc91.out; simp only [List.length_singleton]; omega) (by simp) ?_; clear HM; intro v437 w94 HM; obtain ⟨Xo95, ko95, eo95⟩ := HM.rd 1 rfl; subst eo95) | ((with_reducible refine gS 92 rfl ?_); refine pS 6 92 2 [.slice Xo95 (x392002_2 ++ [(⟨a1, a2, 0⟩ : S67)]).length ko95] HM rfl rfl ?_; clear HM; intro w96 HM; obtain ⟨z97_0, z97_1, z97_2, z97_3, z97_4, Z97_0, Z97_1, Z97_2, Z97_3, Z97_4⟩ := bk5 (HM.bx 6 rfl)) | ((with_reducible refine gC 79 rfl ?_); refine pC (some 94) rfl #[.agg #[.int .i64 x392000_2, .int .i64 x392001_2, .slice Xo95 (x392002_2 ++ [(⟨a1, a2, 0⟩ : S67)]).length ko95, .slice Xo53 x392003_2.length ko53, .slice Xo69 x392004_2.length ko69]] rfl Try.func79 (impl_copyThree.calls x392000_2 x392001_2 _ _ (x392002_2 ++ [(⟨a1, a2, 0⟩ : S67)]) _ _ x392003_2 _ _ x392004_2 t439 t440 t441 t444 t447 _ (HM.C 1 rfl).2.2 (HM.C 1 rfl).2.1 (HM.C 2 rfl).2.2 (HM.C 2 rfl).2.1 (HM.C 3 rfl).2.2 (HM.C 3 rfl).2.1 A98.out) ?_; rintro e w99 ⟨v442, v445, v448, rfl, hR⟩; refine ⟨_, rfl, ?_⟩; replace HM := HM.call hR; clear hR; obtain ⟨Xo100, ko100, eo100⟩ := HM.rdR 9 rfl; subst eo100; obtain ⟨Xo101, ko101, eo101⟩ := HM.rdR 10 rfl; subst eo101; obtain ⟨Xo102, ko102, eo102⟩ := HM.rdR 11 rfl; subst eo102) | ((with_reducible refine gS 6 rfl ?_); refine pS 5 6 0 [.int .i64 t439, .int .i64 t440, .slice Xo100 t441.length ko100, .slice Xo101 t444.length ko101, .slice Xo102 t447.length ko102] HM rfl rfl ?_; clear HM; intro w103 HM))
         refine bodyPost_ret (results_ctt rfl _ _ gb377 71 #[.int .i64 t439, .int .i64 t440, .slice Xo100 t441.length ko100, .slice Xo101 t444.length ko101, .slice Xo102 t447.length ko102] (0, 0) _ rfl (HM.bx 5 rfl) Try.underlying71 rfl (by kernel_rfl)) rfl ?_
         exact ⟨_, _, _, _, ER, (MD HM).pick [9, 10, 11, 0]⟩
def impl_copyRow.f (a0_0 : Int) (a0_1 : Int) (l0_2 : List (S67)) : Option (Int × Int × (List (S67))) := (impl_copyItems.f l0_2).bind fun t456 => (some (a0_0, a0_1, t456))
def impl_copyRow.T1 : Bool × List (List Nat × List Nat) := (true, [([], []), ([0], [0]), ([], []), ([2], [2]), ([], []), ([4], [4]), ([5], [5]), ([1, 3, 6], [1, 3, 6]), ([7, 6, 0, 1, 2, 3, 4, 5, 6, 7], [7])])
def impl_copyRow.B1 : List Nat := [0, 1, 0, 4, 0, 16, 48, 127, 255]
theorem impl_copyRow.tab1 : rtab .any (opsOf Try.f85 1) = impl_copyRow.T1 := by kernel_rfl
theorem impl_copyRow.bits1 : waitsOk impl_copyRow.T1.2 impl_copyRow.B1 = true := by kernel_rfl
set_option maxHeartbeats 8000000 in
set_option maxRecDepth 100000 in
theorem impl_copyRow.calls (a0_0 : Int) (a0_1 : Int) (A0_2 : Option Addr) (c0_2 : Nat) (l0_2 : List (S67)) (r1 : Int) (r2 : Int) (r3 : List (S67)) (w : World) (hr0_2 : Kd.C k67 w A0_2 l0_2.length l0_2) (hc0_2 : l0_2.length ≤ c0_2) (h : impl_copyRow.f a0_0 a0_1 l0_2 = some (r1, r2, r3)) :
  Calls Try.prog 85 #[.agg #[.int .i64 a0_0, .int .i64 a0_1, .slice A0_2 l0_2.length c0_2]] w fun e w' => ∃ v2_ : Value, e = .returned (.agg #[.int .i64 r1, .int .i64 r2, v2_]) ∧ Mem w [] w' [rowR k67 67 v2_ r3] := by
 have hu75 := Try.underlying75
 have HR0_2 := Aside0.mk hr0_2
 have HC0_2 := Aside0.mk hc0_2
 clear hr0_2 hc0_2
 have HM := Mem.nil w
 have H := h
 clear h
 unfold impl_copyRow.f at H
 go_enter Try.func85, Try.ntmps85
 try go_wp2_with (first | ((with_reducible refine gN 1 rfl ?_); refine pB 1 75 [.int .i64 a0_0, .int .i64 a0_1, .slice A0_2 l0_2.length c0_2] HM rfl ?_; clear HM; intro gb454 w2 HM) | ((with_reducible refine gN 2 rfl ?_); refine pB 2 75 [.int .i64 0, .int .i64 0, .slice none 0 0] HM rfl ?_; clear HM; intro gb455 w3 HM))
 replace H := BN H; obtain ⟨t456, A4, H⟩ := H
 refine RGN 9 [0, 1, 2, 3, 4, 5, 6, 7, 8] (fun a0 b a w' => ∃ (v457 : Value), a = putSel a0 b [(0, 3, .pointer (some ⟨gb454, 0, none⟩)), (1, 4, .int .i64 a0_0), (2, 5, .pointer (some ⟨gb454, 1, none⟩)), (3, 6, .int .i64 a0_1), (4, 7, .pointer (some ⟨gb454, 2, none⟩)), (5, 8, .slice A0_2 l0_2.length c0_2), (6, 9, v457), (7, 10, .agg #[.int .i64 a0_0, .int .i64 a0_1, v457])] ∧ Mem w [] w' [box 75 gb454 [.int .i64 a0_0, .int .i64 a0_1, .slice A0_2 l0_2.length c0_2], sel (b 8) (box 75 gb455 [.int .i64 a0_0, .int .i64 a0_1, v457]) (box 75 gb455 [.int .i64 0, .int .i64 0, .slice none 0 0]), sel (b 6) (rowR k67 67 v457 t456) (emp)]) impl_copyRow.tab1 impl_copyRow.bits1 ?_ ?_ ?_
 ·exact ⟨.bool false, PS0' rfl _, (HM.drew.ems 1).pick [0, 1, 2]⟩
 ·clear HM
  refine steps_cons ?_ ?_
  ·rintro b a w ⟨v457, ha, HM⟩ hb hon hoff
   refine ⟨_, rfl, fun K hK => ?_⟩
   replace ha := Aside0.mk ha
   have e1 := PG ha 1
   exact VL (.pointer (some ⟨gb454, 0, none⟩)) (hK.out _ _ ⟨v457, PUT ha 0 hb, HM⟩)
  refine steps_cons ?_ ?_
  ·rintro b a w ⟨v457, ha, HM⟩ hb hon hoff
   refine ⟨_, rfl, fun K hK => ?_⟩
   replace ha := Aside0.mk ha
   obtain ⟨z12_0, z12_1, z12_2, Z12_0, Z12_1, Z12_2⟩ := bk3 (HM.bx 0 rfl)
   have e3 := PE ha 0 hon
   exact VL (.int .i64 a0_0) (hK.out _ _ ⟨v457, PUT ha 1 hb, HM⟩)
  refine steps_cons ?_ ?_
  ·rintro b a w ⟨v457, ha, HM⟩ hb hon hoff
   refine ⟨_, rfl, fun K hK => ?_⟩
   replace ha := Aside0.mk ha
   have e1 := PG ha 1
   exact VL (.pointer (some ⟨gb454, 1, none⟩)) (hK.out _ _ ⟨v457, PUT ha 2 hb, HM⟩)
  refine steps_cons ?_ ?_
  ·rintro b a w ⟨v457, ha, HM⟩ hb hon hoff
   refine ⟨_, rfl, fun K hK => ?_⟩
   replace ha := Aside0.mk ha
   obtain ⟨z13_0, z13_1, z13_2, Z13_0, Z13_1, Z13_2⟩ := bk3 (HM.bx 0 rfl)
   have e5 := PE ha 2 hon
   exact VL (.int .i64 a0_1) (hK.out _ _ ⟨v457, PUT ha 3 hb, HM⟩)
  refine steps_cons ?_ ?_
  ·rintro b a w ⟨v457, ha, HM⟩ hb hon hoff
   refine ⟨_, rfl, fun K hK => ?_⟩
   replace ha := Aside0.mk ha
   have e1 := PG ha 1
   exact VL (.pointer (some ⟨gb454, 2, none⟩)) (hK.out _ _ ⟨v457, PUT ha 4 hb, HM⟩)
  refine steps_cons ?_ ?_
  ·rintro b a w ⟨v457, ha, HM⟩ hb hon hoff
   refine ⟨_, rfl, fun K hK => ?_⟩
   replace ha := Aside0.mk ha
   obtain ⟨z14_0, z14_1, z14_2, Z14_0, Z14_1, Z14_2⟩ := bk3 (HM.bx 0 rfl)
   have e7 := PE ha 4 hon
   exact VL (.slice A0_2 l0_2.length c0_2) (hK.out _ _ ⟨v457, PUT ha 5 hb, HM⟩)
  refine steps_cons ?_ ?_
  ·rintro b a w ⟨v457, ha, HM⟩ hb hon hoff
   refine ⟨_, rfl, fun K hK => ?_⟩
   replace ha := Aside0.mk ha
   have e8 := PE ha 5 hon
   refine ST (eC (some 9) rfl #[.slice A0_2 l0_2.length c0_2] rfl Try.func77 (impl_copyItems.calls _ _ l0_2 t456 _ (HM.came HR0_2.out) HC0_2.out A4.out) ?_ (hargs := by (simp only [List.map_toArray, List.map_cons, List.map_nil, evc, eval_of e8]) <;> rfl))
   rintro e w15 ⟨v457, rfl, hR⟩
   refine ⟨_, rfl, ?_⟩
   replace HM := HM.call hR
   clear hR
   exact hK.out _ _ ⟨v457, PUT (PCH ha 7 (hoff 7 (by kernel_rfl))) 6 hb, ((HM.sF 1 rfl (hoff 8 (by kernel_rfl))).iF 1 rfl (hoff 8 (by kernel_rfl))).pick [0, 1, 3]⟩
  refine steps_cons ?_ ?_
  ·rintro b a w ⟨v457, ha, HM⟩ hb hon hoff
   refine ⟨_, rfl, fun K hK => ?_⟩
   replace ha := Aside0.mk ha
   have HZ := HM
   replace HM := HM.sT 2 rfl (hon 6 (by kernel_rfl))
   obtain ⟨Xo16, ko16, eo16⟩ := HM.rdR 2 rfl
   subst eo16
   have e4 := PE ha 1 hon
   have e6 := PE ha 3 hon
   have e9 := PE ha 6 hon
   exact VL (.agg #[.int .i64 a0_0, .int .i64 a0_1, .slice Xo16 t456.length ko16]) (hK.out _ _ ⟨.slice Xo16 t456.length ko16, PUT ha 7 hb, HZ⟩)
  refine steps_cons ?_ ?_
  ·rintro b a w ⟨v457, ha, HM⟩ hb hon hoff
   refine ⟨_, rfl, fun K hK => ?_⟩
   replace ha := Aside0.mk ha
   replace HM := HM.sF 1 rfl hb
   replace HM := HM.sT 2 rfl (hon 6 (by kernel_rfl))
   obtain ⟨Xo17, ko17, eo17⟩ := HM.rdR 2 rfl
   subst eo17
   have e2 := PG ha 2
   have e10 := PE ha 7 hon
   refine ST (eS 1 2 0 [.int .i64 a0_0, .int .i64 a0_1, .slice Xo17 t456.length ko17] HM rfl rfl ?_ (hp := (eval_of e2)) (hx := (by rw [eval_of e10]; rfl)))
   clear HM
   intro w18 HM
   exact hK.out _ _ ⟨.slice Xo17 t456.length ko17, PUS ha, (HM.iT 2 rfl (hon 6 (by kernel_rfl))).pick [0, 1, 2]⟩
  exact steps_nil
 rintro _ w19 ⟨v457, rfl, HM⟩
 replace HM := HM.sT 1 rfl rfl
 replace HM := HM.sT 2 rfl rfl
 simp only [putSel, if_true, Act.put, List.setIfInBounds_toArray, List.set_cons_zero, List.set_cons_succ, gt_iff_lt, ge_iff_le]
 simp only [Option.some.injEq, Prod.mk.injEq] at H
 obtain ⟨rfl, rfl, rfl⟩ := H
 go_wp2
 refine bodyPost_ret (results_cell_row rfl _ _ gb455 75 #[.int .i64 a0_0, .int .i64 a0_1, v457] (0, 0) _ rfl (HM.bx 1 rfl) Try.underlying75 rfl (by kernel_rfl)) rfl ?_
 exact ⟨_, ER, (MD HM).pick [2]⟩
end Go.Proofs.Ytlokjgngjgbpmaa.G

namespace Go.Proofs.Ytlokjgngjgbpmaa.G
open Go.RowKit Go.Proofs.YtlokjgngjgbpmaaW.PrintWords Go.Proofs.YtlokjgngjgbpmaaW.PrintLast Go.Proofs.YtlokjgngjgbpmaaW.PrintMore Go.Proofs.Ytlokjgngjgbpmaa.Sh
attribute [local go_sem] max2_int min2_int max_two min_two max_three min_three max_four min_four
set_option linter.unusedVariables false
set_option linter.unusedSimpArgs false
open Go.Proofs.Ytlokjgngjgbpmaa.Man
def slices_Delete_impl_Item_impl_Item.f (l0 : List S67) (a1 : Int) (a2 : Int) : Option (List S67) := if 0 ≤ a1 ∧ a1 < (l0.length : Int) ∧ a2 = a1 + 1 then some (l0.eraseIdx a1.toNat) else none
set_option maxHeartbeats 4000000 in
set_option maxRecDepth 100000 in
theorem slices_Delete_impl_Item_impl_Item.calls (P0_ : Nat → Prop) (u9000_ : Value) (l0 : List S67) (a1 : Int) (a2 : Int) (r : List S67) (w0 w : World) (hB : Below w0.heap.size w0 w) (ho0 : Kd.R k67 67 w w0.heap.size P0_ u9000_ l0) (h : slices_Delete_impl_Item_impl_Item.f l0 a1 a2 = some r) :
  Calls Try.prog 103 #[u9000_, .int .i64 a1, .int .i64 a2] w fun e w' => ∃ v0_ : Value, e = .returned v0_ ∧ Kd.R k67 67 w' w0.heap.size (fun k_ => (P0_ k_ ∨ w.heap.size ≤ k_)) v0_ r ∧ Below w0.heap.size w0 w' ∧ Kept w w' (fun k_ => P0_ k_) := by
 unfold slices_Delete_impl_Item_impl_Item.f at h
 by_cases c : 0 ≤ a1 ∧ a1 < (l0.length : Int) ∧ a2 = a1 + 1
 ·rw [if_pos c] at h
  obtain rfl := Option.some.inj h
  obtain ⟨c0, c1, rfl⟩ := c
  clear h
  obtain ⟨n, rfl⟩ := Int.eq_ofNat_of_zero_le c0
  have hn : n < l0.length := by omega
  obtain ⟨g, cap, rfl, gb, gl, cl, HG⟩ := Kd.R_form ho0 (by omega)
  obtain ⟨_, hlc, hC⟩ := Kd.R_reads' ho0
  have hL : l0.length ≤ 9223372036854775807 := hC.2.1
  clear hC
  have e1 : IntKind.i64.wrap ((n : Int) + 1) = (n : Int) + 1 := by exact (i64_w _).trans (by unfold wrap64; omega)
  have HO := Aside0.mk ho0
  have HBW := Aside0.mk hB
  have HGB := Aside0.mk gb
  have HGL := Aside0.mk gl
  have HN := Aside0.mk hn
  have b1 : (n : Int) + 1 ≤ (l0.length : Int) := by omega
  have b2 : (l0.length : Int) ≤ (cap : Int) := by omega
  have b3 : (n : Int) ≤ (l0.length : Int) := by omega
  have b4 : (n : Int) ≤ (cap : Int) := by omega
  have b5 : (n : Int) + 1 ≤ (cap : Int) := by omega
  have b6 : (n : Int) ≤ (n : Int) + 1 := by omega
  have b7 : (0 : Int) ≤ (n : Int) + 1 := by omega
  have e2 : ((n : Int) == (n : Int) + 1) = false := by rw [beq_eq_false_iff_ne]; omega
  by_cases hcn : cap = n + 1
  ·subst hcn
   have HS := Aside0.mk (show w0.heap.size ≤ w.drew.heap.size from hB.size)
   clear hn ho0 hB gb gl HG hL hlc c1 e1
   go_enter Try.func103, Try.ntmps103
   go_wp2
   go_region_law (refine Kd.R_delete_step k67 (w0 := w0) w0.heap.size rfl (.tmp 22) (.tmp 25) 68 67 rfl Try.underlying68 (by kernel_rfl) (by rfl) (by rfl) ((if_pos rfl).symm) (by rfl) (Kd.R_drew HO.out) HN.out (below_drew1 HBW.out) HS.out ?_; intro w1 hr hb hg)
   have HR := Aside0.mk hr
   have HB2 := Aside0.mk hb
   have HG2 := Aside0.mk hg
   clear hr hb hg
   obtain ⟨w2, hrun, hr2, hg2⟩ := R_clear_run (P := Try.prog) k67 w0.heap.size 68 0 67 (.agg #[(.string ⟨#[]⟩), (.string ⟨#[]⟩), (.int .i64 0)]) Try.underlying68 Try.zeroValue67 rfl (by decide) HR.out (m := l0.length - (l0.length - 1)) (by have := HN.out; omega) (by have := HN.out; omega) ((n + 1) - (l0.length - 1))
   have HR2 := Aside0.mk hr2
   have HG3 := Aside0.mk hg2
   clear hr2 hg2
   (try rw [show (l0.length - 1) * Kd.sz k67 = l0.length - 1 from Nat.mul_one _] at hrun)
   change Sem.run _ (Builtin.clear_ #[68] 0 #[.slice (some ⟨g, (l0.length - 1) * 3, none⟩) (l0.length - (l0.length - 1)) ((n + 1) - (l0.length - 1))]) w1 = _ at hrun
   go_wp2
   go_ret
   have hgw : w.grownBy w2 (some g) := World.grownBy.trans (World.grownBy.trans (show w.grownBy w.drew (some g) from ⟨rfl, rfl, rfl, Nat.le_refl _, fun _ _ _ => rfl⟩) HG2.out) HG3.out
   refine ⟨_, rfl, Kd.R_mono HR2.out (fun _ h => Or.inl h), HB2.out.grown HG3.out ?_ (fun k hk => by injection hk with hk; subst hk; exact HGB.out), Kept.of_grown hgw (Kept.refl _ _) (fun k hk => by injection hk with hk; subst hk; exact .inl (HO.out.1 _ rfl))⟩
   exact HB2.out.size
  ·have hcn' : (cap == n + 1) = false := by rw [beq_eq_false_iff_ne]; exact hcn
   have HA := Aside0.mk (show some ⟨g, (n + 1) * 3, none⟩ = (if cap = n + 1 then some (⟨g, 0, none⟩ : Addr) else (some (⟨g, 0, none⟩ : Addr)).map (·.add ((n + 1) * k67.sz))) from by rw [if_neg hcn, Option.map_some, add_plain]; first | rfl | rw [show (n + 1) * Kd.sz _ = n + 1 from Nat.mul_one _])
   have HS := Aside0.mk (show w0.heap.size ≤ w.drew.heap.size from hB.size)
   clear hn ho0 hB gb gl HG hL hlc c1 e1
   go_enter Try.func103, Try.ntmps103
   go_wp2
   go_region_law (refine Kd.R_delete_step k67 (w0 := w0) w0.heap.size rfl (.tmp 22) (.tmp 25) 68 67 rfl Try.underlying68 (by kernel_rfl) (by rfl) (by rfl) HA.out (by rfl) (Kd.R_drew HO.out) HN.out (below_drew1 HBW.out) HS.out ?_; intro w1 hr hb hg)
   have HR := Aside0.mk hr
   have HB2 := Aside0.mk hb
   have HG2 := Aside0.mk hg
   clear hr hb hg
   obtain ⟨w2, hrun, hr2, hg2⟩ := R_clear_run (P := Try.prog) k67 w0.heap.size 68 0 67 (.agg #[(.string ⟨#[]⟩), (.string ⟨#[]⟩), (.int .i64 0)]) Try.underlying68 Try.zeroValue67 rfl (by decide) HR.out (m := l0.length - (l0.length - 1)) (by have := HN.out; omega) (by have := HN.out; omega) (cap - (l0.length - 1))
   have HR2 := Aside0.mk hr2
   have HG3 := Aside0.mk hg2
   clear hr2 hg2
   (try rw [show (l0.length - 1) * Kd.sz k67 = l0.length - 1 from Nat.mul_one _] at hrun)
   change Sem.run _ (Builtin.clear_ #[68] 0 #[.slice (some ⟨g, (l0.length - 1) * 3, none⟩) (l0.length - (l0.length - 1)) (cap - (l0.length - 1))]) w1 = _ at hrun
   go_wp2
   go_ret
   have hgw : w.grownBy w2 (some g) := World.grownBy.trans (World.grownBy.trans (show w.grownBy w.drew (some g) from ⟨rfl, rfl, rfl, Nat.le_refl _, fun _ _ _ => rfl⟩) HG2.out) HG3.out
   refine ⟨_, rfl, Kd.R_mono HR2.out (fun _ h => Or.inl h), HB2.out.grown HG3.out ?_ (fun k hk => by injection hk with hk; subst hk; exact HGB.out), Kept.of_grown hgw (Kept.refl _ _) (fun k hk => by injection hk with hk; subst hk; exact .inl (HO.out.1 _ rfl))⟩
   exact HB2.out.size
 ·rw [if_neg c] at h; cases h
end Go.Proofs.Ytlokjgngjgbpmaa.G

namespace Go.Proofs.Ytlokjgngjgbpmaa.G
open Go.RowKit Go.Proofs.YtlokjgngjgbpmaaW.PrintWords Go.Proofs.YtlokjgngjgbpmaaW.PrintLast Go.Proofs.YtlokjgngjgbpmaaW.PrintMore Go.Proofs.Ytlokjgngjgbpmaa.Sh
attribute [local go_sem] max2_int min2_int max_two min_two max_three min_three max_four min_four
set_option linter.unusedVariables false
set_option linter.unusedSimpArgs false
open Go.Proofs.Ytlokjgngjgbpmaa.Mm
def impl_Row_asked.f (a0_0 : Int) (a0_1 : Int) (l0_2 : List (S67)) (a1 : Int) : Option (Int × Int × (List (S67))) := if a0_0 = 2 then (if 0 ≤ a1 then (if a1 < (l0_2.length : Int) then ((slices_Delete_impl_Item_impl_Item.f l0_2 a1 (wrap64 (a1 + 1))).bind fun t462 => (if t462.length < 3518437208883 then (some (a0_0, a0_1, (t462 ++ [(⟨(rd_T67 l0_2 a1).f0, (rd_T67 l0_2 a1).f1, (rd_T67 l0_2 a1).f2⟩ : S67)]))) else (none))) else (none)) else (none)) else (if a0_0 = 3 then (if 0 ≤ a1 then (if a1 < (l0_2.length : Int) then (some (a0_0, a0_1, (l0_2.set (a1 : Int).toNat (⟨(rd_T67 l0_2 a1).f0, (rd_T67 l0_2 a1).f1, 1⟩ : S67)))) else (none)) else (none)) else (some (a0_0, a0_1, l0_2)))
def impl_Row_asked.T3 : Bool × List (List Nat × List Nat) := (true, [([], []), ([], []), ([1], [1]), ([2], [2]), ([3], [3]), ([], []), ([], []), ([6], [6]), ([4, 5, 7], [4, 5, 7]), ([], []), ([9], [9]), ([8, 10, 8], [8, 10]), ([0, 0, 1, 2, 3, 4, 5, 6, 7, 8, 9, 10, 11], [0]), ([12, 0, 1, 2, 3, 4, 5, 6, 7, 8, 9, 10, 11], [12]), ([13, 11, 11, 0, 1, 2, 3, 4, 5, 6, 7, 8, 9, 10, 11], [11, 13])])
def impl_Row_asked.B3 : List Nat := [0, 0, 2, 6, 14, 0, 0, 64, 254, 0, 512, 2046, 4095, 8191, 16383]
theorem impl_Row_asked.tab3 : rtab .any (opsOf Try.f87 3) = impl_Row_asked.T3 := by kernel_rfl
theorem impl_Row_asked.bits3 : waitsOk impl_Row_asked.T3.2 impl_Row_asked.B3 = true := by kernel_rfl
set_option maxHeartbeats 8000000 in
set_option maxRecDepth 100000 in
theorem impl_Row_asked.calls (g : Nat) (a0_0 : Int) (a0_1 : Int) (u9000_ : Value) (l0_2 : List (S67)) (a1 : Int) (r1 : Int) (r2 : Int) (r3 : List (S67)) (w0 w : World) (F : List SP)  (hM : Mem w0 F w [rowR k67 67 u9000_ l0_2, box 75 g [.int .i64 a0_0, .int .i64 a0_1, u9000_]]) (h : impl_Row_asked.f a0_0 a0_1 l0_2 a1 = some (r1, r2, r3)) :
  Calls Try.prog 87 #[.pointer (some ⟨g, 0, none⟩), .int .i64 a1] w fun e w' => ∃ v2_ : Value, e = .returned (.tuple #[]) ∧ Mem w0 F w' [rowR k67 67 v2_ r3, box 75 g [.int .i64 r1, .int .i64 r2, v2_]] := by
 have hu67 := Try.underlying67
 have HM := hM
 clear hM
 have H := h
 clear h
 unfold impl_Row_asked.f at H
 go_enter Try.func87, Try.ntmps87
 obtain ⟨z3_0, z3_1, z3_2, Z3_0, Z3_1, Z3_2⟩ := bk3 (HM.bx 1 rfl)
 go_upto_if 9 with (fail)
 replace H := IT H; rcases H with ⟨c4, H⟩ | ⟨c4, H⟩
 ·have c4b0 : (a0_0 == 2) = true := beq_iff_eq.mpr c4
  have c4b1 : (a0_0 != 2) = false := bne_eq_false_iff_eq.mpr c4
  clear c4
  (first | rw [c4b0] | (simp only [i64_w, i32_w]; rw [c4b0]) | skip)
  replace H := GD H; obtain ⟨c5, H⟩ := H
  have c5b0 : decide (0 ≤ a1) = true := decide_eq_true c5
  clear c5
  replace H := GD H; obtain ⟨c6, H⟩ := H
  have c6b0 : decide (a1 < (l0_2.length : Int)) = true := decide_eq_true c6
  clear c6
  obtain ⟨Xo7, ko7, eo7⟩ := HM.rdR 0 rfl
  subst eo7
  have p460 : 0 ≤ (a1 : Int) := of_decide_eq_true AS
  have q460 : (a1 : Int) < (l0_2.length : Int) := of_decide_eq_true AS
  obtain ⟨ad460, e460, hx460_0, hx460_1, hx460_2⟩ := at_T67 (HM.CR 0 rfl).2.2 a1 p460 q460
  cases e460
  replace p460 := eq_true p460
  replace q460 := eq_true q460
  try go_wp2_with (first | ((with_reducible refine gN 4 rfl ?_); refine pB 4 67 [.string (⟨#[]⟩ : ByteArray), .string (⟨#[]⟩ : ByteArray), .int .i64 0] HM rfl ?_; clear HM; intro gb461 w8 HM) | ((with_reducible refine gS 4 rfl ?_); refine pS 2 4 0 [.string ((rd_T67 l0_2 a1).f0), .string ((rd_T67 l0_2 a1).f1), .int .i64 ((rd_T67 l0_2 a1).f2)] HM rfl rfl ?_; clear HM; intro w9 HM))
  replace H := BN H; obtain ⟨t462, A10, H⟩ := H
  replace H := GD H; obtain ⟨c11, H⟩ := H
  have LMc11 := Aside0.mk c11
  clear c11
  refine RGN 15 [0, 1, 2, 3, 4, 5, 6, 7, 8, 9, 10, 11, 12, 13, 14] (fun a0 b a w' => ∃ (v463 : Value) (v16 : Value) (v466 : Value), a = putSel a0 b [(0, 18, .pointer (some ⟨g, 0, none⟩)), (1, 19, .pointer (some ⟨g, 0, none⟩)), (2, 20, .pointer (some ⟨g, 0, none⟩)), (3, 21, .pointer (some ⟨g, 2, none⟩)), (4, 22, .slice (some ad460) l0_2.length ko7), (5, 23, .int .i64 a1), (6, 24, .int .i64 a1), (7, 25, .int .i64 (wrap64 (a1 + 1))), (8, 26, v463), (9, 27, .agg #[.string ((rd_T67 l0_2 a1).f0), .string ((rd_T67 l0_2 a1).f1), .int .i64 ((rd_T67 l0_2 a1).f2)]), (10, 28, v16), (11, 29, v466), (12, 30, .pointer (some ⟨g, 0, none⟩)), (13, 31, .pointer (some ⟨g, 2, none⟩))] ∧ Mem w0 F w' [sel (b 11) (rowR k67 67 v466 (t462 ++ [(⟨(rd_T67 l0_2 a1).f0, (rd_T67 l0_2 a1).f1, (rd_T67 l0_2 a1).f2⟩ : S67)])) (sel (b 8) (rowR k67 67 v463 t462) (rowR k67 67 (.slice (some ad460) l0_2.length ko7) l0_2)), sel (b 14) (box 75 g [.int .i64 a0_0, .int .i64 a0_1, v466]) (box 75 g [.int .i64 a0_0, .int .i64 a0_1, .slice (some ad460) l0_2.length ko7]), box 67 gb461 [.string ((rd_T67 l0_2 a1).f0), .string ((rd_T67 l0_2 a1).f1), .int .i64 ((rd_T67 l0_2 a1).f2)], sel (b 10) (rowR k67 67 v16 [(⟨(rd_T67 l0_2 a1).f0, (rd_T67 l0_2 a1).f1, (rd_T67 l0_2 a1).f2⟩ : S67)]) (emp)]) impl_Row_asked.tab3 impl_Row_asked.bits3 ?_ ?_ ?_
  ·exact ⟨.bool false, .bool false, .bool false, PS0' rfl _, (HM.drew.ems 1).pick [0, 1, 2, 3]⟩
  ·clear HM
   refine steps_cons ?_ ?_
   ·rintro b a w ⟨v463, v16, v466, ha, HM⟩ hb hon hoff
    refine ⟨_, rfl, fun K hK => ?_⟩
    replace ha := Aside0.mk ha
    have e0 := PG ha 0
    exact VL (.pointer (some ⟨g, 0, none⟩)) (hK.out _ _ ⟨v463, v16, v466, PUT ha 0 hb, HM⟩)
   refine steps_cons ?_ ?_
   ·rintro b a w ⟨v463, v16, v466, ha, HM⟩ hb hon hoff
    refine ⟨_, rfl, fun K hK => ?_⟩
    replace ha := Aside0.mk ha
    have e0 := PG ha 0
    exact VL (.pointer (some ⟨g, 0, none⟩)) (hK.out _ _ ⟨v463, v16, v466, PUT ha 1 hb, HM⟩)
   refine steps_cons ?_ ?_
   ·rintro b a w ⟨v463, v16, v466, ha, HM⟩ hb hon hoff
    refine ⟨_, rfl, fun K hK => ?_⟩
    replace ha := Aside0.mk ha
    have e19 := PE ha 1 hon
    exact VL (.pointer (some ⟨g, 0, none⟩)) (hK.out _ _ ⟨v463, v16, v466, PUT ha 2 hb, HM⟩)
   refine steps_cons ?_ ?_
   ·rintro b a w ⟨v463, v16, v466, ha, HM⟩ hb hon hoff
    refine ⟨_, rfl, fun K hK => ?_⟩
    replace ha := Aside0.mk ha
    have e20 := PE ha 2 hon
    exact VL (.pointer (some ⟨g, 2, none⟩)) (hK.out _ _ ⟨v463, v16, v466, PUT ha 3 hb, HM⟩)
   refine steps_cons ?_ ?_
   ·rintro b a w ⟨v463, v16, v466, ha, HM⟩ hb hon hoff
    refine ⟨_, rfl, fun K hK => ?_⟩
    replace ha := Aside0.mk ha
    have HZ := HM
    replace HM := HM.sF 1 rfl (hoff 14 (by kernel_rfl))
    obtain ⟨z21_0, z21_1, z21_2, Z21_0, Z21_1, Z21_2⟩ := bk3 (HM.bx 1 rfl)
    have e21 := PE ha 3 hon
    exact VL (.slice (some ad460) l0_2.length ko7) (hK.out _ _ ⟨v463, v16, v466, PUT ha 4 hb, HZ⟩)
   refine steps_cons ?_ ?_
   ·rintro b a w ⟨v463, v16, v466, ha, HM⟩ hb hon hoff
    refine ⟨_, rfl, fun K hK => ?_⟩
    replace ha := Aside0.mk ha
    have e1 := PG ha 1
    exact VL (.int .i64 a1) (hK.out _ _ ⟨v463, v16, v466, PUT ha 5 hb, HM⟩)
   refine steps_cons ?_ ?_
   ·rintro b a w ⟨v463, v16, v466, ha, HM⟩ hb hon hoff
    refine ⟨_, rfl, fun K hK => ?_⟩
    replace ha := Aside0.mk ha
    have e1 := PG ha 1
    exact VL (.int .i64 a1) (hK.out _ _ ⟨v463, v16, v466, PUT ha 6 hb, HM⟩)
   refine steps_cons ?_ ?_
   ·rintro b a w ⟨v463, v16, v466, ha, HM⟩ hb hon hoff
    refine ⟨_, rfl, fun K hK => ?_⟩
    replace ha := Aside0.mk ha
    have e24 := PE ha 6 hon
    exact VL (.int .i64 (wrap64 (a1 + 1))) (hK.out _ _ ⟨v463, v16, v466, PUT ha 7 hb, HM⟩)
   refine steps_cons ?_ ?_
   ·rintro b a w ⟨v463, v16, v466, ha, HM⟩ hb hon hoff
    refine ⟨_, rfl, fun K hK => ?_⟩
    replace ha := Aside0.mk ha
    replace HM := (HM.sF 0 rfl (hoff 11 (by kernel_rfl))).sF 0 rfl hb
    obtain ⟨P_, hq_, fin_⟩ := HM.man1R 0 rfl
    have e22 := PE ha 4 hon
    have e23 := PE ha 5 hon
    have e25 := PE ha 7 hon
    refine ST (eC (some 26) rfl #[.slice (some ad460) l0_2.length ko7, .int .i64 a1, .int .i64 (wrap64 (a1 + 1))] rfl Try.func103 (slices_Delete_impl_Item_impl_Item.calls P_ (.slice (some ad460) l0_2.length ko7) l0_2 a1 (wrap64 (a1 + 1)) t462 (bare _) _ (bare_below _) hq_ A10.out) ?_ (hargs := by (simp only [List.map_toArray, List.map_cons, List.map_nil, evc, eval_of e22, eval_of e23, eval_of e25]) <;> rfl))
    rintro e w22 ⟨v463, rfl, hQ_, hB_, hK_⟩
    refine ⟨_, rfl, ?_⟩
    replace HM := fin_ _ _ _ hQ_ hB_ hK_
    clear hQ_ hB_ hK_ hq_ fin_ P_
    exact hK.out _ _ ⟨v463, v16, v466, PUT ha 8 hb, (HM.iF 0 rfl (hoff 11 (by kernel_rfl))).pick [0, 1, 2, 3]⟩
   refine steps_cons ?_ ?_
   ·rintro b a w ⟨v463, v16, v466, ha, HM⟩ hb hon hoff
    refine ⟨_, rfl, fun K hK => ?_⟩
    replace ha := Aside0.mk ha
    obtain ⟨z23_0, z23_1, z23_2, Z23_0, Z23_1, Z23_2⟩ := bk3 (HM.bx 2 rfl)
    have e4 := PG ha 4
    exact VL (.agg #[.string ((rd_T67 l0_2 a1).f0), .string ((rd_T67 l0_2 a1).f1), .int .i64 ((rd_T67 l0_2 a1).f2)]) (hK.out _ _ ⟨v463, v16, v466, PUT ha 9 hb, HM⟩)
   refine steps_cons ?_ ?_
   ·rintro b a w ⟨v463, v16, v466, ha, HM⟩ hb hon hoff
    refine ⟨_, rfl, fun K hK => ?_⟩
    replace ha := Aside0.mk ha
    have e27 := PE ha 9 hon
    refine ST (eL 28 k67 67 [(⟨(rd_T67 l0_2 a1).f0, (rd_T67 l0_2 a1).f1, (rd_T67 l0_2 a1).f2⟩ : S67)] [.string ((rd_T67 l0_2 a1).f0), .string ((rd_T67 l0_2 a1).f1), .int .i64 ((rd_T67 l0_2 a1).f2)] (Reps.c3 (show Kd.M k67 _ _ _ (⟨(rd_T67 l0_2 a1).f0, (rd_T67 l0_2 a1).f1, (rd_T67 l0_2 a1).f2⟩ : S67) [.string ((rd_T67 l0_2 a1).f0), .string ((rd_T67 l0_2 a1).f1), .int .i64 ((rd_T67 l0_2 a1).f2)] from (k67_mkM _ _ _ (⟨(rd_T67 l0_2 a1).f0, (rd_T67 l0_2 a1).f1, (rd_T67 l0_2 a1).f2⟩ : S67))) (Reps.none _ _)) HM rfl ?_)
    clear HM
    intro v16 w24 HM
    exact hK.out _ _ ⟨v463, v16, v466, PUT ha 10 hb, (HM).pick [0, 1, 2, 4]⟩
   refine steps_cons ?_ ?_
   ·rintro b a w ⟨v463, v16, v466, ha, HM⟩ hb hon hoff
    refine ⟨_, rfl, fun K hK => ?_⟩
    replace ha := Aside0.mk ha
    replace HM := (HM.sF 0 rfl hb).sT 0 rfl (hon 8 (by kernel_rfl))
    replace HM := HM.sT 3 rfl (hon 10 (by kernel_rfl))
    obtain ⟨Xo25, ko25, eo25⟩ := HM.rdR 3 rfl
    subst eo25
    have e26 := PE ha 8 hon
    have e28 := PE ha 10 hon
    refine ST (eA 0 (.tmp 26) (.tmp 28) 68 67 k67 v463 t462 [(⟨(rd_T67 l0_2 a1).f0, (rd_T67 l0_2 a1).f1, (rd_T67 l0_2 a1).f2⟩ : S67)] Xo25 ([(⟨(rd_T67 l0_2 a1).f0, (rd_T67 l0_2 a1).f1, (rd_T67 l0_2 a1).f2⟩ : S67)].length) ko25 HM rfl Try.underlying68 info67 rfl (HM.CR 3 rfl).2.2 (by have h_ := LMc11.out; simp only [List.length_singleton]; omega) ?_ (ops := #[]) (hw := by rfl) (hs := (eval_of e26)) (hx := (eval_of e28)))
    clear HM
    intro v466 w26 HM
    exact hK.out _ _ ⟨v463, .slice Xo25 [(⟨(rd_T67 l0_2 a1).f0, (rd_T67 l0_2 a1).f1, (rd_T67 l0_2 a1).f2⟩ : S67)].length ko25, v466, PUT ha 11 hb, (((HM.sF 1 rfl (hoff 14 (by kernel_rfl))).iF 1 rfl (hoff 14 (by kernel_rfl))).iT 3 rfl (hon 10 (by kernel_rfl))).pick [0, 1, 2, 3]⟩
   refine steps_cons ?_ ?_
   ·rintro b a w ⟨v463, v16, v466, ha, HM⟩ hb hon hoff
    refine ⟨_, rfl, fun K hK => ?_⟩
    replace ha := Aside0.mk ha
    have e18 := PE ha 0 hon
    exact VL (.pointer (some ⟨g, 0, none⟩)) (hK.out _ _ ⟨v463, v16, v466, PUT ha 12 hb, HM⟩)
   refine steps_cons ?_ ?_
   ·rintro b a w ⟨v463, v16, v466, ha, HM⟩ hb hon hoff
    refine ⟨_, rfl, fun K hK => ?_⟩
    replace ha := Aside0.mk ha
    have e30 := PE ha 12 hon
    exact VL (.pointer (some ⟨g, 2, none⟩)) (hK.out _ _ ⟨v463, v16, v466, PUT ha 13 hb, HM⟩)
   refine steps_cons ?_ ?_
   ·rintro b a w ⟨v463, v16, v466, ha, HM⟩ hb hon hoff
    refine ⟨_, rfl, fun K hK => ?_⟩
    replace ha := Aside0.mk ha
    replace HM := HM.sT 0 rfl (hon 11 (by kernel_rfl))
    replace HM := HM.sF 1 rfl hb
    obtain ⟨Xo27, ko27, eo27⟩ := HM.rdR 0 rfl
    subst eo27
    have e31 := PE ha 13 hon
    have e29 := PE ha 11 hon
    refine ST (eS 1 31 2 [.slice Xo27 (t462 ++ [(⟨(rd_T67 l0_2 a1).f0, (rd_T67 l0_2 a1).f1, (rd_T67 l0_2 a1).f2⟩ : S67)]).length ko27] HM rfl rfl ?_ (hp := (eval_of e31)) (hx := (by rw [eval_of e29]; rfl)))
    clear HM
    intro w28 HM
    exact hK.out _ _ ⟨v463, v16, .slice Xo27 (t462 ++ [(⟨(rd_T67 l0_2 a1).f0, (rd_T67 l0_2 a1).f1, (rd_T67 l0_2 a1).f2⟩ : S67)]).length ko27, PUS ha, (HM.iT 0 rfl (hon 11 (by kernel_rfl))).pick [0, 1, 2, 3]⟩
   exact steps_nil
  rintro _ w29 ⟨v463, v16, v466, rfl, HM⟩
  replace HM := HM.sT 0 rfl rfl
  replace HM := HM.sT 1 rfl rfl
  replace HM := HM.sT 3 rfl rfl
  simp only [putSel, if_true, Act.put, List.setIfInBounds_toArray, List.set_cons_zero, List.set_cons_succ, gt_iff_lt, ge_iff_le]
  simp only [Option.some.injEq, Prod.mk.injEq] at H
  obtain ⟨rfl, rfl, rfl⟩ := H
  go_wp2
  first | go_end0 | ((try simp only [Exit.inBlock, Exit.then]); refine bodyPost_ret (results_none rfl _ _ _) rfl ?_)
  first | exact ⟨_, ER, (MD HM).pick [0, 1]⟩ | exact ⟨ER, _, (MD HM).pick [0, 1]⟩
 ·have c4b0 : (a0_0 == 2) = false := beq_eq_false_iff_ne.mpr c4
  have c4b1 : (a0_0 != 2) = true := bne_iff_ne.mpr c4
  (first | rw [c4b0] | (simp only [i64_w, i32_w]; rw [c4b0]) | skip)
  go_upto_if 32 with (fail)
  replace H := IT H; rcases H with ⟨c30, H⟩ | ⟨c30, H⟩
  ·have c30b0 : (a0_0 == 3) = true := beq_iff_eq.mpr c30
   have c30b1 : (a0_0 != 3) = false := bne_eq_false_iff_eq.mpr c30
   clear c30
   (first | rw [c30b0] | (simp only [i64_w, i32_w]; rw [c30b0]) | skip)
   replace H := GD H; obtain ⟨c31, H⟩ := H
   have c31b0 : decide (0 ≤ a1) = true := decide_eq_true c31
   clear c31
   replace H := GD H; obtain ⟨c32, H⟩ := H
   have c32b0 : decide (a1 < (l0_2.length : Int)) = true := decide_eq_true c32
   clear c32
   simp only [Option.some.injEq, Prod.mk.injEq] at H
   obtain ⟨rfl, rfl, rfl⟩ := H
   obtain ⟨Xo34, ko34, eo34⟩ := HM.rdR 0 rfl
   subst eo34
   have p33 : 0 ≤ (a1 : Int) := of_decide_eq_true AS
   have q33 : (a1 : Int) < ((l0_2.length : Int) : Int) := of_decide_eq_true AS
   obtain ⟨go33, ef33⟩ := HM.form 0 rfl (by have h_ := (HM.CR 0 rfl).1; omega)
   subst ef33
   obtain ⟨hx33_0, hx33_1, hx33_2, hf33_0, hf33_1, hf33_2⟩ := HM.el3 0 rfl z67 (a1 : Int) p33 (by have h_ := (HM.CR 0 rfl).1; omega) (.string ((rd_T67 l0_2 a1).f0)) (.string ((rd_T67 l0_2 a1).f1)) (.int .i64 ((rd_T67 l0_2 a1).f2)) (fun _ _ h => k67_openM h)
   replace p33 := eq_true p33
   replace q33 := eq_true q33
   go_wp2_with (first | ((with_reducible refine gS 40 rfl ?_); refine pPR 0 40 (a1 : Int) 2 [.int .i64 1] k67 67 l0_2 (⟨(rd_T67 l0_2 a1).f0, (rd_T67 l0_2 a1).f1, 1⟩ : S67) z67 [.string ((rd_T67 l0_2 a1).f0), .string ((rd_T67 l0_2 a1).f1), .int .i64 ((rd_T67 l0_2 a1).f2)] HM rfl rfl (of_decide_eq_true AS) (by have h_ : (a1 : Int) < ((l0_2.length : Int) : Int) := of_decide_eq_true AS; have e_ := (HM.CR 0 rfl).1; omega) (fun _ _ h => k67_openM h) (k67_mkM _ _ _ (⟨(rd_T67 l0_2 a1).f0, (rd_T67 l0_2 a1).f1, 1⟩ : S67)) ?_; clear HM; intro w35 HM))
   first | go_end0 | ((try simp only [Exit.inBlock, Exit.then]); refine bodyPost_ret (results_none rfl _ _ _) rfl ?_)
   first | exact ⟨_, ER, (MD HM).pick [0, 1]⟩ | exact ⟨ER, _, (MD HM).pick [0, 1]⟩
  ·have c30b0 : (a0_0 == 3) = false := beq_eq_false_iff_ne.mpr c30
   have c30b1 : (a0_0 != 3) = true := bne_iff_ne.mpr c30
   (first | rw [c30b0] | (simp only [i64_w, i32_w]; rw [c30b0]) | skip)
   simp only [Option.some.injEq, Prod.mk.injEq] at H
   obtain ⟨rfl, rfl, rfl⟩ := H
   go_wp2
   first | go_end0 | ((try simp only [Exit.inBlock, Exit.then]); refine bodyPost_ret (results_none rfl _ _ _) rfl ?_)
   first | exact ⟨_, ER, (MD HM).pick [0, 1]⟩ | exact ⟨ER, _, (MD HM).pick [0, 1]⟩
def impl_RowGet.f (k : Nat) (a0_0 : Int) (a0_1 : Int) (l0_2 : List (S67)) (a1 : ByteArray) : Option (Int × Int × (List (S67)) × ByteArray × Bool) := (impl_RowOk.f k a0_0 a0_1 l0_2).bind fun t471 => (if t471 = true then ((impl_copyRow.f a0_0 a0_1 l0_2).bind fun bt472 => ((impl_itemAt.f l0_2 a1).bind fun t478 => (if t478 < 0 then (some (bt472.1, bt472.2.1, bt472.2.2, (⟨#[]⟩ : ByteArray), false)) else ((impl_Row_asked.f bt472.1 bt472.2.1 bt472.2.2 t478).bind fun bt479 => (if 0 ≤ t478 then (if t478 < (l0_2.length : Int) then (some (bt479.1, bt479.2.1, bt479.2.2, (rd_T67 l0_2 t478).f1, true)) else (none)) else (none)))))) else (some (0, 0, ([] : List (S67)), (⟨#[]⟩ : ByteArray), false)))
def impl_RowGet.T8 : Bool × List (List Nat × List Nat) := (true, [([], []), ([], []), ([1], [1]), ([], []), ([2, 3], [2, 3]), ([4], [4]), ([5], [5]), ([0, 0], [0]), ([6, 7, 0, 1, 2, 3, 4, 5, 6, 7], [6]), ([8, 0, 1, 2, 3, 4, 5, 6, 7, 8], [])])
def impl_RowGet.B8 : List Nat := [0, 0, 2, 0, 14, 30, 62, 1, 255, 511]
theorem impl_RowGet.tab8 : rtab .any (opsOf Try.f63 8) = impl_RowGet.T8 := by kernel_rfl
theorem impl_RowGet.bits8 : waitsOk impl_RowGet.T8.2 impl_RowGet.B8 = true := by kernel_rfl
set_option maxHeartbeats 8000000 in
set_option maxRecDepth 100000 in
theorem impl_RowGet.calls (k : Nat) (a0_0 : Int) (a0_1 : Int) (A0_2 : Option Addr) (c0_2 : Nat) (l0_2 : List (S67)) (a1 : ByteArray) (r1 : Int) (r2 : Int) (r3 : List (S67)) (r4 : ByteArray) (r5 : Bool) (w : World) (hr0_2 : Kd.C k67 w A0_2 l0_2.length l0_2) (hc0_2 : l0_2.length ≤ c0_2) (h : impl_RowGet.f k a0_0 a0_1 l0_2 a1 = some (r1, r2, r3, r4, r5)) :
  Calls Try.prog 63 #[.agg #[.int .i64 a0_0, .int .i64 a0_1, .slice A0_2 l0_2.length c0_2], .string a1] w fun e w' => ∃ v2_ : Value, e = .returned (.tuple #[.agg #[.int .i64 r1, .int .i64 r2, v2_], .string r4, .bool r5]) ∧ Mem w [] w' [rowR k67 67 v2_ r3] := by
 have hu75 := Try.underlying75
 have HR0_2 := Aside0.mk hr0_2
 have HC0_2 := Aside0.mk hc0_2
 clear hr0_2 hc0_2
 have HM := Mem.nil w
 have H := h
 clear h
 unfold impl_RowGet.f at H
 go_enter Try.func63, Try.ntmps63
 replace H := BN H; obtain ⟨t471, A6, H⟩ := H
 go_upto_if 11 with (first | ((with_reducible refine gN 2 rfl ?_); refine pB 2 75 [.int .i64 a0_0, .int .i64 a0_1, .slice A0_2 l0_2.length c0_2] HM rfl ?_; clear HM; intro gb469 w3 HM) | ((with_reducible refine gN 4 rfl ?_); refine pB 4 75 [.int .i64 0, .int .i64 0, .slice none 0 0] HM rfl ?_; clear HM; intro gb470 w4 HM; obtain ⟨z5_0, z5_1, z5_2, Z5_0, Z5_1, Z5_2⟩ := bk3 (HM.bx 0 rfl)) | ((with_reducible refine gC 60 rfl ?_); refine pC (some 10) rfl #[.agg #[.int .i64 a0_0, .int .i64 a0_1, .slice A0_2 l0_2.length c0_2]] rfl Try.func60 (impl_RowOk.calls k a0_0 a0_1 _ _ l0_2 t471 _ (HM.came HR0_2.out) HC0_2.out A6.out) ?_; rintro e w7 ⟨rfl, hR⟩; refine ⟨_, rfl, ?_⟩; replace HM := HM.call hR; clear hR))
 replace HM := nzM HM
 replace H := IB H
 rcases H with ⟨c8, H⟩ | ⟨c8, H⟩
 ·subst c8
  replace H := BN H; obtain ⟨⟨t472, t473, t474⟩, A10, H⟩ := H
  replace H := BN H; obtain ⟨t478, A16, H⟩ := H
  obtain ⟨z9_0, z9_1, z9_2, Z9_0, Z9_1, Z9_2⟩ := bk3 (HM.bx 0 rfl)
  go_upto_if 20 with (first | ((with_reducible refine gC 85 rfl ?_); refine pC (some 14) rfl #[.agg #[.int .i64 a0_0, .int .i64 a0_1, .slice A0_2 l0_2.length c0_2]] rfl Try.func85 (impl_copyRow.calls a0_0 a0_1 _ _ l0_2 t472 t473 t474 _ (HM.came HR0_2.out) HC0_2.out A10.out) ?_; rintro e w11 ⟨v475, rfl, hR⟩; refine ⟨_, rfl, ?_⟩; replace HM := HM.call hR; clear hR) | ((with_reducible refine gN 7 rfl ?_); refine pB 7 75 [.int .i64 0, .int .i64 0, .slice none 0 0] HM rfl ?_; clear HM; intro gb477 w12 HM; obtain ⟨Xo13, ko13, eo13⟩ := HM.rdR 2 rfl; subst eo13) | ((with_reducible refine gS 7 rfl ?_); refine pS 3 7 0 [.int .i64 t472, .int .i64 t473, .slice Xo13 t474.length ko13] HM rfl rfl ?_; clear HM; intro w14 HM; obtain ⟨z15_0, z15_1, z15_2, Z15_0, Z15_1, Z15_2⟩ := bk3 (HM.bx 0 rfl)) | ((with_reducible refine gC 86 rfl ?_); refine pC (some 18) rfl #[.slice A0_2 l0_2.length c0_2, .string a1] rfl Try.func86 (impl_itemAt.calls A0_2 c0_2 l0_2 a1 t478 _ (HM.came HR0_2.out) HC0_2.out A16.out) ?_; rintro e w17 ⟨rfl, hb⟩; refine ⟨_, rfl, ?_⟩; replace HM := HM.below hb; clear hb))
  replace HM := nzM HM
  replace H := IT H; rcases H with ⟨c18, H⟩ | ⟨c18, H⟩
  ·have c18b0 : decide (t478 < 0) = true := decide_eq_true c18
   clear c18
   (first | rw [c18b0] | (simp only [i64_w, i32_w]; rw [c18b0]) | skip)
   simp only [Option.some.injEq, Prod.mk.injEq] at H
   obtain ⟨rfl, rfl, rfl, rfl, rfl⟩ := H
   obtain ⟨z19_0, z19_1, z19_2, Z19_0, Z19_1, Z19_2⟩ := bk3 (HM.bx 3 rfl)
   go_wp2_with (first | ((with_reducible refine gS 4 rfl ?_); refine pS 1 4 0 [.int .i64 t472, .int .i64 t473, .slice Xo13 t474.length ko13] HM rfl rfl ?_; clear HM; intro w20 HM))
   refine bodyPost_ret (results_ctt rfl _ _ gb470 75 #[.int .i64 t472, .int .i64 t473, .slice Xo13 t474.length ko13] (0, 0) _ rfl (HM.bx 1 rfl) Try.underlying75 rfl (by kernel_rfl)) rfl ?_
   exact ⟨_, ER, (MD HM).pick [2]⟩
  ·have c18b0 : decide (t478 < 0) = false := decide_eq_false c18
   clear c18
   (first | rw [c18b0] | (simp only [i64_w, i32_w]; rw [c18b0]) | skip)
   replace H := BN H; obtain ⟨⟨t479, t480, t481⟩, A21, H⟩ := H
   try go_wp2_with (first | ((with_reducible refine gC 87 rfl ?_); refine pC (some 23) rfl #[.pointer (some ⟨gb477, 0, none⟩), .int .i64 t478] rfl Try.func87 (impl_Row_asked.calls gb477 t472 t473 (.slice Xo13 t474.length ko13) t474 t478 t479 t480 t481 _ _ _ (HM.focus [0, 1] [2, 3]) A21.out) ?_; rintro e w22 ⟨v482, rfl, hR⟩; refine ⟨_, rfl, ?_⟩; replace HM := nzM hR.unfocus; clear hR))
   replace H := GD H; obtain ⟨c23, H⟩ := H
   have c23b0 : decide (0 ≤ t478) = true := decide_eq_true c23
   clear c23
   replace H := GD H; obtain ⟨c24, H⟩ := H
   have c24b0 : decide (t478 < (l0_2.length : Int)) = true := decide_eq_true c24
   clear c24
   have p484 : 0 ≤ (t478 : Int) := of_decide_eq_true AS
   have q484 : (t478 : Int) < (l0_2.length : Int) := of_decide_eq_true AS
   obtain ⟨ad484, e484, hx484_0, hx484_1, hx484_2⟩ := at_T67 (HM.came HR0_2.out) t478 p484 q484
   cases e484
   replace p484 := eq_true p484
   replace q484 := eq_true q484
   obtain ⟨Xo29, ko29, eo29⟩ := HM.rdR 2 rfl
   subst eo29
   refine RGN 10 [0, 1, 2, 3, 4, 5, 6, 7, 8, 9] (fun a0 b a w' => a = putSel a0 b [(0, 24, .agg #[.int .i64 t479, .int .i64 t480, .slice Xo29 t481.length ko29]), (1, 25, .pointer (some ⟨gb469, 2, none⟩)), (2, 26, .slice (some ad484) l0_2.length c0_2), (3, 27, .int .i64 t478), (4, 28, .pointer (some (ad484.add ((t478).toNat * 3)))), (5, 29, .pointer (some ⟨(ad484.add ((t478).toNat * 3)).block, (ad484.add ((t478).toNat * 3)).off + 1, none⟩)), (6, 30, .string ((rd_T67 l0_2 t478).f1)), (8, 5, .string ((rd_T67 l0_2 t478).f1)), (9, 6, .bool true)] ∧ Mem w [] w' [box 75 gb469 [.int .i64 a0_0, .int .i64 a0_1, .slice (some ad484) l0_2.length c0_2], sel (b 7) (box 75 gb470 [.int .i64 t479, .int .i64 t480, .slice Xo29 t481.length ko29]) (box 75 gb470 [.int .i64 0, .int .i64 0, .slice none 0 0]), rowR k67 67 (.slice Xo29 t481.length ko29) t481, box 75 gb477 [.int .i64 t479, .int .i64 t480, .slice Xo29 t481.length ko29]]) impl_RowGet.tab8 impl_RowGet.bits8 ?_ ?_ ?_
   ·exact ⟨PS0' rfl _, (HM.drew).pick [0, 1, 2, 3]⟩
   ·clear HM
    refine SY ?_ ?_
    ·intro b a w ha HM hb hon hoff K hK
     obtain ⟨z30_0, z30_1, z30_2, Z30_0, Z30_1, Z30_2⟩ := bk3 (HM.bx 3 rfl)
     have e7 := PG ha 7
     exact VL (.agg #[.int .i64 t479, .int .i64 t480, .slice Xo29 t481.length ko29]) (hK.out _ _ ⟨PUT ha 0 hb, HM⟩)
    refine SY ?_ ?_
    ·intro b a w ha HM hb hon hoff K hK
     have e2 := PG ha 2
     exact VL (.pointer (some ⟨gb469, 2, none⟩)) (hK.out _ _ ⟨PUT ha 1 hb, HM⟩)
    refine SY ?_ ?_
    ·intro b a w ha HM hb hon hoff K hK
     obtain ⟨z31_0, z31_1, z31_2, Z31_0, Z31_1, Z31_2⟩ := bk3 (HM.bx 0 rfl)
     have e25 := PE ha 1 hon
     exact VL (.slice (some ad484) l0_2.length c0_2) (hK.out _ _ ⟨PUT ha 2 hb, HM⟩)
    refine SY ?_ ?_
    ·intro b a w ha HM hb hon hoff K hK
     have e8 := PG ha 8
     exact VL (.int .i64 t478) (hK.out _ _ ⟨PUT ha 3 hb, HM⟩)
    refine SY ?_ ?_
    ·intro b a w ha HM hb hon hoff K hK
     have p484 : 0 ≤ (t478 : Int) := of_decide_eq_true AS
     have q484 : (t478 : Int) < (l0_2.length : Int) := of_decide_eq_true AS
     obtain ⟨ad484, e484, hx484_0, hx484_1, hx484_2⟩ := at_T67 (HM.came HR0_2.out) t478 p484 q484
     obtain rfl := Option.some.inj e484
     replace p484 := eq_true p484
     replace q484 := eq_true q484
     have e26 := PE ha 2 hon
     have e27 := PE ha 3 hon
     exact VL (.pointer (some (ad484.add ((t478).toNat * 3)))) (hK.out _ _ ⟨PUT ha 4 hb, HM⟩)
    refine SY ?_ ?_
    ·intro b a w ha HM hb hon hoff K hK
     have e28 := PE ha 4 hon
     exact VL (.pointer (some ⟨(ad484.add ((t478).toNat * 3)).block, (ad484.add ((t478).toNat * 3)).off + 1, none⟩)) (hK.out _ _ ⟨PUT ha 5 hb, HM⟩)
    refine SY ?_ ?_
    ·intro b a w ha HM hb hon hoff K hK
     have p484 : 0 ≤ (t478 : Int) := of_decide_eq_true AS
     have q484 : (t478 : Int) < (l0_2.length : Int) := of_decide_eq_true AS
     obtain ⟨ad484, e484, hx484_0, hx484_1, hx484_2⟩ := at_T67 (HM.came HR0_2.out) t478 p484 q484
     obtain rfl := Option.some.inj e484
     replace p484 := eq_true p484
     replace q484 := eq_true q484
     have e29 := PE ha 5 hon
     exact VL (.string ((rd_T67 l0_2 t478).f1)) (hK.out _ _ ⟨PUT ha 6 hb, HM⟩)
    refine SY ?_ ?_
    ·intro b a w ha HM hb hon hoff K hK
     replace HM := HM.sF 1 rfl hb
     have e4 := PG ha 4
     have e24 := PE ha 0 hon
     refine ST (eS 1 4 0 [.int .i64 t479, .int .i64 t480, .slice Xo29 t481.length ko29] HM rfl rfl ?_ (hp := (eval_of e4)) (hx := (by rw [eval_of e24]; rfl)))
     clear HM
     intro w32 HM
     exact hK.out _ _ ⟨PUS ha, (HM).pick [0, 1, 2, 3]⟩
    refine SY ?_ ?_
    ·intro b a w ha HM hb hon hoff K hK
     have e30 := PE ha 6 hon
     exact VL (.string ((rd_T67 l0_2 t478).f1)) (hK.out _ _ ⟨PUT ha 7 hb, HM⟩)
    refine SY ?_ ?_
    ·intro b a w ha HM hb hon hoff K hK
     exact VL (.bool true) (hK.out _ _ ⟨PUT ha 8 hb, HM⟩)
    exact steps_nil
   rintro _ w33 ⟨rfl, HM⟩
   replace HM := HM.sT 1 rfl rfl
   simp only [putSel, if_true, Act.put, List.setIfInBounds_toArray, List.set_cons_zero, List.set_cons_succ, gt_iff_lt, ge_iff_le]
   simp only [Option.some.injEq, Prod.mk.injEq] at H
   obtain ⟨rfl, rfl, rfl, rfl, rfl⟩ := H
   go_wp2
   refine bodyPost_ret (results_ctt rfl _ _ gb470 75 #[.int .i64 t479, .int .i64 t480, .slice Xo29 t481.length ko29] (0, 0) _ rfl (HM.bx 1 rfl) Try.underlying75 rfl (by kernel_rfl)) rfl ?_
   exact ⟨_, ER, (MD HM).pick [2]⟩
 ·subst c8
  simp only [Option.some.injEq, Prod.mk.injEq] at H
  obtain ⟨rfl, rfl, rfl, rfl, rfl⟩ := H
  go_wp2_with (first | ((with_reducible refine gS 4 rfl ?_); refine pS 1 4 0 [.int .i64 0, .int .i64 0, .slice none 0 0] HM rfl rfl ?_; clear HM; intro w34 HM; replace HM := HM.nl k67 67))
  refine bodyPost_ret (results_ctt rfl _ _ gb470 75 #[.int .i64 0, .int .i64 0, .slice none 0 0] (0, 0) _ rfl (HM.bx 1 rfl) Try.underlying75 rfl (by kernel_rfl)) rfl ?_
  exact ⟨_, ER, (MD HM).pick [2]⟩
mutual
def impl_RowPut.j0 : Nat → ByteArray → ByteArray → Bool → Int → Int → List (S67) → Option (Int × Int × (List (S67)) × List ByteArray × Bool)
 | 0, _, _, _, _, _, _ => none
 | k + 1, x1, x2, x22, x487000, x487001, x487002 => if x22 = true then (some (0, 0, ([] : List (S67)), ([] : List ByteArray), false)) else ((impl_copyRow.f x487000 x487001 x487002).bind fun bt490 => ((some (([] : List ByteArray) : List ByteArray)).bind fun y496 => ((impl_itemAt.f x487002 x1).bind fun t499 => (if t499 ≥ 0 then (if 0 ≤ t499 then (if t499 < (bt490.2.2.length : Int) then ((impl_Row_asked.f bt490.1 bt490.2.1 (bt490.2.2.set (t499 : Int).toNat (⟨(rd_T67 bt490.2.2 t499).f0, x2, (rd_T67 bt490.2.2 t499).f2⟩ : S67)) t499).bind fun bt501 => (some (bt501.1, bt501.2.1, bt501.2.2, y496, true))) else (none)) else (none)) else (if (bt490.2.2.length : Int) = bt490.2.1 then (impl_RowPut.l0 k x1 x2 y496 bt490.1 bt490.2.1 bt490.2.2) else (if bt490.2.2.length < 3518437208883 then ((impl_copyRow.f bt490.1 bt490.2.1 (bt490.2.2 ++ [(⟨x1, x2, 0⟩ : S67)])).bind fun bt533 => (some (bt533.1, bt533.2.1, bt533.2.2, y496, true))) else (none)))))))
def impl_RowPut.l0 : Nat → ByteArray → ByteArray → List ByteArray → Int → Int → List (S67) → Option (Int × Int × (List (S67)) × List ByteArray × Bool)
 | 0, _, _, _, _, _, _ => none
 | k + 1, x1, x2, x10, x496000, x496001, x496002 => if 0 < (x496002.length : Int) then (if ((rd_T67 x496002 0).f2) = 1 then (if 1 ≤ (x496002.length : Int) then ((some (x496002.drop (1 : Int).toNat : List (S67))).bind fun y509 => (if y509.length < 3518437208883 then (impl_RowPut.l0 k x1 x2 x10 x496000 x496001 (y509 ++ [(⟨(rd_T67 x496002 0).f0, (rd_T67 x496002 0).f1, 0⟩ : S67)])) else (none))) else (none)) else (if x10.length < 8796093022208 then (if 1 ≤ (x496002.length : Int) then ((some (x496002.drop (1 : Int).toNat : List (S67))).bind fun y519 => (if y519.length < 3518437208883 then ((impl_copyRow.f x496000 x496001 (y519 ++ [(⟨x1, x2, 0⟩ : S67)])).bind fun bt525 => (some (bt525.1, bt525.2.1, bt525.2.2, (x10 ++ [(rd_T67 x496002 0).f0]), true))) else (none))) else (none)) else (none))) else (none)
end
def impl_RowPut.f (k : Nat) (a0_0 : Int) (a0_1 : Int) (l0_2 : List (S67)) (a1 : ByteArray) (a2 : ByteArray) : Option (Int × Int × (List (S67)) × List ByteArray × Bool) := (impl_RowOk.f k a0_0 a0_1 l0_2).bind fun t488 => (if t488 = true then ((impl_ItemOk.f k a1 a2 0).bind fun t489 => (impl_RowPut.j0 k a1 a2 (!t489) a0_0 a0_1 l0_2)) else (impl_RowPut.j0 k a1 a2 true a0_0 a0_1 l0_2))
def impl_RowPut.T14 : Bool × List (List Nat × List Nat) := (true, [([], []), ([0], [0]), ([1], [1]), ([], []), ([3], [3]), ([2, 4], [2, 4]), ([0, 1, 2, 3, 4, 5], []), ([6, 5, 5, 0, 1, 2, 3, 4, 5], [5, 6])])
def impl_RowPut.B14 : List Nat := [0, 1, 3, 0, 8, 31, 63, 127]
theorem impl_RowPut.tab14 : rtab .any (opsOf Try.f64 14) = impl_RowPut.T14 := by kernel_rfl
theorem impl_RowPut.bits14 : waitsOk impl_RowPut.T14.2 impl_RowPut.B14 = true := by kernel_rfl
set_option maxHeartbeats 8000000 in
set_option maxRecDepth 100000 in
theorem impl_RowPut.calls (k : Nat) (a0_0 : Int) (a0_1 : Int) (A0_2 : Option Addr) (c0_2 : Nat) (l0_2 : List (S67)) (a1 : ByteArray) (a2 : ByteArray) (r1 : Int) (r2 : Int) (r3 : List (S67)) (r4 : List ByteArray) (r5 : Bool) (w : World) (hr0_2 : Kd.C k67 w A0_2 l0_2.length l0_2) (hc0_2 : l0_2.length ≤ c0_2) (h : impl_RowPut.f k a0_0 a0_1 l0_2 a1 a2 = some (r1, r2, r3, r4, r5)) :
  Calls Try.prog 64 #[.agg #[.int .i64 a0_0, .int .i64 a0_1, .slice A0_2 l0_2.length c0_2], .string a1, .string a2] w fun e w' => ∃ v2_ v3_ : Value, e = .returned (.tuple #[.agg #[.int .i64 r1, .int .i64 r2, v2_], v3_, .bool r5]) ∧ Mem w [] w' [rowR k67 67 v2_ r3, rowR Kd.string 9 v3_ r4] := by
 have hu75 := Try.underlying75
 have hu67 := Try.underlying67
 have HR0_2 := Aside0.mk hr0_2
 have HC0_2 := Aside0.mk hc0_2
 clear hr0_2 hc0_2
 have HM := Mem.nil w
 have H := h
 clear h
 unfold impl_RowPut.f at H
 go_enter Try.func64, Try.ntmps64
 have HC6 := Aside0.mk H
 clear H
 go_upto_region 1 with (first | ((with_reducible refine gN 3 rfl ?_); refine pB 3 75 [.int .i64 a0_0, .int .i64 a0_1, .slice A0_2 l0_2.length c0_2] HM rfl ?_; clear HM; intro gb486 w4 HM) | ((with_reducible refine gN 6 rfl ?_); refine pB 6 75 [.int .i64 0, .int .i64 0, .slice none 0 0] HM rfl ?_; clear HM; intro gb487 w5 HM))
 replace HM := nzM HM
 try simp only [Act.put, List.setIfInBounds_toArray, List.set_cons_zero, List.set_cons_succ]
 go_cut [22] (fun v22 wc => ∃ (kq : Nat) (x22_5 : Bool), v22 = .bool x22_5 ∧ Aside0 (impl_RowPut.j0 kq a1 a2 x22_5 a0_0 a0_1 l0_2 = some (r1, r2, r3, r4, r5)) ∧ Aside0 (kq ≤ k) ∧ Mem w [] wc [box 75 gb486 [.int .i64 a0_0, .int .i64 a0_1, .slice A0_2 l0_2.length c0_2], box 75 gb487 [.int .i64 0, .int .i64 0, .slice none 0 0]])
 case first =>
  have H := HC6.out
  clear HC6
  replace H := BN H; obtain ⟨t488, A8, H⟩ := H
  replace H := IB H
  rcases H with ⟨c10, H⟩ | ⟨c10, H⟩
  ·subst c10
   replace H := BN H; obtain ⟨t489, A11, H⟩ := H
   have H' := Aside0.mk H
   clear H
   obtain ⟨z7_0, z7_1, z7_2, Z7_0, Z7_1, Z7_2⟩ := bk3 (HM.bx 0 rfl)
   go_wp2_with (first | ((with_reducible refine gC 60 rfl ?_); refine pC (some 14) rfl #[.agg #[.int .i64 a0_0, .int .i64 a0_1, .slice A0_2 l0_2.length c0_2]] rfl Try.func60 (impl_RowOk.calls k a0_0 a0_1 _ _ l0_2 true _ (HM.came HR0_2.out) HC0_2.out A8.out) ?_; rintro e w9 ⟨rfl, hR⟩; refine ⟨_, rfl, ?_⟩; replace HM := HM.call hR; clear hR) | ((with_reducible refine gC 42 rfl ?_); refine pC (some 20) rfl #[.agg #[.string a1, .string a2, .int .i64 0]] rfl Try.func42 (impl_ItemOk.calls k a1 a2 0 t489 _ A11.out) ?_; rintro e w12 ⟨rfl, hR⟩; refine ⟨_, rfl, ?_⟩; replace HM := HM.call hR; clear hR))
   go_meet
   case rel => exact ⟨_, (!t489), RS, H', ⟨by first | omega | exact Nat.le_refl _⟩, (MD HM).pick [0, 1]⟩
  ·subst c10
   have H' := Aside0.mk H
   clear H
   obtain ⟨z7_0, z7_1, z7_2, Z7_0, Z7_1, Z7_2⟩ := bk3 (HM.bx 0 rfl)
   go_wp2_with (first | ((with_reducible refine gC 60 rfl ?_); refine pC (some 14) rfl #[.agg #[.int .i64 a0_0, .int .i64 a0_1, .slice A0_2 l0_2.length c0_2]] rfl Try.func60 (impl_RowOk.calls k a0_0 a0_1 _ _ l0_2 false _ (HM.came HR0_2.out) HC0_2.out A8.out) ?_; rintro e w9 ⟨rfl, hR⟩; refine ⟨_, rfl, ?_⟩; replace HM := HM.call hR; clear hR))
   go_meet
   case rel => exact ⟨_, (true), RS, H', ⟨by first | omega | exact Nat.le_refl _⟩, (MD HM).pick [0, 1]⟩
 case rest =>
  clear HC6 HM
  obtain ⟨kq, x22_5, rfl, HA, HJ5, HM⟩ := hcut
  cases kq with
  | zero => exact absurd HA.out (by simp [impl_RowPut.j0])
  | succ kj5 =>
   have H := HA.out
   clear HA
   simp only [impl_RowPut.j0] at H
   go_upto_if 22 with (fail)
   replace H := IB H
   rcases H with ⟨c13, H⟩ | ⟨c13, H⟩
   ·subst c13
    simp only [Option.some.injEq, Prod.mk.injEq] at H
    obtain ⟨rfl, rfl, rfl, rfl, rfl⟩ := H
    go_wp2_with (first | ((with_reducible refine gS 6 rfl ?_); refine pS 1 6 0 [.int .i64 0, .int .i64 0, .slice none 0 0] HM rfl rfl ?_; clear HM; intro w14 HM; replace HM := HM.nl k67 67; replace HM := HM.nl Kd.string 9))
    refine bodyPost_ret (results_ctt rfl _ _ gb487 75 #[.int .i64 0, .int .i64 0, .slice none 0 0] (0, 0) _ rfl (HM.bx 1 rfl) Try.underlying75 rfl (by kernel_rfl)) rfl ?_
    exact ⟨_, _, ER, (MD HM).pick [2, 3]⟩
   ·subst c13
    replace H := BN H; obtain ⟨⟨t490, t491, t492⟩, A16, H⟩ := H
    replace H := BLt H; obtain ⟨y496, Ny496, H⟩ := H
    replace Ny496 := Aside0.mk Ny496
    replace H := BN H; obtain ⟨t499, A23, H⟩ := H
    obtain ⟨z15_0, z15_1, z15_2, Z15_0, Z15_1, Z15_2⟩ := bk3 (HM.bx 0 rfl)
    go_upto_if 32 with (first | ((with_reducible refine gC 85 rfl ?_); refine pC (some 25) rfl #[.agg #[.int .i64 a0_0, .int .i64 a0_1, .slice A0_2 l0_2.length c0_2]] rfl Try.func85 (impl_copyRow.calls a0_0 a0_1 _ _ l0_2 t490 t491 t492 _ (HM.came HR0_2.out) HC0_2.out A16.out) ?_; rintro e w17 ⟨v493, rfl, hR⟩; refine ⟨_, rfl, ?_⟩; replace HM := HM.call hR; clear hR) | ((with_reducible refine gN 9 rfl ?_); refine pB 9 75 [.int .i64 0, .int .i64 0, .slice none 0 0] HM rfl ?_; clear HM; intro gb495 w18 HM; obtain ⟨Xo19, ko19, eo19⟩ := HM.rdR 2 rfl; subst eo19) | ((with_reducible refine gS 9 rfl ?_); refine pS 3 9 0 [.int .i64 t490, .int .i64 t491, .slice Xo19 t492.length ko19] HM rfl rfl ?_; clear HM; intro w20 HM) | ((with_reducible refine gN 26 rfl ?_); refine pL 26 Kd.string 9 ([] : List ByteArray) [] (Reps.none _ _) HM rfl ?_; clear HM; intro v497 w21 HM; replace HM := HM.nm 4 rfl Ny496.out; obtain ⟨z22_0, z22_1, z22_2, Z22_0, Z22_1, Z22_2⟩ := bk3 (HM.bx 0 rfl)) | ((with_reducible refine gC 86 rfl ?_); refine pC (some 30) rfl #[.slice A0_2 l0_2.length c0_2, .string a1] rfl Try.func86 (impl_itemAt.calls A0_2 c0_2 l0_2 a1 t499 _ (HM.came HR0_2.out) HC0_2.out A23.out) ?_; rintro e w24 ⟨rfl, hb⟩; refine ⟨_, rfl, ?_⟩; replace HM := HM.below hb; clear hb))
    replace HM := nzM HM
    replace H := IT H; rcases H with ⟨c25, H⟩ | ⟨c25, H⟩
    ·have c25b0 : decide (0 ≤ t499) = true := decide_eq_true c25
     clear c25
     (first | rw [c25b0] | (simp only [i64_w, i32_w]; rw [c25b0]) | skip)
     replace H := GD H; obtain ⟨c27, H⟩ := H
     have c27b0 : decide (0 ≤ t499) = true := decide_eq_true c27
     clear c27
     replace H := GD H; obtain ⟨c28, H⟩ := H
     have c28b0 : decide (t499 < (t492.length : Int)) = true := decide_eq_true c28
     clear c28
     replace H := BN H; obtain ⟨⟨t501, t502, t503⟩, A31, H⟩ := H
     simp only [Option.some.injEq, Prod.mk.injEq] at H
     obtain ⟨rfl, rfl, rfl, rfl, rfl⟩ := H
     obtain ⟨z26_0, z26_1, z26_2, Z26_0, Z26_1, Z26_2⟩ := bk3 (HM.bx 3 rfl)
     have p29 : 0 ≤ (t499 : Int) := of_decide_eq_true AS
     have q29 : (t499 : Int) < ((t492.length : Int) : Int) := of_decide_eq_true AS
     obtain ⟨go29, ef29⟩ := HM.form 2 rfl (by have h_ := (HM.CR 2 rfl).1; omega)
     subst ef29
     obtain ⟨hx29_0, hx29_1, hx29_2, hf29_0, hf29_1, hf29_2⟩ := HM.el3 2 rfl z67 (t499 : Int) p29 (by have h_ := (HM.CR 2 rfl).1; omega) (.string ((rd_T67 t492 t499).f0)) (.string ((rd_T67 t492 t499).f1)) (.int .i64 ((rd_T67 t492 t499).f2)) (fun _ _ h => k67_openM h)
     replace p29 := eq_true p29
     replace q29 := eq_true q29
     go_wp2_with (first | ((with_reducible refine gS 38 rfl ?_); refine pPR 2 38 (t499 : Int) 1 [.string a2] k67 67 t492 (⟨(rd_T67 t492 t499).f0, a2, (rd_T67 t492 t499).f2⟩ : S67) z67 [.string ((rd_T67 t492 t499).f0), .string ((rd_T67 t492 t499).f1), .int .i64 ((rd_T67 t492 t499).f2)] HM rfl rfl (of_decide_eq_true AS) (by have h_ : (t499 : Int) < ((t492.length : Int) : Int) := of_decide_eq_true AS; have e_ := (HM.CR 2 rfl).1; omega) (fun _ _ h => k67_openM h) (k67_mkM _ _ _ (⟨(rd_T67 t492 t499).f0, a2, (rd_T67 t492 t499).f2⟩ : S67)) ?_; clear HM; intro w30 HM) | ((with_reducible refine gC 87 rfl ?_); refine pC (some 40) rfl #[.pointer (some ⟨gb495, 0, none⟩), .int .i64 t499] rfl Try.func87 (impl_Row_asked.calls gb495 t490 t491 (.slice (some ⟨go29, 0, none⟩) t492.length ko19) (t492.set (t499 : Int).toNat (⟨(rd_T67 t492 t499).f0, a2, (rd_T67 t492 t499).f2⟩ : S67)) t499 t501 t502 t503 _ _ _ (HM.focus [0, 1, 4] [2, 3]) A31.out) ?_; rintro e w32 ⟨v504, rfl, hR⟩; refine ⟨_, rfl, ?_⟩; replace HM := nzM hR.unfocus; clear hR; obtain ⟨z33_0, z33_1, z33_2, Z33_0, Z33_1, Z33_2⟩ := bk3 (HM.bx 4 rfl); obtain ⟨Xo34, ko34, eo34⟩ := HM.rdR 3 rfl; subst eo34) | ((with_reducible refine gS 6 rfl ?_); refine pS 1 6 0 [.int .i64 t501, .int .i64 t502, .slice Xo34 t503.length ko34] HM rfl rfl ?_; clear HM; intro w35 HM))
     refine bodyPost_ret (results_ctt rfl _ _ gb487 75 #[.int .i64 t501, .int .i64 t502, .slice Xo34 t503.length ko34] (0, 0) _ rfl (HM.bx 1 rfl) Try.underlying75 rfl (by kernel_rfl)) rfl ?_
     exact ⟨_, _, ER, (MD HM).pick [3, 2]⟩
    ·have c25b0 : decide (0 ≤ t499) = false := decide_eq_false c25
     clear c25
     (first | rw [c25b0] | (simp only [i64_w, i32_w]; rw [c25b0]) | skip)
     obtain ⟨z36_0, z36_1, z36_2, Z36_0, Z36_1, Z36_2⟩ := bk3 (HM.bx 3 rfl)
     go_upto_if 48 with (fail)
     replace H := IT H; rcases H with ⟨c37, H⟩ | ⟨c37, H⟩
     ·have c37b0 : ((t492.length : Int) == t491) = true := beq_iff_eq.mpr c37
      have c37b1 : ((t492.length : Int) != t491) = false := bne_eq_false_iff_eq.mpr c37
      clear c37
      (first | rw [c37b0] | (simp only [i64_w, i32_w]; rw [c37b0]) | skip)
      have H' := Aside0.mk H
      clear H
      replace HM := HM.toQ 2 rfl
      go_wp2
      go_loopg [] kj5 (fun kq w' => ∃ (x496002_2 : List (S67)) (u496002 : Value), Aside0 (impl_RowPut.l0 kq a1 a2 y496 t490 t491 x496002_2 = some (r1, r2, r3, r4, r5)) ∧ Aside0 (kq ≤ kj5) ∧ Mem w [] w' [rowR Kd.string 9 v497 y496, row k67 67 u496002 x496002_2, box 75 gb486 [.int .i64 a0_0, .int .i64 a0_1, .slice A0_2 l0_2.length c0_2], box 75 gb487 [.int .i64 0, .int .i64 0, .slice none 0 0], box 75 gb495 [.int .i64 t490, .int .i64 t491, u496002]])
      case atStart => exact ⟨(t492), (.slice Xo19 t492.length ko19), H', ⟨Nat.le_refl _⟩, (MD HM).pick [4, 2, 0, 1, 3]⟩
      case round =>
       clear H' HM
       obtain ⟨x496002_2, u496002, HA, HK2, HM⟩ := hrel
       cases gk with
       | zero => exact absurd HA.out (by simp [impl_RowPut.l0])
       | succ k2 =>
        have H := HA.out
        clear HA
        simp only [impl_RowPut.l0] at H
        replace H := GD H; obtain ⟨c39, H⟩ := H
        replace c39 : 0 < (x496002_2.length : Int) := c39
        have c39b0 : decide (0 < (x496002_2.length : Int)) = true := decide_eq_true c39
        have c39b1 : decide (0 < x496002_2.length) = true := decide_eq_true (by omega)
        have c39b9 : decide (0 < x496002_2.length) = true := decide_eq_true (by omega)
        clear c39
        obtain ⟨z38_0, z38_1, z38_2, Z38_0, Z38_1, Z38_2⟩ := bk3 (HM.bx 4 rfl)
        obtain ⟨Xo40, ko40, eo40⟩ := HM.rd 1 rfl
        subst eo40
        have p506 : 0 ≤ (0 : Int) := (by omega)
        have q506 : (0 : Int) < (x496002_2.length : Int) := of_decide_eq_true AS
        obtain ⟨ad506, e506, hx506_0, hx506_1, hx506_2⟩ := at_T67 (HM.C 1 rfl).2.2 0 p506 q506
        cases e506
        have qi506 : (0 < x496002_2.length) = True := eq_true (by omega)
        (try rw [show ((0 : Int)).toNat = 0 from rfl] at hx506_0)
        (try rw [show 0 * 3 = 0 from rfl] at hx506_0)
        (try rw [Addr.add_zero'] at hx506_0)
        (try rw [show ((0 : Int)).toNat = 0 from rfl] at hx506_1)
        (try rw [show 0 * 3 = 0 from rfl] at hx506_1)
        (try rw [Addr.add_zero'] at hx506_1)
        (try rw [show ((0 : Int)).toNat = 0 from rfl] at hx506_2)
        (try rw [show 0 * 3 = 0 from rfl] at hx506_2)
        (try rw [Addr.add_zero'] at hx506_2)
        replace p506 := eq_true p506
        replace q506 := eq_true q506
        go_upto_if 54 with (fail)
        replace H := IT H; rcases H with ⟨c41, H⟩ | ⟨c41, H⟩
        ·have c41b0 : (((rd_T67 x496002_2 0).f2) == 1) = true := beq_iff_eq.mpr c41
         have c41b1 : (((rd_T67 x496002_2 0).f2) != 1) = false := bne_eq_false_iff_eq.mpr c41
         clear c41
         (first | rw [c41b0] | (simp only [i64_w, i32_w]; rw [c41b0]) | skip)
         have p507 : 0 ≤ (0 : Int) := (by omega)
         have q507 : (0 : Int) < (x496002_2.length : Int) := of_decide_eq_true AS
         obtain ⟨ad507, e507, hx507_0, hx507_1, hx507_2⟩ := at_T67 (HM.C 1 rfl).2.2 0 p507 q507
         obtain rfl := Option.some.inj e507
         have qi507 : (0 < x496002_2.length) = True := eq_true (by omega)
         (try rw [show ((0 : Int)).toNat = 0 from rfl] at hx507_0)
         (try rw [show 0 * 3 = 0 from rfl] at hx507_0)
         (try rw [Addr.add_zero'] at hx507_0)
         (try rw [show ((0 : Int)).toNat = 0 from rfl] at hx507_1)
         (try rw [show 0 * 3 = 0 from rfl] at hx507_1)
         (try rw [Addr.add_zero'] at hx507_1)
         (try rw [show ((0 : Int)).toNat = 0 from rfl] at hx507_2)
         (try rw [show 0 * 3 = 0 from rfl] at hx507_2)
         (try rw [Addr.add_zero'] at hx507_2)
         replace p507 := eq_true p507
         replace q507 := eq_true q507
         try go_wp2_with (first | ((with_reducible refine gN 12 rfl ?_); refine pB 12 67 [.string (⟨#[]⟩ : ByteArray), .string (⟨#[]⟩ : ByteArray), .int .i64 0] HM rfl ?_; clear HM; intro gb508 w42 HM) | ((with_reducible refine gS 12 rfl ?_); refine pS 5 12 0 [.string ((rd_T67 x496002_2 0).f0), .string ((rd_T67 x496002_2 0).f1), .int .i64 ((rd_T67 x496002_2 0).f2)] HM rfl rfl ?_; clear HM; intro w43 HM) | ((with_reducible refine gS 59 rfl ?_); refine pS 5 59 2 [.int .i64 0] HM rfl rfl ?_; clear HM; intro w44 HM))
         replace H := GD H; obtain ⟨c45, H⟩ := H
         have c45b0 := eq_true c45
         have c45b1 : decide (1 ≤ (x496002_2.length : Int)) = true := decide_eq_true c45
         clear c45
         replace H := BLt H; obtain ⟨y509, Ny509, H⟩ := H
         replace Ny509 := Aside0.mk Ny509
         replace H := GD H; obtain ⟨c46, H⟩ := H
         have LMc46 := Aside0.mk (show y509.length < 3518437208883 from c46)
         clear c46
         refine RGN 8 [0, 1, 2, 3, 4, 5, 6, 7] (fun a0 b a w' => ∃ (v510 : Value) (v50 : Value) (v513 : Value), a = putSel a0 b [(0, 60, .pointer (some ⟨gb495, 2, none⟩)), (1, 61, .slice (some ad506) x496002_2.length ko40), (2, 62, v510), (3, 63, .agg #[.string ((rd_T67 x496002_2 0).f0), .string ((rd_T67 x496002_2 0).f1), .int .i64 0]), (4, 64, v50), (5, 65, v513), (6, 66, .pointer (some ⟨gb495, 2, none⟩))] ∧ Mem w [] w' [rowR Kd.string 9 v497 y496, sel (b 5) (row k67 67 v513 (y509 ++ [(⟨(rd_T67 x496002_2 0).f0, (rd_T67 x496002_2 0).f1, 0⟩ : S67)])) (sel (b 2) (row k67 67 v510 y509) (row k67 67 (.slice (some ad506) x496002_2.length ko40) x496002_2)), box 75 gb486 [.int .i64 a0_0, .int .i64 a0_1, .slice A0_2 l0_2.length c0_2], box 75 gb487 [.int .i64 0, .int .i64 0, .slice none 0 0], sel (b 7) (box 75 gb495 [.int .i64 t490, .int .i64 t491, v513]) (box 75 gb495 [.int .i64 t490, .int .i64 t491, .slice (some ad506) x496002_2.length ko40]), box 67 gb508 [.string ((rd_T67 x496002_2 0).f0), .string ((rd_T67 x496002_2 0).f1), .int .i64 0], sel (b 4) (rowR k67 67 v50 [(⟨(rd_T67 x496002_2 0).f0, (rd_T67 x496002_2 0).f1, 0⟩ : S67)]) (emp)]) impl_RowPut.tab14 impl_RowPut.bits14 ?_ ?_ ?_
         ·exact ⟨.bool false, .bool false, .bool false, PS0' rfl _, (HM.drew.ems 1).pick [0, 1, 2, 3, 4, 5, 6]⟩
         ·clear HM
          refine steps_cons ?_ ?_
          ·rintro b a w ⟨v510, v50, v513, ha, HM⟩ hb hon hoff
           refine ⟨_, rfl, fun K hK => ?_⟩
           replace ha := Aside0.mk ha
           have e9 := PG ha 9
           exact VL (.pointer (some ⟨gb495, 2, none⟩)) (hK.out _ _ ⟨v510, v50, v513, PUT ha 0 hb, HM⟩)
          refine steps_cons ?_ ?_
          ·rintro b a w ⟨v510, v50, v513, ha, HM⟩ hb hon hoff
           refine ⟨_, rfl, fun K hK => ?_⟩
           replace ha := Aside0.mk ha
           have HZ := HM
           replace HM := HM.sF 4 rfl (hoff 7 (by kernel_rfl))
           obtain ⟨z55_0, z55_1, z55_2, Z55_0, Z55_1, Z55_2⟩ := bk3 (HM.bx 4 rfl)
           have e60 := PE ha 0 hon
           exact VL (.slice (some ad506) x496002_2.length ko40) (hK.out _ _ ⟨v510, v50, v513, PUT ha 1 hb, HZ⟩)
          refine steps_cons ?_ ?_
          ·rintro b a w ⟨v510, v50, v513, ha, HM⟩ hb hon hoff
           refine ⟨_, rfl, fun K hK => ?_⟩
           replace ha := Aside0.mk ha
           replace HM := (HM.sF 1 rfl (hoff 5 (by kernel_rfl))).sF 1 rfl hb
           have e61 := PE ha 1 hon
           refine ST (eD 1 68 67 k67 _ _ 1 x496002_2 (some ad506) ko40 HM rfl Try.underlying68 info67 rfl (fun _ _ h => h) (by omega) (by have h_ : (1 : Int) ≤ ((x496002_2.length : Int) : Int) := of_decide_eq_true AS; first | exact h_ | (have e_ := (HM.C 1 rfl).1; omega)) ?_ (hx := (eval_of e61)) (hl := rfl))
           clear HM
           intro v510 HM
           replace HM := HM.nmQ 1 rfl Ny509.out
           exact hK.out _ _ ⟨v510, v50, v513, PUT ha 2 hb, (HM.iF 1 rfl (hoff 5 (by kernel_rfl))).pick [0, 1, 2, 3, 4, 5, 6]⟩
          refine steps_cons ?_ ?_
          ·rintro b a w ⟨v510, v50, v513, ha, HM⟩ hb hon hoff
           refine ⟨_, rfl, fun K hK => ?_⟩
           replace ha := Aside0.mk ha
           obtain ⟨z56_0, z56_1, z56_2, Z56_0, Z56_1, Z56_2⟩ := bk3 (HM.bx 5 rfl)
           have e12 := PG ha 12
           exact VL (.agg #[.string ((rd_T67 x496002_2 0).f0), .string ((rd_T67 x496002_2 0).f1), .int .i64 0]) (hK.out _ _ ⟨v510, v50, v513, PUT ha 3 hb, HM⟩)
          refine steps_cons ?_ ?_
          ·rintro b a w ⟨v510, v50, v513, ha, HM⟩ hb hon hoff
           refine ⟨_, rfl, fun K hK => ?_⟩
           replace ha := Aside0.mk ha
           have e63 := PE ha 3 hon
           refine ST (eL 64 k67 67 [(⟨(rd_T67 x496002_2 0).f0, (rd_T67 x496002_2 0).f1, 0⟩ : S67)] [.string ((rd_T67 x496002_2 0).f0), .string ((rd_T67 x496002_2 0).f1), .int .i64 0] (Reps.c3 (show Kd.M k67 _ _ _ (⟨(rd_T67 x496002_2 0).f0, (rd_T67 x496002_2 0).f1, 0⟩ : S67) [.string ((rd_T67 x496002_2 0).f0), .string ((rd_T67 x496002_2 0).f1), .int .i64 0] from (k67_mkM _ _ _ (⟨(rd_T67 x496002_2 0).f0, (rd_T67 x496002_2 0).f1, 0⟩ : S67))) (Reps.none _ _)) HM rfl ?_)
           clear HM
           intro v50 w57 HM
           exact hK.out _ _ ⟨v510, v50, v513, PUT ha 4 hb, (HM).pick [0, 1, 2, 3, 4, 5, 7]⟩
          refine steps_cons ?_ ?_
          ·rintro b a w ⟨v510, v50, v513, ha, HM⟩ hb hon hoff
           refine ⟨_, rfl, fun K hK => ?_⟩
           replace ha := Aside0.mk ha
           replace HM := (HM.sF 1 rfl hb).sT 1 rfl (hon 2 (by kernel_rfl))
           replace HM := HM.sT 6 rfl (hon 4 (by kernel_rfl))
           obtain ⟨Xo58, ko58, eo58⟩ := HM.rdR 6 rfl
           subst eo58
           have e62 := PE ha 2 hon
           have e64 := PE ha 4 hon
           refine ST (eAq 1 (.tmp 62) (.tmp 64) 68 67 k67 v510 y509 [(⟨(rd_T67 x496002_2 0).f0, (rd_T67 x496002_2 0).f1, 0⟩ : S67)] Xo58 ([(⟨(rd_T67 x496002_2 0).f0, (rd_T67 x496002_2 0).f1, 0⟩ : S67)].length) ko58 HM rfl Try.underlying68 info67 rfl (HM.CR 6 rfl).2.2 (by have h_ := LMc46.out; simp only [List.length_singleton]; omega) (by simp) ?_ (ops := #[]) (hw := by rfl) (hs := (eval_of e62)) (hx := (eval_of e64)))
           clear HM
           intro v513 w59 HM
           exact hK.out _ _ ⟨v510, .slice Xo58 [(⟨(rd_T67 x496002_2 0).f0, (rd_T67 x496002_2 0).f1, 0⟩ : S67)].length ko58, v513, PUT ha 5 hb, (((HM.sF 4 rfl (hoff 7 (by kernel_rfl))).iF 4 rfl (hoff 7 (by kernel_rfl))).iT 6 rfl (hon 4 (by kernel_rfl))).pick [0, 1, 2, 3, 4, 5, 6]⟩
          refine steps_cons ?_ ?_
          ·rintro b a w ⟨v510, v50, v513, ha, HM⟩ hb hon hoff
           refine ⟨_, rfl, fun K hK => ?_⟩
           replace ha := Aside0.mk ha
           have e9 := PG ha 9
           exact VL (.pointer (some ⟨gb495, 2, none⟩)) (hK.out _ _ ⟨v510, v50, v513, PUT ha 6 hb, HM⟩)
          refine steps_cons ?_ ?_
          ·rintro b a w ⟨v510, v50, v513, ha, HM⟩ hb hon hoff
           refine ⟨_, rfl, fun K hK => ?_⟩
           replace ha := Aside0.mk ha
           replace HM := HM.sT 1 rfl (hon 5 (by kernel_rfl))
           replace HM := HM.sF 4 rfl hb
           obtain ⟨Xo60, ko60, eo60⟩ := HM.rd 1 rfl
           subst eo60
           have e66 := PE ha 6 hon
           have e65 := PE ha 5 hon
           refine ST (eS 4 66 2 [.slice Xo60 (y509 ++ [(⟨(rd_T67 x496002_2 0).f0, (rd_T67 x496002_2 0).f1, 0⟩ : S67)]).length ko60] HM rfl rfl ?_ (hp := (eval_of e66)) (hx := (by rw [eval_of e65]; rfl)))
           clear HM
           intro w61 HM
           exact hK.out _ _ ⟨v510, v50, .slice Xo60 (y509 ++ [(⟨(rd_T67 x496002_2 0).f0, (rd_T67 x496002_2 0).f1, 0⟩ : S67)]).length ko60, PUS ha, (HM.iT 1 rfl (hon 5 (by kernel_rfl))).pick [0, 1, 2, 3, 4, 5, 6]⟩
          exact steps_nil
         rintro _ w62 ⟨v510, v50, v513, rfl, HM⟩
         replace HM := HM.sT 1 rfl rfl
         replace HM := HM.sT 4 rfl rfl
         replace HM := HM.sT 6 rfl rfl
         simp only [putSel, if_true, Act.put, List.setIfInBounds_toArray, List.set_cons_zero, List.set_cons_succ, gt_iff_lt, ge_iff_le]
         have H' := Aside0.mk H
         clear H
         go_wp2
         go_roundg k2
         case measure => have := HJ5.out; have := HK2.out; omega
         case rel => exact ⟨((y509 ++ [(⟨(rd_T67 x496002_2 0).f0, (rd_T67 x496002_2 0).f1, 0⟩ : S67)])), (v513), H', ⟨by have := HJ5.out; have := HK2.out; omega⟩, (MD HM).pick [0, 1, 2, 3, 4]⟩
        ·have c41b0 : (((rd_T67 x496002_2 0).f2) == 1) = false := beq_eq_false_iff_ne.mpr c41
         have c41b1 : (((rd_T67 x496002_2 0).f2) != 1) = true := bne_iff_ne.mpr c41
         (first | rw [c41b0] | (simp only [i64_w, i32_w]; rw [c41b0]) | skip)
         replace H := GD H; obtain ⟨c63, H⟩ := H
         have LMc63 := Aside0.mk (show y496.length < 8796093022208 from c63)
         clear c63
         replace H := GD H; obtain ⟨c68, H⟩ := H
         have c68b0 := eq_true c68
         have c68b1 : decide (1 ≤ (x496002_2.length : Int)) = true := decide_eq_true c68
         clear c68
         replace H := BLt H; obtain ⟨y519, Ny519, H⟩ := H
         replace Ny519 := Aside0.mk Ny519
         replace H := GD H; obtain ⟨c72, H⟩ := H
         have LMc72 := Aside0.mk (show y519.length < 3518437208883 from c72)
         clear c72
         replace H := BN H; obtain ⟨⟨t525, t526, t527⟩, A79, H⟩ := H
         simp only [Option.some.injEq, Prod.mk.injEq] at H
         obtain ⟨rfl, rfl, rfl, rfl, rfl⟩ := H
         have p515 : 0 ≤ (0 : Int) := (by omega)
         have q515 : (0 : Int) < (x496002_2.length : Int) := of_decide_eq_true AS
         obtain ⟨ad515, e515, hx515_0, hx515_1, hx515_2⟩ := at_T67 (HM.C 1 rfl).2.2 0 p515 q515
         obtain rfl := Option.some.inj e515
         have qi515 : (0 < x496002_2.length) = True := eq_true (by omega)
         (try rw [show ((0 : Int)).toNat = 0 from rfl] at hx515_0)
         (try rw [show 0 * 3 = 0 from rfl] at hx515_0)
         (try rw [Addr.add_zero'] at hx515_0)
         (try rw [show ((0 : Int)).toNat = 0 from rfl] at hx515_1)
         (try rw [show 0 * 3 = 0 from rfl] at hx515_1)
         (try rw [Addr.add_zero'] at hx515_1)
         (try rw [show ((0 : Int)).toNat = 0 from rfl] at hx515_2)
         (try rw [show 0 * 3 = 0 from rfl] at hx515_2)
         (try rw [Addr.add_zero'] at hx515_2)
         replace p515 := eq_true p515
         replace q515 := eq_true q515
         go_wp2_with (first | ((with_reducible refine gN 73 rfl ?_); refine pL 73 Kd.string 9 [(rd_T67 x496002_2 0).f0] [.string ((rd_T67 x496002_2 0).f0)] (Reps.one (show Kd.M Kd.string _ _ _ ((rd_T67 x496002_2 0).f0) [.string ((rd_T67 x496002_2 0).f0)] from rfl) (Reps.none _ _)) HM rfl ?_; clear HM; intro v65 w64 HM; obtain ⟨Xv65, kv65, ev65⟩ := HM.rdR 5 rfl; subst ev65) | ((with_reducible refine gate_builtin (b := .append) (xs := #[.tmp 67, .tmp 73]) rfl ?_); refine pA 0 (.tmp 67) (.tmp 73) 23 9 Kd.string v497 y496 [(rd_T67 x496002_2 0).f0] Xv65 ([(rd_T67 x496002_2 0).f0].length) kv65 HM rfl Try.underlying23 info9 rfl (HM.CR 5 rfl).2.2 (by have h_ := LMc63.out; simp only [List.length_singleton]; omega) ?_; clear HM; intro v517 w66 HM; obtain ⟨z67_0, z67_1, z67_2, Z67_0, Z67_1, Z67_2⟩ := bk3 (HM.bx 4 rfl)) | ((with_reducible refine gate_sl (t := 68) rfl ?_); refine pD 1 68 67 k67 _ _ 1 x496002_2 (some ad506) ko40 HM rfl Try.underlying68 info67 rfl (fun _ _ h => h) (by omega) (by have h_ : (1 : Int) ≤ ((x496002_2.length : Int) : Int) := of_decide_eq_true AS; first | exact h_ | (have e_ := (HM.C 1 rfl).1; omega)) ?_; clear HM; intro v520 HM; replace HM := HM.nmQ 1 rfl Ny519.out; obtain ⟨Xo69, ko69, eo69⟩ := HM.rd 1 rfl; subst eo69) | ((with_reducible refine gS 78 rfl ?_); refine pS 4 78 2 [.slice Xo69 y519.length ko69] HM rfl rfl ?_; clear HM; intro w70 HM; obtain ⟨z71_0, z71_1, z71_2, Z71_0, Z71_1, Z71_2⟩ := bk3 (HM.bx 4 rfl)) | ((with_reducible refine gN 84 rfl ?_); refine pL 84 k67 67 [(⟨a1, a2, 0⟩ : S67)] [.string a1, .string a2, .int .i64 0] (Reps.c3 (show Kd.M k67 _ _ _ (⟨a1, a2, 0⟩ : S67) [.string a1, .string a2, .int .i64 0] from (k67_mkM _ _ _ (⟨a1, a2, 0⟩ : S67))) (Reps.none _ _)) HM rfl ?_; clear HM; intro v74 w73 HM; obtain ⟨Xv74, kv74, ev74⟩ := HM.rdR 6 rfl; subst ev74) | ((with_reducible refine gate_builtin (b := .append) (xs := #[.tmp 80, .tmp 84]) rfl ?_); refine pAq 1 (.tmp 80) (.tmp 84) 68 67 k67 (.slice Xo69 y519.length ko69) y519 [(⟨a1, a2, 0⟩ : S67)] Xv74 ([(⟨a1, a2, 0⟩ : S67)].length) kv74 HM rfl Try.underlying68 info67 rfl (HM.CR 6 rfl).2.2 (by have h_ := LMc72.out; simp only [List.length_singleton]; omega) (by simp) ?_; clear HM; intro v523 w75 HM; obtain ⟨Xo76, ko76, eo76⟩ := HM.rd 1 rfl; subst eo76) | ((with_reducible refine gS 86 rfl ?_); refine pS 4 86 2 [.slice Xo76 (y519 ++ [(⟨a1, a2, 0⟩ : S67)]).length ko76] HM rfl rfl ?_; clear HM; intro w77 HM; obtain ⟨z78_0, z78_1, z78_2, Z78_0, Z78_1, Z78_2⟩ := bk3 (HM.bx 4 rfl)) | ((with_reducible refine gC 85 rfl ?_); refine pC (some 88) rfl #[.agg #[.int .i64 t490, .int .i64 t491, .slice Xo76 (y519 ++ [(⟨a1, a2, 0⟩ : S67)]).length ko76]] rfl Try.func85 (impl_copyRow.calls t490 t491 _ _ (y519 ++ [(⟨a1, a2, 0⟩ : S67)]) t525 t526 t527 _ (HM.C 1 rfl).2.2 (HM.C 1 rfl).2.1 A79.out) ?_; rintro e w80 ⟨v528, rfl, hR⟩; refine ⟨_, rfl, ?_⟩; replace HM := HM.call hR; clear hR; obtain ⟨Xo81, ko81, eo81⟩ := HM.rdR 7 rfl; subst eo81) | ((with_reducible refine gS 6 rfl ?_); refine pS 3 6 0 [.int .i64 t525, .int .i64 t526, .slice Xo81 t527.length ko81] HM rfl rfl ?_; clear HM; intro w82 HM))
         refine bodyPost_ret (results_ctt rfl _ _ gb487 75 #[.int .i64 t525, .int .i64 t526, .slice Xo81 t527.length ko81] (0, 0) _ rfl (HM.bx 3 rfl) Try.underlying75 rfl (by kernel_rfl)) rfl ?_
         exact ⟨_, _, ER, (MD HM).pick [7, 0]⟩
     ·have c37b0 : ((t492.length : Int) == t491) = false := beq_eq_false_iff_ne.mpr c37
      have c37b1 : ((t492.length : Int) != t491) = true := bne_iff_ne.mpr c37
      (first | rw [c37b0] | (simp only [i64_w, i32_w]; rw [c37b0]) | skip)
      replace H := GD H; obtain ⟨c83, H⟩ := H
      have LMc83 := Aside0.mk (show t492.length < 3518437208883 from c83)
      clear c83
      replace H := BN H; obtain ⟨⟨t533, t534, t535⟩, A90, H⟩ := H
      simp only [Option.some.injEq, Prod.mk.injEq] at H
      obtain ⟨rfl, rfl, rfl, rfl, rfl⟩ := H
      go_wp2_with (first | ((with_reducible refine gN 84 rfl ?_); refine pL 84 k67 67 [(⟨a1, a2, 0⟩ : S67)] [.string a1, .string a2, .int .i64 0] (Reps.c3 (show Kd.M k67 _ _ _ (⟨a1, a2, 0⟩ : S67) [.string a1, .string a2, .int .i64 0] from (k67_mkM _ _ _ (⟨a1, a2, 0⟩ : S67))) (Reps.none _ _)) HM rfl ?_; clear HM; intro v85 w84 HM; obtain ⟨Xv85, kv85, ev85⟩ := HM.rdR 5 rfl; subst ev85) | ((with_reducible refine gate_builtin (b := .append) (xs := #[.tmp 80, .tmp 84]) rfl ?_); refine pA 2 (.tmp 80) (.tmp 84) 68 67 k67 (.slice Xo19 t492.length ko19) t492 [(⟨a1, a2, 0⟩ : S67)] Xv85 ([(⟨a1, a2, 0⟩ : S67)].length) kv85 HM rfl Try.underlying68 info67 rfl (HM.CR 5 rfl).2.2 (by have h_ := LMc83.out; simp only [List.length_singleton]; omega) ?_; clear HM; intro v531 w86 HM; obtain ⟨Xo87, ko87, eo87⟩ := HM.rdR 2 rfl; subst eo87) | ((with_reducible refine gS 86 rfl ?_); refine pS 3 86 2 [.slice Xo87 (t492 ++ [(⟨a1, a2, 0⟩ : S67)]).length ko87] HM rfl rfl ?_; clear HM; intro w88 HM; obtain ⟨z89_0, z89_1, z89_2, Z89_0, Z89_1, Z89_2⟩ := bk3 (HM.bx 3 rfl)) | ((with_reducible refine gC 85 rfl ?_); refine pC (some 88) rfl #[.agg #[.int .i64 t490, .int .i64 t491, .slice Xo87 (t492 ++ [(⟨a1, a2, 0⟩ : S67)]).length ko87]] rfl Try.func85 (impl_copyRow.calls t490 t491 _ _ (t492 ++ [(⟨a1, a2, 0⟩ : S67)]) t533 t534 t535 _ (HM.CR 2 rfl).2.2 (HM.CR 2 rfl).2.1 A90.out) ?_; rintro e w91 ⟨v536, rfl, hR⟩; refine ⟨_, rfl, ?_⟩; replace HM := HM.call hR; clear hR; obtain ⟨Xo92, ko92, eo92⟩ := HM.rdR 6 rfl; subst eo92) | ((with_reducible refine gS 6 rfl ?_); refine pS 1 6 0 [.int .i64 t533, .int .i64 t534, .slice Xo92 t535.length ko92] HM rfl rfl ?_; clear HM; intro w93 HM))
      refine bodyPost_ret (results_ctt rfl _ _ gb487 75 #[.int .i64 t533, .int .i64 t534, .slice Xo92 t535.length ko92] (0, 0) _ rfl (HM.bx 1 rfl) Try.underlying75 rfl (by kernel_rfl)) rfl ?_
      exact ⟨_, _, ER, (MD HM).pick [6, 4]⟩
def impl_cache_ask.f (k : Nat) (a0_0 : Int) (a0_1 : Int) (l0_2 : List (S67)) (a0_3 : Int) (a0_4 : Int) (l0_5 : List (S67)) (l0_6 : List (S67)) (l0_7 : List Int) (a1 : ByteArray) : Option (Int × Int × (List (S67)) × Int × Int × (List (S67)) × (List (S67)) × List Int × Bool × Int) := if a0_3 > 0 then ((impl_Get.f k a0_3 a0_4 l0_5 l0_6 l0_7 a1).bind fun bt541 => (if bt541.2.2.2.2.2.2 = true then (some (a0_0, a0_1, l0_2, bt541.1, bt541.2.1, bt541.2.2.1, bt541.2.2.2.1, bt541.2.2.2.2.1, bt541.2.2.2.2.2.2, ((([] : List ByteArray)).length : Int))) else ((impl_Put.f k a0_3 a0_4 l0_5 l0_6 l0_7 a1 (⟨#[]⟩ : ByteArray)).bind fun bt558 => (some (a0_0, a0_1, l0_2, bt558.1, bt558.2.1, bt558.2.2.1, bt558.2.2.2.1, bt558.2.2.2.2.1, bt541.2.2.2.2.2.2, (bt558.2.2.2.2.2.1.length : Int)))))) else ((impl_RowGet.f k a0_0 a0_1 l0_2 a1).bind fun bt573 => (if bt573.2.2.2.2 = true then (some (bt573.1, bt573.2.1, bt573.2.2.1, a0_3, a0_4, l0_5, l0_6, l0_7, bt573.2.2.2.2, ((([] : List ByteArray)).length : Int))) else ((impl_RowPut.f k a0_0 a0_1 l0_2 a1 (⟨#[]⟩ : ByteArray)).bind fun bt584 => (some (bt584.1, bt584.2.1, bt584.2.2.1, a0_3, a0_4, l0_5, l0_6, l0_7, bt573.2.2.2.2, (bt584.2.2.2.1.length : Int))))))
set_option maxHeartbeats 8000000 in
set_option maxRecDepth 100000 in
theorem impl_cache_ask.calls (k : Nat) (g : Nat) (a0_0 : Int) (a0_1 : Int) (u9000_ : Value) (l0_2 : List (S67)) (a0_3 : Int) (a0_4 : Int) (u9001_ : Value) (l0_5 : List (S67)) (u9002_ : Value) (l0_6 : List (S67)) (u9003_ : Value) (l0_7 : List Int) (a1 : ByteArray) (r1 : Int) (r2 : Int) (r3 : List (S67)) (r4 : Int) (r5 : Int) (r6 : List (S67)) (r7 : List (S67)) (r8 : List Int) (r9 : Bool) (r10 : Int) (w0 w : World) (F : List SP)  (hM : Mem w0 F w [rowR k67 67 u9000_ l0_2, rowR k67 67 u9001_ l0_5, rowR k67 67 u9002_ l0_6, rowR (Kd.int .i64) 3 u9003_ l0_7, box 95 g [.int .i64 a0_0, .int .i64 a0_1, u9000_, .int .i64 a0_3, .int .i64 a0_4, u9001_, u9002_, u9003_]]) (h : impl_cache_ask.f k a0_0 a0_1 l0_2 a0_3 a0_4 l0_5 l0_6 l0_7 a1 = some (r1, r2, r3, r4, r5, r6, r7, r8, r9, r10)) :
  Calls Try.prog 46 #[.pointer (some ⟨g, 0, none⟩), .string a1] w fun e w' => ∃ v2_ v5_ v6_ v7_ : Value, e = .returned (.tuple #[.bool r9, .int .i64 r10]) ∧ Mem w0 F w' [rowR k67 67 v2_ r3, rowR k67 67 v5_ r6, rowR k67 67 v6_ r7, rowR (Kd.int .i64) 3 v7_ r8, box 95 g [.int .i64 r1, .int .i64 r2, v2_, .int .i64 r4, .int .i64 r5, v5_, v6_, v7_]] := by
 have hu71 := Try.underlying71
 have hu75 := Try.underlying75
 have HM := hM
 clear hM
 have H := h
 clear h
 unfold impl_cache_ask.f at H
 go_enter Try.func46, Try.ntmps46
 obtain ⟨z3_0, z3_1, z3_2, z3_3, z3_4, z3_5, z3_6, z3_7, Z3_0, Z3_1, Z3_2, Z3_3, Z3_4, Z3_5, Z3_6, Z3_7⟩ := bk8 (HM.bx 4 rfl)
 go_upto_if 19 with (fail)
 replace H := IT H; rcases H with ⟨c4, H⟩ | ⟨c4, H⟩
 ·have c4b0 : decide (0 < a0_3) = true := decide_eq_true c4
  clear c4
  (first | rw [c4b0] | (simp only [i64_w, i32_w]; rw [c4b0]) | skip)
  replace H := BN H; obtain ⟨⟨t541, t542, t543, t546, t549, t552, t553⟩, A5, H⟩ := H
  obtain ⟨Xo7, ko7, eo7⟩ := HM.rdR 1 rfl
  subst eo7
  obtain ⟨Xo8, ko8, eo8⟩ := HM.rdR 2 rfl
  subst eo8
  obtain ⟨Xo9, ko9, eo9⟩ := HM.rdR 3 rfl
  subst eo9
  go_upto_if 32 with (first | ((with_reducible refine gC 61 rfl ?_); refine pC (some 26) rfl #[.agg #[.int .i64 a0_3, .int .i64 a0_4, .slice Xo7 l0_5.length ko7, .slice Xo8 l0_6.length ko8, .slice Xo9 l0_7.length ko9], .string a1] rfl Try.func61 (impl_Get.calls k a0_3 a0_4 _ _ l0_5 _ _ l0_6 _ _ l0_7 a1 t541 t542 t543 t546 t549 t552 t553 _ (HM.CR 1 rfl).2.2 (HM.CR 1 rfl).2.1 (HM.CR 2 rfl).2.2 (HM.CR 2 rfl).2.1 (HM.CR 3 rfl).2.2 (HM.CR 3 rfl).2.1 A5.out) ?_; rintro e w6 ⟨v544, v547, v550, rfl, hR⟩; refine ⟨_, rfl, ?_⟩; replace HM := HM.call hR; clear hR) | ((with_reducible refine gN 6 rfl ?_); refine pB 6 71 [.int .i64 0, .int .i64 0, .slice none 0 0, .slice none 0 0, .slice none 0 0] HM rfl ?_; clear HM; intro gb554 w10 HM; obtain ⟨Xo11, ko11, eo11⟩ := HM.rdR 5 rfl; subst eo11; obtain ⟨Xo12, ko12, eo12⟩ := HM.rdR 6 rfl; subst eo12; obtain ⟨Xo13, ko13, eo13⟩ := HM.rdR 7 rfl; subst eo13) | ((with_reducible refine gS 6 rfl ?_); refine pS 8 6 0 [.int .i64 t541, .int .i64 t542, .slice Xo11 t543.length ko11, .slice Xo12 t546.length ko12, .slice Xo13 t549.length ko13] HM rfl rfl ?_; clear HM; intro w14 HM) | ((with_reducible refine gN 30 rfl ?_); refine pL 30 Kd.string 9 ([] : List ByteArray) [] (Reps.none _ _) HM rfl ?_; clear HM; intro v556 w15 HM))
  replace HM := nzM HM
  replace H := IB H
  rcases H with ⟨c16, H⟩ | ⟨c16, H⟩
  ·subst c16
   simp only [Option.some.injEq, Prod.mk.injEq] at H
   obtain ⟨rfl, rfl, rfl, rfl, rfl, rfl, rfl, rfl, rfl, rfl⟩ := H
   obtain ⟨z17_0, z17_1, z17_2, z17_3, z17_4, Z17_0, Z17_1, Z17_2, Z17_3, Z17_4⟩ := bk5 (HM.bx 8 rfl)
   go_wp2_with (first | ((with_reducible refine gS 46 rfl ?_); refine pS 4 46 3 [.int .i64 t541, .int .i64 t542, .slice Xo11 t543.length ko11, .slice Xo12 t546.length ko12, .slice Xo13 t549.length ko13] HM rfl rfl ?_; clear HM; intro w18 HM; obtain ⟨Xo19, ko19, eo19⟩ := HM.rdR 9 rfl; subst eo19))
   go_ret2
   exact ⟨_, _, _, _, ER, (MD HM).pick [0, 5, 6, 7, 4]⟩
  ·subst c16
   replace H := BN H; obtain ⟨⟨t558, t559, t560, t563, t566, t569, t572⟩, A21, H⟩ := H
   simp only [Option.some.injEq, Prod.mk.injEq] at H
   obtain ⟨rfl, rfl, rfl, rfl, rfl, rfl, rfl, rfl, rfl, rfl⟩ := H
   obtain ⟨z20_0, z20_1, z20_2, z20_3, z20_4, z20_5, z20_6, z20_7, Z20_0, Z20_1, Z20_2, Z20_3, Z20_4, Z20_5, Z20_6, Z20_7⟩ := bk8 (HM.bx 4 rfl)
   go_wp2_with (first | ((with_reducible refine gC 62 rfl ?_); refine pC (some 39) rfl #[.agg #[.int .i64 a0_3, .int .i64 a0_4, .slice Xo7 l0_5.length ko7, .slice Xo8 l0_6.length ko8, .slice Xo9 l0_7.length ko9], .string a1, .string (⟨#[]⟩ : ByteArray)] rfl Try.func62 (impl_Put.calls k a0_3 a0_4 _ _ l0_5 _ _ l0_6 _ _ l0_7 a1 (⟨#[]⟩ : ByteArray) t558 t559 t560 t563 t566 t569 t572 _ (HM.CR 1 rfl).2.2 (HM.CR 1 rfl).2.1 (HM.CR 2 rfl).2.2 (HM.CR 2 rfl).2.1 (HM.CR 3 rfl).2.2 (HM.CR 3 rfl).2.1 A21.out) ?_; rintro e w22 ⟨v561, v564, v567, v570, rfl, hR⟩; refine ⟨_, rfl, ?_⟩; replace HM := HM.call hR; clear hR; obtain ⟨Xo23, ko23, eo23⟩ := HM.rdR 10 rfl; subst eo23; obtain ⟨Xo24, ko24, eo24⟩ := HM.rdR 11 rfl; subst eo24; obtain ⟨Xo25, ko25, eo25⟩ := HM.rdR 12 rfl; subst eo25) | ((with_reducible refine gS 6 rfl ?_); refine pS 8 6 0 [.int .i64 t558, .int .i64 t559, .slice Xo23 t560.length ko23, .slice Xo24 t563.length ko24, .slice Xo25 t566.length ko25] HM rfl rfl ?_; clear HM; intro w26 HM; obtain ⟨z27_0, z27_1, z27_2, z27_3, z27_4, Z27_0, Z27_1, Z27_2, Z27_3, Z27_4⟩ := bk5 (HM.bx 8 rfl)) | ((with_reducible refine gS 46 rfl ?_); refine pS 4 46 3 [.int .i64 t558, .int .i64 t559, .slice Xo23 t560.length ko23, .slice Xo24 t563.length ko24, .slice Xo25 t566.length ko25] HM rfl rfl ?_; clear HM; intro w28 HM; obtain ⟨Xo29, ko29, eo29⟩ := HM.rdR 13 rfl; subst eo29))
   go_ret2
   exact ⟨_, _, _, _, ER, (MD HM).pick [0, 10, 11, 12, 4]⟩
 ·have c4b0 : decide (0 < a0_3) = false := decide_eq_false c4
  clear c4
  (first | rw [c4b0] | (simp only [i64_w, i32_w]; rw [c4b0]) | skip)
  replace H := BN H; obtain ⟨⟨t573, t574, t575, t578, t579⟩, A30, H⟩ := H
  obtain ⟨Xo32, ko32, eo32⟩ := HM.rdR 0 rfl
  subst eo32
  go_upto_if 62 with (first | ((with_reducible refine gC 63 rfl ?_); refine pC (some 56) rfl #[.agg #[.int .i64 a0_0, .int .i64 a0_1, .slice Xo32 l0_2.length ko32], .string a1] rfl Try.func63 (impl_RowGet.calls k a0_0 a0_1 _ _ l0_2 a1 t573 t574 t575 t578 t579 _ (HM.CR 0 rfl).2.2 (HM.CR 0 rfl).2.1 A30.out) ?_; rintro e w31 ⟨v576, rfl, hR⟩; refine ⟨_, rfl, ?_⟩; replace HM := HM.call hR; clear hR) | ((with_reducible refine gN 10 rfl ?_); refine pB 10 75 [.int .i64 0, .int .i64 0, .slice none 0 0] HM rfl ?_; clear HM; intro gb580 w33 HM; obtain ⟨Xo34, ko34, eo34⟩ := HM.rdR 5 rfl; subst eo34) | ((with_reducible refine gS 10 rfl ?_); refine pS 6 10 0 [.int .i64 t573, .int .i64 t574, .slice Xo34 t575.length ko34] HM rfl rfl ?_; clear HM; intro w35 HM) | ((with_reducible refine gN 60 rfl ?_); refine pL 60 Kd.string 9 ([] : List ByteArray) [] (Reps.none _ _) HM rfl ?_; clear HM; intro v582 w36 HM))
  replace HM := nzM HM
  replace H := IB H
  rcases H with ⟨c37, H⟩ | ⟨c37, H⟩
  ·subst c37
   simp only [Option.some.injEq, Prod.mk.injEq] at H
   obtain ⟨rfl, rfl, rfl, rfl, rfl, rfl, rfl, rfl, rfl, rfl⟩ := H
   obtain ⟨z38_0, z38_1, z38_2, Z38_0, Z38_1, Z38_2⟩ := bk3 (HM.bx 6 rfl)
   go_wp2_with (first | ((with_reducible refine gS 76 rfl ?_); refine pS 4 76 0 [.int .i64 t573, .int .i64 t574, .slice Xo34 t575.length ko34] HM rfl rfl ?_; clear HM; intro w39 HM; obtain ⟨Xo40, ko40, eo40⟩ := HM.rdR 7 rfl; subst eo40))
   go_ret2
   exact ⟨_, _, _, _, ER, (MD HM).pick [5, 1, 2, 3, 4]⟩
  ·subst c37
   replace H := BN H; obtain ⟨⟨t584, t585, t586, t589, t592⟩, A42, H⟩ := H
   simp only [Option.some.injEq, Prod.mk.injEq] at H
   obtain ⟨rfl, rfl, rfl, rfl, rfl, rfl, rfl, rfl, rfl, rfl⟩ := H
   obtain ⟨z41_0, z41_1, z41_2, z41_3, z41_4, z41_5, z41_6, z41_7, Z41_0, Z41_1, Z41_2, Z41_3, Z41_4, Z41_5, Z41_6, Z41_7⟩ := bk8 (HM.bx 4 rfl)
   go_wp2_with (first | ((with_reducible refine gC 64 rfl ?_); refine pC (some 69) rfl #[.agg #[.int .i64 a0_0, .int .i64 a0_1, .slice Xo32 l0_2.length ko32], .string a1, .string (⟨#[]⟩ : ByteArray)] rfl Try.func64 (impl_RowPut.calls k a0_0 a0_1 _ _ l0_2 a1 (⟨#[]⟩ : ByteArray) t584 t585 t586 t589 t592 _ (HM.CR 0 rfl).2.2 (HM.CR 0 rfl).2.1 A42.out) ?_; rintro e w43 ⟨v587, v590, rfl, hR⟩; refine ⟨_, rfl, ?_⟩; replace HM := HM.call hR; clear hR; obtain ⟨Xo44, ko44, eo44⟩ := HM.rdR 8 rfl; subst eo44) | ((with_reducible refine gS 10 rfl ?_); refine pS 6 10 0 [.int .i64 t584, .int .i64 t585, .slice Xo44 t586.length ko44] HM rfl rfl ?_; clear HM; intro w45 HM; obtain ⟨z46_0, z46_1, z46_2, Z46_0, Z46_1, Z46_2⟩ := bk3 (HM.bx 6 rfl)) | ((with_reducible refine gS 76 rfl ?_); refine pS 4 76 0 [.int .i64 t584, .int .i64 t585, .slice Xo44 t586.length ko44] HM rfl rfl ?_; clear HM; intro w47 HM; obtain ⟨Xo48, ko48, eo48⟩ := HM.rdR 9 rfl; subst eo48))
   go_ret2
   exact ⟨_, _, _, _, ER, (MD HM).pick [8, 1, 2, 3, 4]⟩
def impl_asked.l0 : Nat → List Bool → Int → List ByteArray → Int → Int → Int → Int → List (S67) → Int → Int → List (S67) → List (S67) → List Int → Option (Int × Int × (List (S67)) × Int × Int × (List (S67)) × (List (S67)) × List Int × List Bool × Int)
 | 0, _, _, _, _, _, _, _, _, _, _, _, _, _ => none
 | k + 1, x8, x9, x17, x18, x19, x611000, x611001, x611002, x611003, x611004, x611005, x611006, x611007 => if x19 < x18 then (if 0 ≤ x19 then (if x19 < (x17.length : Int) then ((impl_cache_ask.f k x611000 x611001 x611002 x611003 x611004 x611005 x611006 x611007 (rdOf ByteArray.empty x17 x19)).bind fun bt615 => (if x8.length < 140737488355328 then (impl_asked.l0 k (x8 ++ [bt615.2.2.2.2.2.2.2.2.1]) (wrap64 (x9 + bt615.2.2.2.2.2.2.2.2.2)) x17 x18 (wrap64 (x19 + 1)) bt615.1 bt615.2.1 bt615.2.2.1 bt615.2.2.2.1 bt615.2.2.2.2.1 bt615.2.2.2.2.2.1 bt615.2.2.2.2.2.2.1 bt615.2.2.2.2.2.2.2.1) else (none))) else (none)) else (none)) else (some (x611000, x611001, x611002, x611003, x611004, x611005, x611006, x611007, x8, x9))
def impl_asked.f (k : Nat) (a0_0 : Int) (a0_1 : Int) (a0_2 : Int) (l1 : List ByteArray) : Option (Int × Int × (List (S67)) × Int × Int × (List (S67)) × (List (S67)) × List Int × List Bool × Int) := (impl_cacheOf.f k a0_0 a0_1 a0_2).bind fun bt594 => (impl_asked.l0 k (([] : List Bool)) 0 l1 (l1.length : Int) 0 bt594.1 bt594.2.1 bt594.2.2.1 bt594.2.2.2.1 bt594.2.2.2.2.1 bt594.2.2.2.2.2.1 bt594.2.2.2.2.2.2.1 bt594.2.2.2.2.2.2.2)
set_option maxHeartbeats 8000000 in
set_option maxRecDepth 100000 in
theorem impl_asked.calls (k : Nat) (a0_0 : Int) (a0_1 : Int) (a0_2 : Int) (A1 : Option Addr) (c1 : Nat) (l1 : List ByteArray) (r1 : Int) (r2 : Int) (r3 : List (S67)) (r4 : Int) (r5 : Int) (r6 : List (S67)) (r7 : List (S67)) (r8 : List Int) (r9 : List Bool) (r10 : Int) (w : World) (hr1 : Kd.C Kd.string w A1 l1.length l1) (hc1 : l1.length ≤ c1) (h : impl_asked.f k a0_0 a0_1 a0_2 l1 = some (r1, r2, r3, r4, r5, r6, r7, r8, r9, r10)) :
  Calls Try.prog 31 #[.agg #[.int .i64 a0_0, .int .i64 a0_1, .int .i64 a0_2], .slice A1 l1.length c1] w fun e w' => ∃ v2_ v5_ v6_ v7_ v8_ : Value, ∃ g_ : Nat, e = .returned (.tuple #[.pointer (some ⟨g_, 0, none⟩), v8_, .int .i64 r10]) ∧ Mem w [] w' [rowR k67 67 v2_ r3, rowR k67 67 v5_ r6, rowR k67 67 v6_ r7, rowR (Kd.int .i64) 3 v7_ r8, rowR Kd.bool 4 v8_ r9, box 95 g_ [.int .i64 r1, .int .i64 r2, v2_, .int .i64 r4, .int .i64 r5, v5_, v6_, v7_]] := by
 have hu31 := Try.underlying31
 have HR1 := Aside0.mk hr1
 have HC1 := Aside0.mk hc1
 clear hr1 hc1
 have HM := Mem.nil w
 have H := h
 clear h
 unfold impl_asked.f at H
 go_enter Try.func31, Try.ntmps31
 replace H := BN H; obtain ⟨⟨t594, t595, t596, t599, t600, t601, t604, t607⟩, A5, H⟩ := H
 have H' := Aside0.mk H
 clear H
 go_wp2_with (first | ((with_reducible refine gN 2 rfl ?_); refine pB 2 31 [.int .i64 a0_0, .int .i64 a0_1, .int .i64 a0_2] HM rfl ?_; clear HM; intro gb593 w3 HM; obtain ⟨z4_0, z4_1, z4_2, Z4_0, Z4_1, Z4_2⟩ := bk3 (HM.bx 0 rfl)) | ((with_reducible refine gC 45 rfl ?_); refine pC (some 15) rfl #[.agg #[.int .i64 a0_0, .int .i64 a0_1, .int .i64 a0_2]] rfl Try.func45 (impl_cacheOf.calls k a0_0 a0_1 a0_2 t594 t595 t596 t599 t600 t601 t604 t607 _ A5.out) ?_; rintro e w6 ⟨v597, v602, v605, v608, gb610, rfl, hR⟩; refine ⟨_, rfl, ?_⟩; replace HM := HM.call hR; clear hR) | ((with_reducible refine gN 16 rfl ?_); refine pL 16 Kd.bool 4 ([] : List Bool) [] (Reps.none _ _) HM rfl ?_; clear HM; intro v612 w7 HM))
 go_loopg [8, 9, 19] k (fun kq v8 v9 v19 w' => ∃ (x8_1 : List Bool) (x9_1 : Int) (x19_1 : Int) (x611000_1 : Int) (x611001_1 : Int) (x611002_1 : List (S67)) (x611003_1 : Int) (x611004_1 : Int) (x611005_1 : List (S67)) (x611006_1 : List (S67)) (x611007_1 : List Int) (u611002 : Value) (u611005 : Value) (u611006 : Value) (u611007 : Value), v9 = .int .i64 x9_1 ∧ v19 = .int .i64 x19_1 ∧ Aside0 (impl_asked.l0 kq x8_1 x9_1 l1 (l1.length : Int) x19_1 x611000_1 x611001_1 x611002_1 x611003_1 x611004_1 x611005_1 x611006_1 x611007_1 = some (r1, r2, r3, r4, r5, r6, r7, r8, r9, r10)) ∧ Aside0 (kq ≤ k) ∧ Mem w [] w' [rowR Kd.bool 4 v8 x8_1, rowR k67 67 u611002 x611002_1, rowR k67 67 u611005 x611005_1, rowR k67 67 u611006 x611006_1, rowR (Kd.int .i64) 3 u611007 x611007_1, box 31 gb593 [.int .i64 a0_0, .int .i64 a0_1, .int .i64 a0_2], box 95 gb610 [.int .i64 x611000_1, .int .i64 x611001_1, u611002, .int .i64 x611003_1, .int .i64 x611004_1, u611005, u611006, u611007]])
 case atStart => exact ⟨((([] : List Bool))), (0), (0), (t594), (t595), (t596), (t599), (t600), (t601), (t604), (t607), (v597), (v602), (v605), (v608), RS, RS, H', ⟨Nat.le_refl _⟩, (MD HM).pick [6, 1, 2, 3, 4, 0, 5]⟩
 case round =>
  clear H' HM
  obtain ⟨x8_1, x9_1, x19_1, x611000_1, x611001_1, x611002_1, x611003_1, x611004_1, x611005_1, x611006_1, x611007_1, u611002, u611005, u611006, u611007, rfl, rfl, HA, HK1, HM⟩ := hrel
  cases gk with
  | zero => exact absurd HA.out (by simp [impl_asked.l0])
  | succ k1 =>
   have H := HA.out
   clear HA
   simp only [impl_asked.l0] at H
   go_upto_if 20 with (fail)
   replace H := IT H; rcases H with ⟨c8, H⟩ | ⟨c8, H⟩
   ·have c8b0 : decide (x19_1 < (l1.length : Int)) = true := decide_eq_true c8
    clear c8
    (first | rw [c8b0] | (simp only [i64_w, i32_w]; rw [c8b0]) | skip)
    replace H := GD H; obtain ⟨c9, H⟩ := H
    have c9b0 : decide (0 ≤ x19_1) = true := decide_eq_true c9
    clear c9
    replace H := GD H; obtain ⟨c10, H⟩ := H
    have c10b0 : decide (x19_1 < (l1.length : Int)) = true := decide_eq_true c10
    clear c10
    replace H := BN H; obtain ⟨⟨t615, t616, t617, t620, t621, t622, t625, t628, t631, t632⟩, A11, H⟩ := H
    replace H := GD H; obtain ⟨c13, H⟩ := H
    have LMc13 := Aside0.mk c13
    clear c13
    have H' := Aside0.mk H
    clear H
    have p614 : 0 ≤ (x19_1 : Int) := of_decide_eq_true AS
    have q614 : (x19_1 : Int) < (l1.length : Int) := of_decide_eq_true AS
    obtain ⟨ad614, e614, hx614_0⟩ := Kd.at_string (HM.came HR1.out) x19_1 p614 q614
    cases e614
    replace p614 := eq_true p614
    replace q614 := eq_true q614
    go_wp2_with (first | ((with_reducible refine gC 46 rfl ?_); refine pC (some 26) rfl #[.pointer (some ⟨gb610, 0, none⟩), .string (rdOf ByteArray.empty l1 x19_1)] rfl Try.func46 (impl_cache_ask.calls k1 gb610 x611000_1 x611001_1 u611002 x611002_1 x611003_1 x611004_1 u611005 x611005_1 u611006 x611006_1 u611007 x611007_1 (rdOf ByteArray.empty l1 x19_1) t615 t616 t617 t620 t621 t622 t625 t628 t631 t632 _ _ _ (HM.focus [0, 5] [1, 2, 3, 4, 6]) A11.out) ?_; rintro e w12 ⟨v618, v623, v626, v629, rfl, hR⟩; refine ⟨_, rfl, ?_⟩; replace HM := nzM hR.unfocus; clear hR) | ((with_reducible refine gN 31 rfl ?_); refine pL 31 Kd.bool 4 [t631] [.bool t631] (Reps.one (show Kd.M Kd.bool _ _ _ t631 [.bool t631] from rfl) (Reps.none _ _)) HM rfl ?_; clear HM; intro v15 w14 HM; obtain ⟨Xv15, kv15, ev15⟩ := HM.rdR 7 rfl; subst ev15) | ((with_reducible refine gate_builtin (b := .append) (xs := #[.tmp 29, .tmp 31]) rfl ?_); refine pA 0 (.tmp 29) (.tmp 31) 57 4 Kd.bool u8 x8_1 [t631] Xv15 ([t631].length) kv15 HM rfl Try.underlying57 info4 rfl (HM.CR 7 rfl).2.2 (by have h_ := LMc13.out; simp only [List.length_singleton]; omega) ?_; clear HM; intro v634 w16 HM))
    go_roundg k1
    case measure => have := HK1.out; omega
    case rel => exact ⟨((x8_1 ++ [t631])), (wrap64 (x9_1 + t632)), (wrap64 (x19_1 + 1)), (t615), (t616), (t617), (t620), (t621), (t622), (t625), (t628), (v618), (v623), (v626), (v629), RS, RS, H', ⟨by have := HK1.out; omega⟩, (MD HM).pick [0, 2, 3, 4, 5, 1, 6]⟩
   ·have c8b0 : decide (x19_1 < (l1.length : Int)) = false := decide_eq_false c8
    clear c8
    (first | rw [c8b0] | (simp only [i64_w, i32_w]; rw [c8b0]) | skip)
    simp only [Option.some.injEq, Prod.mk.injEq] at H
    obtain ⟨rfl, rfl, rfl, rfl, rfl, rfl, rfl, rfl, rfl, rfl⟩ := H
    go_wp2
    go_ret3
    exact ⟨_, _, _, _, _, _, ER, (MD HM).pick [1, 2, 3, 4, 0, 6]⟩
end Go.Proofs.Ytlokjgngjgbpmaa.G

namespace Go.Proofs.Ytlokjgngjgbpmaa.G
open Go.RowKit Go.Proofs.YtlokjgngjgbpmaaW.PrintWords Go.Proofs.YtlokjgngjgbpmaaW.PrintLast Go.Proofs.YtlokjgngjgbpmaaW.PrintMore Go.Proofs.Ytlokjgngjgbpmaa.Sh
attribute [local go_sem] max2_int min2_int max_two min_two max_three min_three max_four min_four
set_option linter.unusedVariables false
set_option linter.unusedSimpArgs false
def impl_hitsIn.l0 : Nat → Int → List Bool → Int → Int → Option (Int)
 | 0, _, _, _, _ => none
 | k + 1, x3, x6, x7, x8 => if x8 < x7 then (if 0 ≤ x8 then (if x8 < (x6.length : Int) then (if rdOf false x6 x8 = true then (impl_hitsIn.l0 k (wrap64 (x3 + 1)) x6 x7 (wrap64 (x8 + 1))) else (impl_hitsIn.l0 k x3 x6 x7 (wrap64 (x8 + 1)))) else (none)) else (none)) else (some x3)
def impl_hitsIn.f (k : Nat) (l0 : List Bool) : Option (Int) := impl_hitsIn.l0 k 0 l0 (l0.length : Int) 0
set_option maxHeartbeats 8000000 in
set_option maxRecDepth 100000 in
theorem impl_hitsIn.calls (k : Nat) (A0 : Option Addr) (c0 : Nat) (l0 : List Bool) (r : Int) (w : World) (hr0 : Kd.C Kd.bool w A0 l0.length l0) (hc0 : l0.length ≤ c0) (h : impl_hitsIn.f k l0 = some r) :
  Calls Try.prog 32 #[.slice A0 l0.length c0] w fun e w' => e = .returned (.int .i64 r) ∧ Drawn0 w w' := by
 have HR0 := Aside0.mk hr0
 have HC0 := Aside0.mk hc0
 clear hr0 hc0
 have H : (impl_hitsIn.l0 k 0 l0 (l0.length : Int) 0) = some r := h
 clear h
 have H' := Aside0.mk H
 clear H
 go_enter Try.func32, Try.ntmps32
 go_wp2
 go_loopg [3, 8] k (fun kq v3 v8 w' => ∃ (x3_1 : Int) (x8_1 : Int), v3 = .int .i64 x3_1 ∧ v8 = .int .i64 x8_1 ∧ Aside0 (impl_hitsIn.l0 kq x3_1 l0 (l0.length : Int) x8_1 = some r) ∧ Aside0 (kq ≤ k) ∧ Drawn0 w w')
 case atStart => exact ⟨(0), (0), RS, RS, H', ⟨Nat.le_refl _⟩, DR⟩
 case round =>
  clear H'
  obtain ⟨x3_1, x8_1, rfl, rfl, HA, HK1, ⟨m1, rfl⟩⟩ := hrel
  cases gk with
  | zero => exact absurd HA.out (by simp [impl_hitsIn.l0])
  | succ k1 =>
   have H := HA.out
   clear HA
   simp only [impl_hitsIn.l0] at H
   by_cases c2 : x8_1 < (l0.length : Int)
   ·rw [if_pos c2] at H
    have c2b0 : decide (x8_1 < (l0.length : Int)) = true := decide_eq_true c2
    clear c2
    by_cases c3 : 0 ≤ x8_1
    ·rw [if_pos c3] at H
     have c3b0 : decide (0 ≤ x8_1) = true := decide_eq_true c3
     clear c3
     by_cases c4 : x8_1 < (l0.length : Int)
     ·rw [if_pos c4] at H
      have c4b0 : decide (x8_1 < (l0.length : Int)) = true := decide_eq_true c4
      clear c4
      obtain ⟨bq5, hbq5⟩ : ∃ b_ : Bool, b_ = (rdOf false l0 x8_1) := ⟨_, rfl⟩
      replace H : (if bq5 = true then (impl_hitsIn.l0 k1 (wrap64 (x3_1 + 1)) l0 (l0.length : Int) (wrap64 (x8_1 + 1))) else (impl_hitsIn.l0 k1 x3_1 l0 (l0.length : Int) (wrap64 (x8_1 + 1)))) = some r := by rw [← hbq5] at H; exact H
      have Nbq5 := Aside0.mk hbq5
      clear hbq5
      by_cases c6 : bq5 = true
      ·subst c6
       replace H := IP H
       have H' := Aside0.mk H
       clear H
       have p637 : 0 ≤ (x8_1 : Int) := of_decide_eq_true AS
       have q637 : x8_1 < (l0.length : Int) := of_decide_eq_true AS
       obtain ⟨ad637, e637, hx637_0⟩ := Kd.at_bool HR0.out x8_1 p637 q637
       (try rw [← Nbq5.out] at hx637_0)
       cases e637
       replace p637 := eq_true p637
       replace q637 := eq_true q637
       go_wp2
       go_roundg k1
       case measure => have := HK1.out; omega
       case rel => exact ⟨(wrap64 (x3_1 + 1)), (wrap64 (x8_1 + 1)), RS, RS, H', ⟨by have := HK1.out; omega⟩, DR⟩
      ·replace c6 := Bool.eq_false_iff.mpr c6
       subst c6
       replace H := IN H
       have H' := Aside0.mk H
       clear H
       have p637 : 0 ≤ (x8_1 : Int) := of_decide_eq_true AS
       have q637 : x8_1 < (l0.length : Int) := of_decide_eq_true AS
       obtain ⟨ad637, e637, hx637_0⟩ := Kd.at_bool HR0.out x8_1 p637 q637
       (try rw [← Nbq5.out] at hx637_0)
       cases e637
       replace p637 := eq_true p637
       replace q637 := eq_true q637
       go_wp2
       go_roundg k1
       case measure => have := HK1.out; omega
       case rel => exact ⟨(x3_1), (wrap64 (x8_1 + 1)), RS, RS, H', ⟨by have := HK1.out; omega⟩, DR⟩
     ·rw [if_neg c4] at H
      exact absurd H (by simp)
    ·rw [if_neg c3] at H
     exact absurd H (by simp)
   ·rw [if_neg c2] at H
    have c2b0 : decide (x8_1 < (l0.length : Int)) = false := decide_eq_false c2
    clear c2
    obtain rfl := Option.some.inj H
    go_wp2
    go_ret
    exact ⟨by first | rfl | (simp; done) | (simp [*]; done), DR⟩
end Go.Proofs.Ytlokjgngjgbpmaa.G
