/- Part 4 of the claim FnSave, merged by pack.py (this session's program) out of: the print's words, cut to what is needed; texts that gen.py printed (it runs the kit's print in place); texts of this session. -/
import Derived.RegionTactic
import Derived.Test.YtnlnifpehndacaaGreatKFnSave0
import Derived.Test.YtnlnifpehndacaaGreatKFnSave1
import Derived.Test.YtnlnifpehndacaaGreatKFnSave3
namespace Go.Proofs.YtnlnifpehndacaaGreat.Man
end Go.Proofs.YtnlnifpehndacaaGreat.Man
namespace Go.Proofs.YtnlnifpehndacaaGreat.Mm
end Go.Proofs.YtnlnifpehndacaaGreat.Mm
namespace Go.Proofs.YtnlnifpehndacaaGreat.Sh
end Go.Proofs.YtnlnifpehndacaaGreat.Sh
set_option maxHeartbeats 8000000
set_option maxRecDepth 100000
namespace Go.Proofs.YtnlnifpehndacaaGreat.G
open Go.RowKit Go.Proofs.YtnlnifpehndacaaGreatW.PrintWords Go.Proofs.YtnlnifpehndacaaGreatW.PrintLast Go.Proofs.YtnlnifpehndacaaGreatW.PrintMore Go.Proofs.YtnlnifpehndacaaGreat.Sh
attribute [local go_sem] max2_int min2_int max_two min_two max_three min_three max_four min_four
set_option linter.unusedVariables false
set_option linter.unusedSimpArgs false
open Go.Proofs.YtnlnifpehndacaaGreat.Mm
def impl_Get.f (k : Nat) (a0_0 : Int) (a0_1 : Int) (l0_2 : List (S60)) (l0_3 : List (S60)) (l0_4 : List Int) (a1 : ByteArray) : Option (Int × Int × (List (S60)) × (List (S60)) × List Int × ByteArray × Bool) := (impl_ThreeOk.f k a0_0 a0_1 l0_2 l0_3 l0_4).bind fun t810 => (if t810 = true then ((impl_copyThree.f a0_0 a0_1 l0_2 l0_3 l0_4).bind fun bt811 => ((impl_Three_item.f bt811.2.2.1 bt811.2.2.2.1 a1).bind fun t823 => (if t823 < 0 then (some (bt811.1, bt811.2.1, bt811.2.2.1, bt811.2.2.2.1, bt811.2.2.2.2, (⟨#[]⟩ : ByteArray), false)) else (if t823 < (bt811.2.2.1.length : Int) then (if 0 ≤ t823 then ((some (bt811.2.2.1.set (t823 : Int).toNat (⟨(rd_T60 bt811.2.2.1 t823).f0, (rd_T60 bt811.2.2.1 t823).f1, mn 3 (wrap64 (((rd_T60 bt811.2.2.1 t823).f2) + 1))⟩ : S60) : List (S60))).bind fun y824 => (some (bt811.1, bt811.2.1, y824, bt811.2.2.2.1, bt811.2.2.2.2, (rd_T60 y824 t823).f1, true))) else (none)) else (if 0 ≤ (wrap64 (t823 - (bt811.2.2.1.length : Int))) then (if (wrap64 (t823 - (bt811.2.2.1.length : Int))) < (bt811.2.2.2.1.length : Int) then ((some (bt811.2.2.2.1.set ((wrap64 (t823 - (bt811.2.2.1.length : Int))) : Int).toNat (⟨(rd_T60 bt811.2.2.2.1 (wrap64 (t823 - (bt811.2.2.1.length : Int)))).f0, (rd_T60 bt811.2.2.2.1 (wrap64 (t823 - (bt811.2.2.1.length : Int)))).f1, mn 3 (wrap64 (((rd_T60 bt811.2.2.2.1 (wrap64 (t823 - (bt811.2.2.1.length : Int)))).f2) + 1))⟩ : S60) : List (S60))).bind fun y826 => (some (bt811.1, bt811.2.1, bt811.2.2.1, y826, bt811.2.2.2.2, (rd_T60 y826 (wrap64 (t823 - (bt811.2.2.1.length : Int)))).f1, true))) else (none)) else (none)))))) else (some (0, 0, ([] : List (S60)), ([] : List (S60)), ([] : List Int), (⟨#[]⟩ : ByteArray), false)))
def impl_Get.T8 : Bool × List (List Nat × List Nat) := (true, [([], []), ([], []), ([1], [1]), ([2], [2]), ([3], [3]), ([0, 0], [0]), ([4, 5, 0, 1, 2, 3, 4, 5], [4]), ([6, 0, 1, 2, 3, 4, 5, 6], [])])
def impl_Get.B8 : List Nat := [0, 0, 2, 6, 14, 1, 63, 127]
theorem impl_Get.tab8 : rtab .any (opsOf Tryz.f39 8) = impl_Get.T8 := by kernel_rfl
theorem impl_Get.bits8 : waitsOk impl_Get.T8.2 impl_Get.B8 = true := by kernel_rfl
theorem impl_Get.calls (k : Nat) (a0_0 : Int) (a0_1 : Int) (A0_2 : Option Addr) (c0_2 : Nat) (l0_2 : List (S60)) (A0_3 : Option Addr) (c0_3 : Nat) (l0_3 : List (S60)) (A0_4 : Option Addr) (c0_4 : Nat) (l0_4 : List Int) (a1 : ByteArray) (r1 : Int) (r2 : Int) (r3 : List (S60)) (r4 : List (S60)) (r5 : List Int) (r6 : ByteArray) (r7 : Bool) (w : World) (hr0_2 : Kd.C k60 w A0_2 l0_2.length l0_2) (hc0_2 : l0_2.length ≤ c0_2) (hr0_3 : Kd.C k60 w A0_3 l0_3.length l0_3) (hc0_3 : l0_3.length ≤ c0_3) (hr0_4 : Kd.C (Kd.int .i64) w A0_4 l0_4.length l0_4) (hc0_4 : l0_4.length ≤ c0_4) (h : impl_Get.f k a0_0 a0_1 l0_2 l0_3 l0_4 a1 = some (r1, r2, r3, r4, r5, r6, r7)) :
  Calls Tryz.prog 39 #[.agg #[.int .i64 a0_0, .int .i64 a0_1, .slice A0_2 l0_2.length c0_2, .slice A0_3 l0_3.length c0_3, .slice A0_4 l0_4.length c0_4], .string a1] w fun e w' => ∃ v2_ v3_ v4_ : Value, e = .returned (.tuple #[.agg #[.int .i64 r1, .int .i64 r2, v2_, v3_, v4_], .string r6, .bool r7]) ∧ Mem w [] w' [rowR k60 60 v2_ r3, rowR k60 60 v3_ r4, rowR (Kd.int .i64) 3 v4_ r5] := by
 have hu26 := Tryz.underlying26
 have HR0_2 := Aside0.mk hr0_2
 have HC0_2 := Aside0.mk hc0_2
 clear hr0_2 hc0_2
 have HR0_3 := Aside0.mk hr0_3
 have HC0_3 := Aside0.mk hc0_3
 clear hr0_3 hc0_3
 have HR0_4 := Aside0.mk hr0_4
 have HC0_4 := Aside0.mk hc0_4
 clear hr0_4 hc0_4
 have HM := Mem.nil w
 have H := h
 clear h
 unfold impl_Get.f at H
 go_enter Tryz.func39, Tryz.ntmps39
 replace H := BN H; obtain ⟨t810, A6, H⟩ := H
 replace H := IB H
 rcases H with ⟨c8, H⟩ | ⟨c8, H⟩
 ·subst c8
  replace H := BN H; obtain ⟨⟨t811, t812, t813, t816, t819⟩, A10, H⟩ := H
  replace H := BN H; obtain ⟨t823, A18, H⟩ := H
  replace H := IT H; rcases H with ⟨c20, H⟩ | ⟨c20, H⟩
  ·have c20b0 : decide (t823 < 0) = true := decide_eq_true c20
   clear c20
   simp only [Option.some.injEq, Prod.mk.injEq] at H
   obtain ⟨rfl, rfl, rfl, rfl, rfl, rfl, rfl⟩ := H
   go_wp2_with (first | ((with_reducible refine gN 2 rfl ?_); refine pB 2 26 [.int .i64 a0_0, .int .i64 a0_1, .slice A0_2 l0_2.length c0_2, .slice A0_3 l0_3.length c0_3, .slice A0_4 l0_4.length c0_4] HM rfl ?_; clear HM; intro gb808 w3 HM) | ((with_reducible refine gN 4 rfl ?_); refine pB 4 26 [.int .i64 0, .int .i64 0, .slice none 0 0, .slice none 0 0, .slice none 0 0] HM rfl ?_; clear HM; intro gb809 w4 HM; obtain ⟨_,_,_,_,_,_,_,_,_,_⟩ := bk5 (HM.bx 0 rfl)) | ((with_reducible refine gC 11 rfl ?_); refine pC (some 10) rfl #[.agg #[.int .i64 a0_0, .int .i64 a0_1, .slice A0_2 l0_2.length c0_2, .slice A0_3 l0_3.length c0_3, .slice A0_4 l0_4.length c0_4]] rfl Tryz.func11 (impl_ThreeOk.calls k a0_0 a0_1 _ _ l0_2 _ _ l0_3 _ _ l0_4 true _ (HM.came HR0_2.out) HC0_2.out (HM.came HR0_3.out) HC0_3.out (HM.came HR0_4.out) HC0_4.out A6.out) ?_; rintro e w7 ⟨rfl, hR⟩; refine ⟨_, rfl, ?_⟩; replace HM := HM.call hR; clear hR; obtain ⟨_,_,_,_,_,_,_,_,_,_⟩ := bk5 (HM.bx 0 rfl)) | ((with_reducible refine gC 15 rfl ?_); refine pC (some 14) rfl #[.agg #[.int .i64 a0_0, .int .i64 a0_1, .slice A0_2 l0_2.length c0_2, .slice A0_3 l0_3.length c0_3, .slice A0_4 l0_4.length c0_4]] rfl Tryz.func15 (impl_copyThree.calls a0_0 a0_1 _ _ l0_2 _ _ l0_3 _ _ l0_4 t811 t812 t813 t816 t819 _ (HM.came HR0_2.out) HC0_2.out (HM.came HR0_3.out) HC0_3.out (HM.came HR0_4.out) HC0_4.out A10.out) ?_; rintro e w11 ⟨v814, v817, v820, rfl, hR⟩; refine ⟨_, rfl, ?_⟩; replace HM := HM.call hR; clear hR) | ((with_reducible refine gN 7 rfl ?_); refine pB 7 26 [.int .i64 0, .int .i64 0, .slice none 0 0, .slice none 0 0, .slice none 0 0] HM rfl ?_; clear HM; intro gb822 w12 HM; obtain ⟨Xo13, ko13, rfl⟩ := HM.rdR 2 rfl; obtain ⟨Xo14, ko14, rfl⟩ := HM.rdR 3 rfl; obtain ⟨Xo15, ko15, rfl⟩ := HM.rdR 4 rfl) | ((with_reducible refine gS 7 rfl ?_); refine pS 5 7 0 [.int .i64 t811, .int .i64 t812, .slice Xo13 t813.length ko13, .slice Xo14 t816.length ko14, .slice Xo15 t819.length ko15] HM rfl rfl ?_; clear HM; intro w16 HM; obtain ⟨_,_,_,_,_,_,_,_,_,_⟩ := bk5 (HM.bx 5 rfl)) | ((with_reducible refine gC 57 rfl ?_); refine pC (some 16) rfl #[.pointer (some ⟨gb822, 0, none⟩), .string a1] rfl Tryz.func57 (impl_Three_item.calls gb822 t811 t812 (.slice Xo15 t819.length ko15) Xo13 ko13 t813 Xo14 ko14 t816 a1 t823 _ (HM.CR 2 rfl).2.2 (HM.CR 2 rfl).2.1 (HM.CR 3 rfl).2.2 (HM.CR 3 rfl).2.1 (HM.bx 5 rfl) A18.out) ?_; rintro e w19 ⟨rfl, hb⟩; refine ⟨_, rfl, ?_⟩; replace HM := HM.below hb; clear hb; (first | rw [impl_Three_item.ptr_nil (by assumption)] | rw [impl_Three_item.ptr_small (by assumption) (by assumption)] | rw [impl_Three_item.ptr_main (by assumption) (by assumption)] | rw [impl_Three_item.ptr_nil' (by assumption)] | rw [impl_Three_item.ptr_small' (by assumption) (by assumption)] | rw [impl_Three_item.ptr_main' (by assumption) (by assumption)]); obtain ⟨_,_,_,_,_,_,_,_,_,_⟩ := bk5 (HM.bx 5 rfl)) | ((with_reducible refine gS 4 rfl ?_); refine pS 1 4 0 [.int .i64 t811, .int .i64 t812, .slice Xo13 t813.length ko13, .slice Xo14 t816.length ko14, .slice Xo15 t819.length ko15] HM rfl rfl ?_; clear HM; intro w22 HM))
   refine bodyPost_ret (results_ctt rfl _ _ gb809 26 #[.int .i64 t811, .int .i64 t812, .slice Xo13 t813.length ko13, .slice Xo14 t816.length ko14, .slice Xo15 t819.length ko15] (0, 0) _ rfl (HM.bx 1 rfl) Tryz.underlying26 rfl (by kernel_rfl)) rfl ?_
   exact ⟨_, _, _, ER, (MD HM).pick [2, 3, 4]⟩
  ·have c20b0 : decide (t823 < 0) = false := decide_eq_false c20
   clear c20
   replace H := IT H; rcases H with ⟨c24, H⟩ | ⟨c24, H⟩
   ·have c24b0 : decide (t823 < (t813.length : Int)) = true := decide_eq_true c24
    clear c24
    replace H := GD H; obtain ⟨c25, H⟩ := H
    have c25b0 : decide (0 ≤ t823) = true := decide_eq_true c25
    clear c25
    obtain ⟨ji28, hji28⟩ : ∃ j_ : Int, (mn 3 (wrap64 (((rd_T60 t813 t823).f2) + 1))) = j_ := ⟨_, rfl⟩
    (first | rw [hji28] at H | simp only [hji28] at H | skip)
    have hji28_ : (if (wrap64 (((rd_T60 t813 t823).f2) + 1)) < 3 then (wrap64 (((rd_T60 t813 t823).f2) + 1)) else 3) = ji28 := hji28
    (try (have hji28h : ji28 ≤ 3 := by (rw [← hji28]; unfold mn; (repeat' split) <;> omega)))
    replace H := BLt H; obtain ⟨y824, Ny824, H⟩ := H
    replace Ny824 := Aside0.mk Ny824
    try go_wp2_with (first | ((with_reducible refine gN 2 rfl ?_); refine pB 2 26 [.int .i64 a0_0, .int .i64 a0_1, .slice A0_2 l0_2.length c0_2, .slice A0_3 l0_3.length c0_3, .slice A0_4 l0_4.length c0_4] HM rfl ?_; clear HM; intro gb808 w3 HM) | ((with_reducible refine gN 4 rfl ?_); refine pB 4 26 [.int .i64 0, .int .i64 0, .slice none 0 0, .slice none 0 0, .slice none 0 0] HM rfl ?_; clear HM; intro gb809 w4 HM; obtain ⟨_,_,_,_,_,_,_,_,_,_⟩ := bk5 (HM.bx 0 rfl)) | ((with_reducible refine gC 11 rfl ?_); refine pC (some 10) rfl #[.agg #[.int .i64 a0_0, .int .i64 a0_1, .slice A0_2 l0_2.length c0_2, .slice A0_3 l0_3.length c0_3, .slice A0_4 l0_4.length c0_4]] rfl Tryz.func11 (impl_ThreeOk.calls k a0_0 a0_1 _ _ l0_2 _ _ l0_3 _ _ l0_4 true _ (HM.came HR0_2.out) HC0_2.out (HM.came HR0_3.out) HC0_3.out (HM.came HR0_4.out) HC0_4.out A6.out) ?_; rintro e w7 ⟨rfl, hR⟩; refine ⟨_, rfl, ?_⟩; replace HM := HM.call hR; clear hR; obtain ⟨_,_,_,_,_,_,_,_,_,_⟩ := bk5 (HM.bx 0 rfl)) | ((with_reducible refine gC 15 rfl ?_); refine pC (some 14) rfl #[.agg #[.int .i64 a0_0, .int .i64 a0_1, .slice A0_2 l0_2.length c0_2, .slice A0_3 l0_3.length c0_3, .slice A0_4 l0_4.length c0_4]] rfl Tryz.func15 (impl_copyThree.calls a0_0 a0_1 _ _ l0_2 _ _ l0_3 _ _ l0_4 t811 t812 t813 t816 t819 _ (HM.came HR0_2.out) HC0_2.out (HM.came HR0_3.out) HC0_3.out (HM.came HR0_4.out) HC0_4.out A10.out) ?_; rintro e w11 ⟨v814, v817, v820, rfl, hR⟩; refine ⟨_, rfl, ?_⟩; replace HM := HM.call hR; clear hR) | ((with_reducible refine gN 7 rfl ?_); refine pB 7 26 [.int .i64 0, .int .i64 0, .slice none 0 0, .slice none 0 0, .slice none 0 0] HM rfl ?_; clear HM; intro gb822 w12 HM; obtain ⟨Xo13, ko13, rfl⟩ := HM.rdR 2 rfl; obtain ⟨Xo14, ko14, rfl⟩ := HM.rdR 3 rfl; obtain ⟨Xo15, ko15, rfl⟩ := HM.rdR 4 rfl) | ((with_reducible refine gS 7 rfl ?_); refine pS 5 7 0 [.int .i64 t811, .int .i64 t812, .slice Xo13 t813.length ko13, .slice Xo14 t816.length ko14, .slice Xo15 t819.length ko15] HM rfl rfl ?_; clear HM; intro w16 HM; obtain ⟨_,_,_,_,_,_,_,_,_,_⟩ := bk5 (HM.bx 5 rfl)) | ((with_reducible refine gC 57 rfl ?_); refine pC (some 16) rfl #[.pointer (some ⟨gb822, 0, none⟩), .string a1] rfl Tryz.func57 (impl_Three_item.calls gb822 t811 t812 (.slice Xo15 t819.length ko15) Xo13 ko13 t813 Xo14 ko14 t816 a1 t823 _ (HM.CR 2 rfl).2.2 (HM.CR 2 rfl).2.1 (HM.CR 3 rfl).2.2 (HM.CR 3 rfl).2.1 (HM.bx 5 rfl) A18.out) ?_; rintro e w19 ⟨rfl, hb⟩; refine ⟨_, rfl, ?_⟩; replace HM := HM.below hb; clear hb; have pf27 : 0 ≤ (t823 : Int) := of_decide_eq_true AS; have qf27 : (t823 : Int) < ((t813.length : Int) : Int) := of_decide_eq_true AS; obtain ⟨gof27, eff27⟩ := HM.form 2 rfl (by have h_ := (HM.CR 2 rfl).1; omega); subst eff27; clear pf27 qf27; (first | rw [impl_Three_item.ptr_nil (by assumption)] | rw [impl_Three_item.ptr_small (by assumption) (by assumption)] | rw [impl_Three_item.ptr_main (by assumption) (by assumption)] | rw [impl_Three_item.ptr_nil' (by assumption)] | rw [impl_Three_item.ptr_small' (by assumption) (by assumption)] | rw [impl_Three_item.ptr_main' (by assumption) (by assumption)]); obtain ⟨_,_,_,_,_,_,_,_,_,_⟩ := bk5 (HM.bx 5 rfl); have p26 : 0 ≤ (t823 : Int) := of_decide_eq_true AS; have q26 : (t823 : Int) < ((t813.length : Int) : Int) := of_decide_eq_true AS; obtain ⟨hx26_0, hx26_1, hx26_2, hf26_0, hf26_1, hf26_2⟩ := HM.el3 2 rfl z60 (t823 : Int) p26 (by have h_ := (HM.CR 2 rfl).1; omega) (.string ((rd_T60 t813 t823).f0)) (.string ((rd_T60 t813 t823).f1)) (.int .i64 ((rd_T60 t813 t823).f2)) (fun _ _ h => k60_openM h); replace p26 := eq_true p26; replace q26 := eq_true q26) | ((with_reducible refine gS 28 rfl ?_); refine pPR 2 28 (t823 : Int) 2 [.int .i64 ji28] k60 60 t813 (⟨(rd_T60 t813 t823).f0, (rd_T60 t813 t823).f1, ji28⟩ : S60) z60 [.string ((rd_T60 t813 t823).f0), .string ((rd_T60 t813 t823).f1), .int .i64 ((rd_T60 t813 t823).f2)] HM rfl rfl (of_decide_eq_true AS) (by have h_ : (t823 : Int) < ((t813.length : Int) : Int) := of_decide_eq_true AS; have e_ := (HM.CR 2 rfl).1; omega) (fun _ _ h => k60_openM h) (k60_mkM _ _ _ (⟨(rd_T60 t813 t823).f0, (rd_T60 t813 t823).f1, ji28⟩ : S60)) ?_; clear HM; intro w29 HM; replace HM := HM.nm 2 rfl Ny824.out; have p30 : 0 ≤ (t823 : Int) := of_decide_eq_true AS; have q30 : (t823 : Int) < ((t813.length : Int) : Int) := of_decide_eq_true AS; obtain ⟨hx30_0, hx30_1, hx30_2, hf30_0, hf30_1, hf30_2⟩ := HM.el3 2 rfl z60 (t823 : Int) p30 (by have h_ := (HM.CR 2 rfl).1; omega) (.string ((rd_T60 y824 t823).f0)) (.string ((rd_T60 y824 t823).f1)) (.int .i64 ((rd_T60 y824 t823).f2)) (fun _ _ h => k60_openM h); replace p30 := eq_true p30; replace q30 := eq_true q30))
    have p825 : 0 ≤ (t823 : Int) := of_decide_eq_true AS
    have q825 : (t823 : Int) < (y824.length : Int) := (by have h_ : (t823 : Int) < ((t813.length : Int) : Int) := of_decide_eq_true AS; first | exact h_ | (simp only [Ny824.out, List.length_set] at h_ ⊢; exact h_))
    have ql825 : ((t823 : Int) < ((t813.length : Int) : Int)) = True := eq_true (of_decide_eq_true AS)
    obtain ⟨ad825, e825, hx825_0, hx825_1, hx825_2⟩ := at_T60 (HM.CR 2 rfl).2.2 t823 p825 q825
    obtain rfl := Option.some.inj e825
    (first | simp only [add_plain] at hx825_0 | simp only [add_at] at hx825_0 | simp only [Addr.add, Nat.zero_add] at hx825_0 | skip)
    (first | simp only [add_plain] at hx825_1 | simp only [add_at] at hx825_1 | simp only [Addr.add, Nat.zero_add] at hx825_1 | skip)
    (first | simp only [add_plain] at hx825_2 | simp only [add_at] at hx825_2 | simp only [Addr.add, Nat.zero_add] at hx825_2 | skip)
    replace p825 := eq_true p825
    replace q825 := eq_true q825
    refine RGN 8 [0, 1, 2, 3, 4, 5, 6, 7] (fun a0 b a w' => a = putSel a0 b [(0, 29, .agg #[.int .i64 t811, .int .i64 t812, .slice (some ⟨gof27, 0, none⟩) t813.length ko13, .slice Xo14 t816.length ko14, .slice Xo15 t819.length ko15]), (1, 30, .pointer (some ⟨gof27, (t823 : Int).toNat * 3, none⟩)), (2, 31, .pointer (some ⟨gof27, (t823 : Int).toNat * 3, none⟩)), (3, 32, .pointer (some ⟨gof27, (t823 : Int).toNat * 3 + 1, none⟩)), (4, 33, .string ((rd_T60 y824 t823).f1)), (6, 5, .string ((rd_T60 y824 t823).f1)), (7, 6, .bool true)] ∧ Mem w [] w' [box 26 gb808 [.int .i64 a0_0, .int .i64 a0_1, .slice A0_2 l0_2.length c0_2, .slice A0_3 l0_3.length c0_3, .slice A0_4 l0_4.length c0_4], sel (b 5) (box 26 gb809 [.int .i64 t811, .int .i64 t812, .slice (some ⟨gof27, 0, none⟩) t813.length ko13, .slice Xo14 t816.length ko14, .slice Xo15 t819.length ko15]) (box 26 gb809 [.int .i64 0, .int .i64 0, .slice none 0 0, .slice none 0 0, .slice none 0 0]), rowR k60 60 (.slice (some ⟨gof27, 0, none⟩) t813.length ko13) y824, rowR k60 60 (.slice Xo14 t816.length ko14) t816, rowR (Kd.int .i64) 3 (.slice Xo15 t819.length ko15) t819, box 26 gb822 [.int .i64 t811, .int .i64 t812, .slice (some ⟨gof27, 0, none⟩) t813.length ko13, .slice Xo14 t816.length ko14, .slice Xo15 t819.length ko15]]) impl_Get.tab8 impl_Get.bits8 ?_ ?_ ?_
    ·exact ⟨PS0' rfl _, (HM.drew).pick [0, 1, 2, 3, 4, 5]⟩
    ·clear HM
     refine SY ?_ ?_
     ·intro b a w ha HM hb hon hoff K hK
      obtain ⟨_,_,_,_,_,_,_,_,_,_⟩ := bk5 (HM.bx 5 rfl)
      have e7 := PG ha 7
      exact VL (.agg #[.int .i64 t811, .int .i64 t812, .slice (some ⟨gof27, 0, none⟩) t813.length ko13, .slice Xo14 t816.length ko14, .slice Xo15 t819.length ko15]) (hK.out _ _ ⟨PUT ha 0 hb, HM⟩)
     refine SY ?_ ?_
     ·intro b a w ha HM hb hon hoff K hK
      have e8 := PG ha 8
      exact VL (.pointer (some ⟨gof27, (t823 : Int).toNat * 3, none⟩)) (hK.out _ _ ⟨PUT ha 1 hb, HM⟩)
     refine SY ?_ ?_
     ·intro b a w ha HM hb hon hoff K hK
      have e30 := PE ha 1 hon
      exact VL (.pointer (some ⟨gof27, (t823 : Int).toNat * 3, none⟩)) (hK.out _ _ ⟨PUT ha 2 hb, HM⟩)
     refine SY ?_ ?_
     ·intro b a w ha HM hb hon hoff K hK
      have e31 := PE ha 2 hon
      exact VL (.pointer (some ⟨gof27, (t823 : Int).toNat * 3 + 1, none⟩)) (hK.out _ _ ⟨PUT ha 3 hb, HM⟩)
     refine SY ?_ ?_
     ·intro b a w ha HM hb hon hoff K hK
      have p825 : 0 ≤ (t823 : Int) := of_decide_eq_true AS
      have q825 : (t823 : Int) < (y824.length : Int) := (by have h_ : (t823 : Int) < ((t813.length : Int) : Int) := of_decide_eq_true AS; first | exact h_ | (simp only [Ny824.out, List.length_set] at h_ ⊢; exact h_))
      have ql825 : ((t823 : Int) < ((t813.length : Int) : Int)) = True := eq_true (of_decide_eq_true AS)
      obtain ⟨ad825, e825, hx825_0, hx825_1, hx825_2⟩ := at_T60 (HM.CR 2 rfl).2.2 t823 p825 q825
      obtain rfl := Option.some.inj e825
      (first | simp only [add_plain] at hx825_0 | simp only [add_at] at hx825_0 | simp only [Addr.add, Nat.zero_add] at hx825_0 | skip)
      (first | simp only [add_plain] at hx825_1 | simp only [add_at] at hx825_1 | simp only [Addr.add, Nat.zero_add] at hx825_1 | skip)
      (first | simp only [add_plain] at hx825_2 | simp only [add_at] at hx825_2 | simp only [Addr.add, Nat.zero_add] at hx825_2 | skip)
      replace p825 := eq_true p825
      replace q825 := eq_true q825
      have e32 := PE ha 3 hon
      exact VL (.string ((rd_T60 y824 t823).f1)) (hK.out _ _ ⟨PUT ha 4 hb, HM⟩)
     refine SY ?_ ?_
     ·intro b a w ha HM hb hon hoff K hK
      replace HM := HM.sF 1 rfl hb
      have e4 := PG ha 4
      have e29 := PE ha 0 hon
      refine ST (eS 1 4 0 [.int .i64 t811, .int .i64 t812, .slice (some ⟨gof27, 0, none⟩) t813.length ko13, .slice Xo14 t816.length ko14, .slice Xo15 t819.length ko15] HM rfl rfl ?_ (hp := (eval_of e4)) (hx := (by rw [eval_of e29]; rfl)))
      clear HM
      intro w34 HM
      exact hK.out _ _ ⟨PUS ha, (HM).pick [0, 1, 2, 3, 4, 5]⟩
     refine SY ?_ ?_
     ·intro b a w ha HM hb hon hoff K hK
      have e33 := PE ha 4 hon
      exact VL (.string ((rd_T60 y824 t823).f1)) (hK.out _ _ ⟨PUT ha 5 hb, HM⟩)
     refine SY ?_ ?_
     ·intro b a w ha HM hb hon hoff K hK
      exact VL (.bool true) (hK.out _ _ ⟨PUT ha 6 hb, HM⟩)
     exact steps_nil
    rintro _ w35 ⟨rfl, HM⟩
    replace HM := HM.sT 1 rfl rfl
    simp only [putSel, if_true, Act.put, List.setIfInBounds_toArray, List.set_cons_zero, List.set_cons_succ, gt_iff_lt, ge_iff_le]
    simp only [Option.some.injEq, Prod.mk.injEq] at H
    obtain ⟨rfl, rfl, rfl, rfl, rfl, rfl, rfl⟩ := H
    go_wp2
    refine bodyPost_ret (results_ctt rfl _ _ gb809 26 #[.int .i64 t811, .int .i64 t812, .slice (some ⟨gof27, 0, none⟩) t813.length ko13, .slice Xo14 t816.length ko14, .slice Xo15 t819.length ko15] (0, 0) _ rfl (HM.bx 1 rfl) Tryz.underlying26 rfl (by kernel_rfl)) rfl ?_
    exact ⟨_, _, _, ER, (MD HM).pick [2, 3, 4]⟩
   ·have c24b0 : decide (t823 < (t813.length : Int)) = false := decide_eq_false c24
    clear c24
    replace H := GD H; obtain ⟨c36, H⟩ := H
    have c36b0 : decide (0 ≤ (wrap64 (t823 - (t813.length : Int)))) = true := decide_eq_true c36
    clear c36
    replace H := GD H; obtain ⟨c37, H⟩ := H
    have c37b0 : decide ((wrap64 (t823 - (t813.length : Int))) < (t816.length : Int)) = true := decide_eq_true c37
    clear c37
    obtain ⟨ji40, hji40⟩ : ∃ j_ : Int, (mn 3 (wrap64 (((rd_T60 t816 (wrap64 (t823 - (t813.length : Int)))).f2) + 1))) = j_ := ⟨_, rfl⟩
    (first | rw [hji40] at H | simp only [hji40] at H | skip)
    have hji40_ : (if (wrap64 (((rd_T60 t816 (wrap64 (t823 - (t813.length : Int)))).f2) + 1)) < 3 then (wrap64 (((rd_T60 t816 (wrap64 (t823 - (t813.length : Int)))).f2) + 1)) else 3) = ji40 := hji40
    (try (have hji40h : ji40 ≤ 3 := by (rw [← hji40]; unfold mn; (repeat' split) <;> omega)))
    replace H := BLt H; obtain ⟨y826, Ny826, H⟩ := H
    replace Ny826 := Aside0.mk Ny826
    try go_wp2_with (first | ((with_reducible refine gN 2 rfl ?_); refine pB 2 26 [.int .i64 a0_0, .int .i64 a0_1, .slice A0_2 l0_2.length c0_2, .slice A0_3 l0_3.length c0_3, .slice A0_4 l0_4.length c0_4] HM rfl ?_; clear HM; intro gb808 w3 HM) | ((with_reducible refine gN 4 rfl ?_); refine pB 4 26 [.int .i64 0, .int .i64 0, .slice none 0 0, .slice none 0 0, .slice none 0 0] HM rfl ?_; clear HM; intro gb809 w4 HM; obtain ⟨_,_,_,_,_,_,_,_,_,_⟩ := bk5 (HM.bx 0 rfl)) | ((with_reducible refine gC 11 rfl ?_); refine pC (some 10) rfl #[.agg #[.int .i64 a0_0, .int .i64 a0_1, .slice A0_2 l0_2.length c0_2, .slice A0_3 l0_3.length c0_3, .slice A0_4 l0_4.length c0_4]] rfl Tryz.func11 (impl_ThreeOk.calls k a0_0 a0_1 _ _ l0_2 _ _ l0_3 _ _ l0_4 true _ (HM.came HR0_2.out) HC0_2.out (HM.came HR0_3.out) HC0_3.out (HM.came HR0_4.out) HC0_4.out A6.out) ?_; rintro e w7 ⟨rfl, hR⟩; refine ⟨_, rfl, ?_⟩; replace HM := HM.call hR; clear hR; obtain ⟨_,_,_,_,_,_,_,_,_,_⟩ := bk5 (HM.bx 0 rfl)) | ((with_reducible refine gC 15 rfl ?_); refine pC (some 14) rfl #[.agg #[.int .i64 a0_0, .int .i64 a0_1, .slice A0_2 l0_2.length c0_2, .slice A0_3 l0_3.length c0_3, .slice A0_4 l0_4.length c0_4]] rfl Tryz.func15 (impl_copyThree.calls a0_0 a0_1 _ _ l0_2 _ _ l0_3 _ _ l0_4 t811 t812 t813 t816 t819 _ (HM.came HR0_2.out) HC0_2.out (HM.came HR0_3.out) HC0_3.out (HM.came HR0_4.out) HC0_4.out A10.out) ?_; rintro e w11 ⟨v814, v817, v820, rfl, hR⟩; refine ⟨_, rfl, ?_⟩; replace HM := HM.call hR; clear hR) | ((with_reducible refine gN 7 rfl ?_); refine pB 7 26 [.int .i64 0, .int .i64 0, .slice none 0 0, .slice none 0 0, .slice none 0 0] HM rfl ?_; clear HM; intro gb822 w12 HM; obtain ⟨Xo13, ko13, rfl⟩ := HM.rdR 2 rfl; obtain ⟨Xo14, ko14, rfl⟩ := HM.rdR 3 rfl; obtain ⟨Xo15, ko15, rfl⟩ := HM.rdR 4 rfl) | ((with_reducible refine gS 7 rfl ?_); refine pS 5 7 0 [.int .i64 t811, .int .i64 t812, .slice Xo13 t813.length ko13, .slice Xo14 t816.length ko14, .slice Xo15 t819.length ko15] HM rfl rfl ?_; clear HM; intro w16 HM; obtain ⟨_,_,_,_,_,_,_,_,_,_⟩ := bk5 (HM.bx 5 rfl)) | ((with_reducible refine gC 57 rfl ?_); refine pC (some 16) rfl #[.pointer (some ⟨gb822, 0, none⟩), .string a1] rfl Tryz.func57 (impl_Three_item.calls gb822 t811 t812 (.slice Xo15 t819.length ko15) Xo13 ko13 t813 Xo14 ko14 t816 a1 t823 _ (HM.CR 2 rfl).2.2 (HM.CR 2 rfl).2.1 (HM.CR 3 rfl).2.2 (HM.CR 3 rfl).2.1 (HM.bx 5 rfl) A18.out) ?_; rintro e w19 ⟨rfl, hb⟩; refine ⟨_, rfl, ?_⟩; replace HM := HM.below hb; clear hb; have pf39 : 0 ≤ ((wrap64 (t823 - (t813.length : Int))) : Int) := of_decide_eq_true AS; have qf39 : ((wrap64 (t823 - (t813.length : Int))) : Int) < ((t816.length : Int) : Int) := of_decide_eq_true AS; obtain ⟨gof39, eff39⟩ := HM.form 3 rfl (by have h_ := (HM.CR 3 rfl).1; omega); subst eff39; clear pf39 qf39; (first | rw [impl_Three_item.ptr_nil (by assumption)] | rw [impl_Three_item.ptr_small (by assumption) (by assumption)] | rw [impl_Three_item.ptr_main (by assumption) (by assumption)] | rw [impl_Three_item.ptr_nil' (by assumption)] | rw [impl_Three_item.ptr_small' (by assumption) (by assumption)] | rw [impl_Three_item.ptr_main' (by assumption) (by assumption)]); obtain ⟨_,_,_,_,_,_,_,_,_,_⟩ := bk5 (HM.bx 5 rfl); have p38 : 0 ≤ ((wrap64 (t823 - (t813.length : Int))) : Int) := of_decide_eq_true AS; have q38 : ((wrap64 (t823 - (t813.length : Int))) : Int) < ((t816.length : Int) : Int) := of_decide_eq_true AS; obtain ⟨hx38_0, hx38_1, hx38_2, hf38_0, hf38_1, hf38_2⟩ := HM.el3 3 rfl z60 ((wrap64 (t823 - (t813.length : Int))) : Int) p38 (by have h_ := (HM.CR 3 rfl).1; omega) (.string ((rd_T60 t816 (wrap64 (t823 - (t813.length : Int)))).f0)) (.string ((rd_T60 t816 (wrap64 (t823 - (t813.length : Int)))).f1)) (.int .i64 ((rd_T60 t816 (wrap64 (t823 - (t813.length : Int)))).f2)) (fun _ _ h => k60_openM h); replace p38 := eq_true p38; replace q38 := eq_true q38) | ((with_reducible refine gS 28 rfl ?_); refine pPR 3 28 ((wrap64 (t823 - (t813.length : Int))) : Int) 2 [.int .i64 ji40] k60 60 t816 (⟨(rd_T60 t816 (wrap64 (t823 - (t813.length : Int)))).f0, (rd_T60 t816 (wrap64 (t823 - (t813.length : Int)))).f1, ji40⟩ : S60) z60 [.string ((rd_T60 t816 (wrap64 (t823 - (t813.length : Int)))).f0), .string ((rd_T60 t816 (wrap64 (t823 - (t813.length : Int)))).f1), .int .i64 ((rd_T60 t816 (wrap64 (t823 - (t813.length : Int)))).f2)] HM rfl rfl (of_decide_eq_true AS) (by have h_ : ((wrap64 (t823 - (t813.length : Int))) : Int) < ((t816.length : Int) : Int) := of_decide_eq_true AS; have e_ := (HM.CR 3 rfl).1; omega) (fun _ _ h => k60_openM h) (k60_mkM _ _ _ (⟨(rd_T60 t816 (wrap64 (t823 - (t813.length : Int)))).f0, (rd_T60 t816 (wrap64 (t823 - (t813.length : Int)))).f1, ji40⟩ : S60)) ?_; clear HM; intro w41 HM; replace HM := HM.nm 3 rfl Ny826.out; have p42 : 0 ≤ ((wrap64 (t823 - (t813.length : Int))) : Int) := of_decide_eq_true AS; have q42 : ((wrap64 (t823 - (t813.length : Int))) : Int) < ((t816.length : Int) : Int) := of_decide_eq_true AS; obtain ⟨hx42_0, hx42_1, hx42_2, hf42_0, hf42_1, hf42_2⟩ := HM.el3 3 rfl z60 ((wrap64 (t823 - (t813.length : Int))) : Int) p42 (by have h_ := (HM.CR 3 rfl).1; omega) (.string ((rd_T60 y826 (wrap64 (t823 - (t813.length : Int)))).f0)) (.string ((rd_T60 y826 (wrap64 (t823 - (t813.length : Int)))).f1)) (.int .i64 ((rd_T60 y826 (wrap64 (t823 - (t813.length : Int)))).f2)) (fun _ _ h => k60_openM h); replace p42 := eq_true p42; replace q42 := eq_true q42))
    have p827 : 0 ≤ ((wrap64 (t823 - (t813.length : Int))) : Int) := of_decide_eq_true AS
    have q827 : ((wrap64 (t823 - (t813.length : Int))) : Int) < (y826.length : Int) := (by have h_ : ((wrap64 (t823 - (t813.length : Int))) : Int) < ((t816.length : Int) : Int) := of_decide_eq_true AS; first | exact h_ | (simp only [Ny826.out, List.length_set] at h_ ⊢; exact h_))
    have ql827 : (((wrap64 (t823 - (t813.length : Int))) : Int) < ((t816.length : Int) : Int)) = True := eq_true (of_decide_eq_true AS)
    obtain ⟨ad827, e827, hx827_0, hx827_1, hx827_2⟩ := at_T60 (HM.CR 3 rfl).2.2 (wrap64 (t823 - (t813.length : Int))) p827 q827
    obtain rfl := Option.some.inj e827
    (first | simp only [add_plain] at hx827_0 | simp only [add_at] at hx827_0 | simp only [Addr.add, Nat.zero_add] at hx827_0 | skip)
    (first | simp only [add_plain] at hx827_1 | simp only [add_at] at hx827_1 | simp only [Addr.add, Nat.zero_add] at hx827_1 | skip)
    (first | simp only [add_plain] at hx827_2 | simp only [add_at] at hx827_2 | simp only [Addr.add, Nat.zero_add] at hx827_2 | skip)
    replace p827 := eq_true p827
    replace q827 := eq_true q827
    refine RGN 8 [0, 1, 2, 3, 4, 5, 6, 7] (fun a0 b a w' => a = putSel a0 b [(0, 29, .agg #[.int .i64 t811, .int .i64 t812, .slice Xo13 t813.length ko13, .slice (some ⟨gof39, 0, none⟩) t816.length ko14, .slice Xo15 t819.length ko15]), (1, 30, .pointer (some ⟨gof39, (wrap64 (t823 - (t813.length : Int)) : Int).toNat * 3, none⟩)), (2, 31, .pointer (some ⟨gof39, (wrap64 (t823 - (t813.length : Int)) : Int).toNat * 3, none⟩)), (3, 32, .pointer (some ⟨gof39, (wrap64 (t823 - (t813.length : Int)) : Int).toNat * 3 + 1, none⟩)), (4, 33, .string ((rd_T60 y826 (wrap64 (t823 - (t813.length : Int)))).f1)), (6, 5, .string ((rd_T60 y826 (wrap64 (t823 - (t813.length : Int)))).f1)), (7, 6, .bool true)] ∧ Mem w [] w' [box 26 gb808 [.int .i64 a0_0, .int .i64 a0_1, .slice A0_2 l0_2.length c0_2, .slice A0_3 l0_3.length c0_3, .slice A0_4 l0_4.length c0_4], sel (b 5) (box 26 gb809 [.int .i64 t811, .int .i64 t812, .slice Xo13 t813.length ko13, .slice (some ⟨gof39, 0, none⟩) t816.length ko14, .slice Xo15 t819.length ko15]) (box 26 gb809 [.int .i64 0, .int .i64 0, .slice none 0 0, .slice none 0 0, .slice none 0 0]), rowR k60 60 (.slice Xo13 t813.length ko13) t813, rowR k60 60 (.slice (some ⟨gof39, 0, none⟩) t816.length ko14) y826, rowR (Kd.int .i64) 3 (.slice Xo15 t819.length ko15) t819, box 26 gb822 [.int .i64 t811, .int .i64 t812, .slice Xo13 t813.length ko13, .slice (some ⟨gof39, 0, none⟩) t816.length ko14, .slice Xo15 t819.length ko15]]) impl_Get.tab8 impl_Get.bits8 ?_ ?_ ?_
    ·exact ⟨PS0' rfl _, (HM.drew).pick [0, 1, 2, 3, 4, 5]⟩
    ·clear HM
     refine SY ?_ ?_
     ·intro b a w ha HM hb hon hoff K hK
      obtain ⟨_,_,_,_,_,_,_,_,_,_⟩ := bk5 (HM.bx 5 rfl)
      have e7 := PG ha 7
      exact VL (.agg #[.int .i64 t811, .int .i64 t812, .slice Xo13 t813.length ko13, .slice (some ⟨gof39, 0, none⟩) t816.length ko14, .slice Xo15 t819.length ko15]) (hK.out _ _ ⟨PUT ha 0 hb, HM⟩)
     refine SY ?_ ?_
     ·intro b a w ha HM hb hon hoff K hK
      have e8 := PG ha 8
      exact VL (.pointer (some ⟨gof39, (wrap64 (t823 - (t813.length : Int)) : Int).toNat * 3, none⟩)) (hK.out _ _ ⟨PUT ha 1 hb, HM⟩)
     refine SY ?_ ?_
     ·intro b a w ha HM hb hon hoff K hK
      have e30 := PE ha 1 hon
      exact VL (.pointer (some ⟨gof39, (wrap64 (t823 - (t813.length : Int)) : Int).toNat * 3, none⟩)) (hK.out _ _ ⟨PUT ha 2 hb, HM⟩)
     refine SY ?_ ?_
     ·intro b a w ha HM hb hon hoff K hK
      have e31 := PE ha 2 hon
      exact VL (.pointer (some ⟨gof39, (wrap64 (t823 - (t813.length : Int)) : Int).toNat * 3 + 1, none⟩)) (hK.out _ _ ⟨PUT ha 3 hb, HM⟩)
     refine SY ?_ ?_
     ·intro b a w ha HM hb hon hoff K hK
      have p827 : 0 ≤ ((wrap64 (t823 - (t813.length : Int))) : Int) := of_decide_eq_true AS
      have q827 : ((wrap64 (t823 - (t813.length : Int))) : Int) < (y826.length : Int) := (by have h_ : ((wrap64 (t823 - (t813.length : Int))) : Int) < ((t816.length : Int) : Int) := of_decide_eq_true AS; first | exact h_ | (simp only [Ny826.out, List.length_set] at h_ ⊢; exact h_))
      have ql827 : (((wrap64 (t823 - (t813.length : Int))) : Int) < ((t816.length : Int) : Int)) = True := eq_true (of_decide_eq_true AS)
      obtain ⟨ad827, e827, hx827_0, hx827_1, hx827_2⟩ := at_T60 (HM.CR 3 rfl).2.2 (wrap64 (t823 - (t813.length : Int))) p827 q827
      obtain rfl := Option.some.inj e827
      (first | simp only [add_plain] at hx827_0 | simp only [add_at] at hx827_0 | simp only [Addr.add, Nat.zero_add] at hx827_0 | skip)
      (first | simp only [add_plain] at hx827_1 | simp only [add_at] at hx827_1 | simp only [Addr.add, Nat.zero_add] at hx827_1 | skip)
      (first | simp only [add_plain] at hx827_2 | simp only [add_at] at hx827_2 | simp only [Addr.add, Nat.zero_add] at hx827_2 | skip)
      replace p827 := eq_true p827
      replace q827 := eq_true q827
      have e32 := PE ha 3 hon
      exact VL (.string ((rd_T60 y826 (wrap64 (t823 - (t813.length : Int)))).f1)) (hK.out _ _ ⟨PUT ha 4 hb, HM⟩)
     refine SY ?_ ?_
     ·intro b a w ha HM hb hon hoff K hK
      replace HM := HM.sF 1 rfl hb
      have e4 := PG ha 4
      have e29 := PE ha 0 hon
      refine ST (eS 1 4 0 [.int .i64 t811, .int .i64 t812, .slice Xo13 t813.length ko13, .slice (some ⟨gof39, 0, none⟩) t816.length ko14, .slice Xo15 t819.length ko15] HM rfl rfl ?_ (hp := (eval_of e4)) (hx := (by rw [eval_of e29]; rfl)))
      clear HM
      intro w46 HM
      exact hK.out _ _ ⟨PUS ha, (HM).pick [0, 1, 2, 3, 4, 5]⟩
     refine SY ?_ ?_
     ·intro b a w ha HM hb hon hoff K hK
      have e33 := PE ha 4 hon
      exact VL (.string ((rd_T60 y826 (wrap64 (t823 - (t813.length : Int)))).f1)) (hK.out _ _ ⟨PUT ha 5 hb, HM⟩)
     refine SY ?_ ?_
     ·intro b a w ha HM hb hon hoff K hK
      exact VL (.bool true) (hK.out _ _ ⟨PUT ha 6 hb, HM⟩)
     exact steps_nil
    rintro _ w47 ⟨rfl, HM⟩
    replace HM := HM.sT 1 rfl rfl
    simp only [putSel, if_true, Act.put, List.setIfInBounds_toArray, List.set_cons_zero, List.set_cons_succ, gt_iff_lt, ge_iff_le]
    simp only [Option.some.injEq, Prod.mk.injEq] at H
    obtain ⟨rfl, rfl, rfl, rfl, rfl, rfl, rfl⟩ := H
    go_wp2
    refine bodyPost_ret (results_ctt rfl _ _ gb809 26 #[.int .i64 t811, .int .i64 t812, .slice Xo13 t813.length ko13, .slice (some ⟨gof39, 0, none⟩) t816.length ko14, .slice Xo15 t819.length ko15] (0, 0) _ rfl (HM.bx 1 rfl) Tryz.underlying26 rfl (by kernel_rfl)) rfl ?_
    exact ⟨_, _, _, ER, (MD HM).pick [2, 3, 4]⟩
 ·subst c8
  simp only [Option.some.injEq, Prod.mk.injEq] at H
  obtain ⟨rfl, rfl, rfl, rfl, rfl, rfl, rfl⟩ := H
  go_wp2_with (first | ((with_reducible refine gN 2 rfl ?_); refine pB 2 26 [.int .i64 a0_0, .int .i64 a0_1, .slice A0_2 l0_2.length c0_2, .slice A0_3 l0_3.length c0_3, .slice A0_4 l0_4.length c0_4] HM rfl ?_; clear HM; intro gb808 w3 HM) | ((with_reducible refine gN 4 rfl ?_); refine pB 4 26 [.int .i64 0, .int .i64 0, .slice none 0 0, .slice none 0 0, .slice none 0 0] HM rfl ?_; clear HM; intro gb809 w4 HM; obtain ⟨_,_,_,_,_,_,_,_,_,_⟩ := bk5 (HM.bx 0 rfl)) | ((with_reducible refine gC 11 rfl ?_); refine pC (some 10) rfl #[.agg #[.int .i64 a0_0, .int .i64 a0_1, .slice A0_2 l0_2.length c0_2, .slice A0_3 l0_3.length c0_3, .slice A0_4 l0_4.length c0_4]] rfl Tryz.func11 (impl_ThreeOk.calls k a0_0 a0_1 _ _ l0_2 _ _ l0_3 _ _ l0_4 false _ (HM.came HR0_2.out) HC0_2.out (HM.came HR0_3.out) HC0_3.out (HM.came HR0_4.out) HC0_4.out A6.out) ?_; rintro e w7 ⟨rfl, hR⟩; refine ⟨_, rfl, ?_⟩; replace HM := HM.call hR; clear hR) | ((with_reducible refine gS 4 rfl ?_); refine pS 1 4 0 [.int .i64 0, .int .i64 0, .slice none 0 0, .slice none 0 0, .slice none 0 0] HM rfl rfl ?_; clear HM; intro w48 HM; replace HM := HM.nl k60 60; replace HM := HM.nl k60 60; replace HM := HM.nl (Kd.int .i64) 3))
  refine bodyPost_ret (results_ctt rfl _ _ gb809 26 #[.int .i64 0, .int .i64 0, .slice none 0 0, .slice none 0 0, .slice none 0 0] (0, 0) _ rfl (HM.bx 1 rfl) Tryz.underlying26 rfl (by kernel_rfl)) rfl ?_
  exact ⟨_, _, _, ER, (MD HM).pick [2, 3, 4]⟩
end Go.Proofs.YtnlnifpehndacaaGreat.G

namespace Go.Proofs.YtnlnifpehndacaaGreat.G
open Go.RowKit Go.Proofs.YtnlnifpehndacaaGreatW.PrintWords Go.Proofs.YtnlnifpehndacaaGreatW.PrintLast Go.Proofs.YtnlnifpehndacaaGreatW.PrintMore Go.Proofs.YtnlnifpehndacaaGreat.Sh
attribute [local go_sem] max2_int min2_int max_two min_two max_three min_three max_four min_four
set_option linter.unusedVariables false
set_option linter.unusedSimpArgs false
def impl_Hash.l0 : Nat → ByteArray → Int → Int → Option (Int)
 | 0, _, _, _ => none
 | k + 1, x0, x3, x4 => if x4 < (x0.size : Int) then (if 0 ≤ x4 then (impl_Hash.l0 k x0 (Int.tmod (wrap64 ((Go.bits .xor .i64 x3 (wrap64 (bt x0 x4))) * 16777619)) 4294967296) (wrap64 (x4 + 1))) else (none)) else (some x3)
def impl_Hash.f (k : Nat) (a0 : ByteArray) : Option (Int) := impl_Hash.l0 k a0 2166136261 0
theorem impl_Hash.calls (k : Nat) (a0 : ByteArray) (r : Int) (w : World) (h : impl_Hash.f k a0 = some r) :
  Calls Tryz.prog 59 #[.string a0] w fun e w' => e = .returned (.int .i64 r) ∧ Drawn0 w w' := by
 have H : (impl_Hash.l0 k a0 2166136261 0) = some r := h
 clear h
 have H' := Aside0.mk H
 clear H
 go_enter Tryz.func59, Tryz.ntmps59
 go_wp2
 go_loopg [3, 4] k (fun kq v3 v4 w' => ∃ (x3_1 : Int) (x4_1 : Int), v3 = .int .i64 x3_1 ∧ v4 = .int .i64 x4_1 ∧ Aside0 (impl_Hash.l0 kq a0 x3_1 x4_1 = some r) ∧ Aside0 (kq ≤ k) ∧ Drawn0 w w')
 case atStart => exact ⟨(2166136261), (0), RS, RS, H', ⟨Nat.le_refl _⟩, DR⟩
 case round =>
  clear H'
  obtain ⟨x3_1, x4_1, rfl, rfl, HA, HK1, ⟨m1, rfl⟩⟩ := hrel
  cases gk with
  | zero => exact absurd HA.out (by simp [impl_Hash.l0])
  | succ k1 =>
   have H := HA.out
   clear HA
   simp only [impl_Hash.l0] at H
   by_cases c2 : x4_1 < (a0.size : Int)
   ·rw [if_pos c2] at H
    have c2b0 : decide (x4_1 < (a0.size : Int)) = true := decide_eq_true c2
    clear c2
    by_cases c3 : 0 ≤ x4_1
    ·rw [if_pos c3] at H
     have c3b0 : decide (0 ≤ x4_1) = true := decide_eq_true c3
     clear c3
     have H' := Aside0.mk H
     clear H
     have p4 : 0 ≤ (x4_1 : Int) := of_decide_eq_true AS
     have q4 : x4_1 < (a0.size : Int) := of_decide_eq_true AS
     have hx4 := bt_at a0 x4_1
     replace p4 := eq_true p4
     replace q4 := eq_true q4
     go_wp2
     go_roundg k1
     case measure => have := HK1.out; omega
     case rel => exact ⟨(Int.tmod (wrap64 ((Go.bits .xor .i64 x3_1 (wrap64 (bt a0 x4_1))) * 16777619)) 4294967296), (wrap64 (x4_1 + 1)), RS, RS, H', ⟨by have := HK1.out; omega⟩, DR⟩
    ·rw [if_neg c3] at H
     exact absurd H (by simp)
   ·rw [if_neg c2] at H
    have c2b0 : decide (x4_1 < (a0.size : Int)) = false := decide_eq_false c2
    clear c2
    obtain rfl := Option.some.inj H
    go_wp2
    go_ret
    exact ⟨by first | rfl | (simp; done) | (simp [*]; done), DR⟩
end Go.Proofs.YtnlnifpehndacaaGreat.G

namespace Go.Proofs.YtnlnifpehndacaaGreat.G
open Go.RowKit Go.Proofs.YtnlnifpehndacaaGreatW.PrintWords Go.Proofs.YtnlnifpehndacaaGreatW.PrintLast Go.Proofs.YtnlnifpehndacaaGreatW.PrintMore Go.Proofs.YtnlnifpehndacaaGreat.Sh
attribute [local go_sem] max2_int min2_int max_two min_two max_three min_three max_four min_four
set_option linter.unusedVariables false
set_option linter.unusedSimpArgs false
open Go.Proofs.YtnlnifpehndacaaGreat.Man
section
variable {P : Program}
/-- 'clear(s)' of what lies behind a queue of the call's own, in its spare room: the queue stays. -/
theorem Q_clear_run {α : Type} (d : Kd α) {W : World} (base : Nat) (t ty e : TypeId) (z : Value) (ht : P.underlying t = some (.slice e)) (hz : ∀ w, (zeroValue e).run P w = .ok z w) (hzs : z.cells.size = d.sz) (hz1 : ∀ u ∈ z.cells.toList, u.oneCell' = true)
  {g o n c m : Nat} {xs : List α} {ok : Nat → Prop} (HO : d.Q e W base ok (.slice (some ⟨g, o, none⟩) n c) xs) (hm : n + m ≤ c) (hm0 : 0 < m) (hn0 : 0 < c) (c2 : Nat) (hpos : 0 < d.sz) :
  ∃ w1, (Builtin.clear_ #[t] ty #[.slice (some ⟨g, o + n * d.sz, none⟩) m c2]).run P W = .ok (.tuple #[]) w1 ∧ d.Q e w1 base ok (.slice (some ⟨g, o, none⟩) n c) xs ∧ W.grownBy w1 (some g) := by
 obtain ⟨hn, hnc, _⟩ := Kd.Q_reads' HO
 obtain ⟨hok, inner, hown, hr⟩ := HO
 have hin : inner.length = n * d.sz := by rw [hr.1, hn]
 rcases hown.2 with ⟨h0, A, hv, _⟩ | ⟨g', off, cap', cur, hv, hb, hh, hcn, hcm, hcs, htake⟩
 ·injection hv with _ h1 h2
  omega
 injection hv with ha _ hc
 injection ha with ha
 injection ha with hg ho
 subst hg; subst hc; subst ho
 rw [← hn] at htake
 obtain ⟨news, hnews⟩ : ∃ news, news = (Builtin.zeroCells z.cells m).toList := ⟨_, rfl⟩
 have hnl : news.length = m * d.sz := by rw [hnews, cycle_len _ _ hm0, hzs]
 have hone : ∀ u ∈ news, u.oneCell' = true := by
  intro u hu
  rw [hnews] at hu
  have hp : 0 < z.cells.size := by omega
  simp only [Builtin.zeroCells, Array.toList_map, List.mem_map] at hu
  obtain ⟨i, _, rfl⟩ := hu
  have hi := Nat.mod_lt i hp
  rw [getElem!_pos z.cells _ hi]
  exact hz1 _ (by simp)
 have hnm : (n + m) * d.sz ≤ c * d.sz := Nat.mul_le_mul_right _ hm
 have hnm2 : (n + m) * d.sz = n * d.sz + m * d.sz := Nat.add_mul _ _ _
 have hoc : (off + c) * d.sz = off * d.sz + c * d.sz := Nat.add_mul _ _ _
 have hfit : off * d.sz + n * d.sz + news.length ≤ cur.size := by omega
 have hst := run_storeCells_cells (P := P) g (off * d.sz + n * d.sz) news 0 W (fun j hj => by rw [cell_of_row W g _ cur e (0, 0) hh]; simp; omega) (fun j _ => blk_frozen hh _) hone
 simp only [Nat.add_zero] at hst
 obtain ⟨cur', h3, h4, h5⟩ := setCells_row news (off * d.sz + n * d.sz) W cur hh hfit
 obtain ⟨s1, s2, s3, s4⟩ := setCells_same g news (off * d.sz + n * d.sz) W
 have hfar : ∀ k', k' ≠ g → (W.setCells g (off * d.sz + n * d.sz) news).heap[k']? = W.heap[k']? := fun k' hk' => setCells_far news _ k' hk'
 refine ⟨_, ?_, ⟨hok, inner, ⟨by rw [hin, hn], .inr ⟨g, off, c, cur', by rw [hn], hb, h3, by omega, hcm, by rw [h4, hcs], ?_⟩⟩, ?_⟩, ⟨s1, s2, s3, by rw [s4]; exact Nat.le_refl _, fun k' _ hk' => hfar k' (fun he => hk' (by rw [he]))⟩⟩
 ·obtain ⟨k, rfl⟩ : ∃ k, m = k + 1 := ⟨m - 1, by omega⟩
  have hzc : (Builtin.zeroCells z.cells (k + 1)).toList = news := hnews.symm
  simp [Builtin.clear_, run_underlying ht, hz, hzc, hst]
 ·rw [← hn, h5, List.append_assoc]
  have hl : (cur.toList.take (off * d.sz + n * d.sz)).drop (off * d.sz) = (cur.toList.drop (off * d.sz)).take (n * d.sz) := by
   rw [List.drop_take]
   congr 1
   omega
  have hlen : (cur.toList.take (off * d.sz + n * d.sz)).length = off * d.sz + n * d.sz := by
   rw [List.length_take, Array.length_toList]; omega
  rw [List.drop_append_of_le_length (by rw [hlen]; omega), hl, htake]
  exact List.take_left' hin
 ·exact hr.imp_ (fun p q hp => d.M_move (fun k' hk' => hfar k' (fun he => hk'.2 (by simp [Value.ownBlock, he]))) hp)
end
def delInt.idx (h : Int) : List Int → Nat → Int
 | [], _ => -1
 | x :: r, i => if x = h then (i : Int) else delInt.idx h r (i + 1)
theorem delInt.idx_at (h : Int) (l : List Int) (i : Nat) (hi : i < l.length) : delInt.idx h (l.drop i) i = if rd l (i : Int) = h then (i : Int) else delInt.idx h (l.drop (i + 1)) (i + 1) := by
 rw [List.drop_eq_getElem_cons hi, delInt.idx]
 have e : rd l (i : Int) = l[i] := by
  show l.getD (i : Int).toNat _ = _
  simp [List.getD_eq_getElem?_getD, hi]
 rw [e]
theorem delInt.idx_end (h : Int) (l : List Int) (i : Nat) (hi : ¬ i < l.length) : delInt.idx h (l.drop i) i = -1 := by
 rw [List.drop_of_length_le (by omega)]; rfl
/-- What is asked of a closure over one number: it tells whether it is handed just that one. -/
def delInt.Clo (M : Nat) (fnM : Func) (B : Nat) (h : Int) : Prop := Tryz.prog.funcs[M]? = some fnM ∧ (fnM.name == "runtime.NumGoroutine") = false ∧ fnM.body.isSome = true ∧ ∀ (y : Int) (W : World), W.heap[B]? = some (.cells #[.int .i64 h] 3 (0, 0)) →
 Calls Tryz.prog M #[.int .i64 y, .pointer (some ⟨B, 0, none⟩)] W fun e w' => e = .returned (.bool (y == h)) ∧ Below W.heap.size W w'
theorem delInt.index (M : Nat) (fnM : Func) (B : Nat) (h : Int) (hM : delInt.Clo M fnM B h) (A0 : Option Addr) (c0 : Nat) (l0 : List Int) (w : World) (hblk : w.heap[B]? = some (.cells #[.int .i64 h] 3 (0, 0))) (hr0 : Kd.C (Kd.int .i64) w A0 l0.length l0) (hc0 : l0.length ≤ c0) :
  Calls Tryz.prog 84 #[.slice A0 l0.length c0, .func (.func M) #[] #[.pointer (some ⟨B, 0, none⟩)]] w fun e w' => e = .returned (.int .i64 (delInt.idx h l0 0)) ∧ Below w.heap.size w w' := by
 obtain ⟨hfM, hnM, hbM, hcM⟩ := hM
 have HR0 := Aside0.mk hr0
 have HC0 := Aside0.mk hc0
 have HL := Aside0.mk (show l0.length ≤ 9223372036854775807 from hr0.2.1)
 have HX := Aside0.mk hblk
 have HF := Aside0.mk hfM
 have HN1 := Aside0.mk hnM
 have HB1 := Aside0.mk hbM
 have HCM := Aside0.mk hcM
 clear hr0 hc0 hblk hfM hnM hbM hcM
 have HB := Aside0.mk (Below.refl w.heap.size w)
 obtain ⟨R, hR⟩ : ∃ R, R = delInt.idx h l0 0 := ⟨_, rfl⟩
 rw [← hR]
 have HN := Aside0.mk (show delInt.idx h (l0.drop 0) 0 = R from hR.symm)
 clear hR
 go_enter Tryz.func84, Tryz.ntmps84
 go_wp2
 go_loopg [5, 8] l0.length (fun kq _ v8 w' => ∃ x : Int, v8 = .int .i64 x ∧ Aside0 (∃ n : Nat, x = (n : Int) ∧ delInt.idx h (l0.drop n) n = R ∧ n + kq = l0.length) ∧ Aside0 (Below w.heap.size w w'))
 case atStart => exact ⟨0, rfl, ⟨0, rfl, HN.out, Nat.zero_add _⟩, HB⟩
 case round =>
  clear HN
  obtain ⟨x, rfl, HN, HB⟩ := hrel
  by_cases hlt : x < (l0.length : Int)
  ·have hd : decide (x < (l0.length : Int)) = true := decide_eq_true hlt
   have hn0 : 0 ≤ x := by obtain ⟨n, rfl, _⟩ := HN.out; exact Int.natCast_nonneg n
   obtain ⟨ad, hA, hx0⟩ := Kd.at_int HR0.out x hn0 hlt
   subst hA
   replace hx0 := (HB.out.cell (World.block_lt_of_cell? w _ hx0)).trans hx0
   have H0 := Aside0.mk hn0
   have H1 := Aside0.mk hlt
   replace hn0 := eq_true hn0
   replace hlt := eq_true hlt
   obtain ⟨y, hy⟩ : ∃ y, rd l0 x = y := ⟨_, rfl⟩
   rw [hy] at hx0
   have HY := Aside0.mk hy
   clear hy
   by_cases c : y = h
   ·have C := Aside0.mk c
    have hbq : (y == h) = true := beq_iff_eq.mpr c
    clear c
    go_wp2_with fail
    rw [enters_ HF.out HN1.out HB1.out, Oper.upon_enter]
    refine (HCM.out y _ (blk_below HX.out HB.out)).mono ?_
    rintro e w' ⟨rfl, hb'⟩
    have HB' := Aside0.mk hb'
    clear hb'
    rw [hbq]
    go_wp2
    go_ret
    refine ⟨?_, below_step HB.out HB'.out⟩
    obtain ⟨n, rfl, hn, hk⟩ := HN.out
    have e := delInt.idx_at h l0 n (Int.ofNat_lt.mp H1.out)
    rw [HY.out, if_pos C.out, hn] at e
    rw [e]
    rfl
   ·have C := Aside0.mk c
    have hbq : (y == h) = false := beq_eq_false_iff_ne.mpr c
    clear c
    go_wp2_with fail
    rw [enters_ HF.out HN1.out HB1.out, Oper.upon_enter]
    refine (HCM.out y _ (blk_below HX.out HB.out)).mono ?_
    rintro e w' ⟨rfl, hb'⟩
    have HB' := Aside0.mk hb'
    clear hb'
    rw [hbq]
    go_wp2
    obtain ⟨n, rfl, hn, hk⟩ := HN.out
    have hlt' := Int.ofNat_lt.mp H1.out
    go_roundg (gk - 1)
    case measure => omega
    case rel =>
     have e := delInt.idx_at h l0 n hlt'
     rw [HY.out, if_neg C.out, hn] at e
     exact ⟨_, rfl, ⟨n + 1, wsucc_ (by have := HL.out; omega), e.symm, by omega⟩, ⟨below_step HB.out HB'.out⟩⟩
  ·have hd : decide (x < (l0.length : Int)) = false := decide_eq_false hlt
   have HLT := Aside0.mk hlt
   clear hlt
   go_wp2
   go_ret
   obtain ⟨n, rfl, hn, hk⟩ := HN.out
   have hlt' := HLT.out
   rw [delInt.idx_end h l0 n (by omega)] at hn
   exact ⟨by rw [← hn]; rfl, HB.out⟩
def slices_DeleteFunc_int_int.f (l0 : List Int) (a1 : Int) : Option (List Int) := some (l0.filter (fun y => !(y == a1)))
theorem delInt.idx_neg (h : Int) : ∀ (l : List Int) (i : Nat), delInt.idx h l i = -1 → l.filter (fun y => !(y == h)) = l
 | [], _, _ => rfl
 | x :: r, i, e => by
  rw [delInt.idx] at e
  by_cases c : x = h
  ·rw [if_pos c] at e; omega
  ·rw [if_neg c] at e
   rw [List.filter_cons, if_pos (by simp [c]), delInt.idx_neg h r (i + 1) e]
theorem delInt.idx_pos (h : Int) : ∀ (l : List Int) (i : Nat), delInt.idx h l i ≠ -1 → ∃ p, p < l.length ∧ delInt.idx h l i = ((i + p : Nat) : Int) ∧ (l.take p).filter (fun y => !(y == h)) = l.take p ∧ rd l (p : Int) = h
 | [], _, e => by simp [delInt.idx] at e
 | x :: r, i, e => by
  rw [delInt.idx] at e ⊢
  by_cases c : x = h
  ·exact ⟨0, by simp, by rw [if_pos c]; simp, rfl, c⟩
  ·rw [if_neg c] at e ⊢
   obtain ⟨p, h1, h2, h3, h4⟩ := delInt.idx_pos h r (i + 1) e
   refine ⟨p + 1, by simpa using h1, by rw [h2]; omega, ?_, ?_⟩
   ·rw [List.take_succ_cons, List.filter_cons, if_pos (by simp [c]), h3]
   ·have : rd (x :: r) ((p + 1 : Nat) : Int) = rd r (p : Int) := by
     show (x :: r).getD ((p + 1 : Nat) : Int).toNat _ = r.getD (p : Int).toNat _
     simp
    rw [this, h4]
/-- What the loop keeps: ahead of i what stays of the first j, from j on the rest. -/
structure delInt.Inv (h : Int) (l cur : List Int) (i j : Nat) : Prop where
 len : cur.length = l.length
 lt : i < j
 le : j ≤ l.length
 front : cur.take i = (l.take j).filter (fun y => !(y == h))
 back : cur.drop j = l.drop j
theorem delInt.Inv.read {h : Int} {l cur : List Int} {i j : Nat} (v : delInt.Inv h l cur i j) (hj : j < l.length) : rd cur (j : Int) = rd l (j : Int) := by
 have e := congrArg (fun z => z.head?) v.back
 simp only [List.head?_drop] at e
 show cur.getD (j : Int).toNat _ = l.getD (j : Int).toNat _
 simp [List.getD_eq_getElem?_getD, e]
theorem delInt.take_succ {l : List Int} {j : Nat} (hj : j < l.length) : l.take (j + 1) = l.take j ++ [rd l (j : Int)] := by
 have e : rd l (j : Int) = l[j] := by
  show l.getD (j : Int).toNat _ = _
  simp [List.getD_eq_getElem?_getD, hj]
 rw [e, List.take_succ_eq_append_getElem hj]
theorem delInt.Inv.skip {h : Int} {l cur : List Int} {i j : Nat} (v : delInt.Inv h l cur i j) (hj : j < l.length) (e : rd l (j : Int) = h) : delInt.Inv h l cur i (j + 1) := by
 refine ⟨v.len, by have := v.lt; omega, hj, ?_, ?_⟩
 ·rw [v.front, delInt.take_succ hj, List.filter_append]
  simp [e]
 ·rw [← List.drop_drop, ← List.drop_drop, v.back]
theorem delInt.Inv.put {h : Int} {l cur : List Int} {i j : Nat} (v : delInt.Inv h l cur i j) (hj : j < l.length) (e : rd l (j : Int) ≠ h) : delInt.Inv h l (cur.set i (rd l (j : Int))) (i + 1) (j + 1) := by
 have hi := v.lt
 have hl := v.len
 refine ⟨by rw [List.length_set]; exact hl, by omega, hj, ?_, ?_⟩
 ·rw [List.take_succ_eq_append_getElem (by rw [List.length_set]; omega), List.take_set_of_le (Nat.le_refl _), v.front, delInt.take_succ hj, List.filter_append]
  simp [e]
 ·rw [List.drop_set_of_lt (by omega), ← List.drop_drop, ← List.drop_drop, v.back]
theorem slices_DeleteFunc_int_int.calls (P0_ : Nat → Prop) (u9000_ : Value) (l0 : List Int) (M : Nat) (fnM : Func) (B : Nat) (a1 : Int) (r : List Int) (w0 w : World) (hB : Below w0.heap.size w0 w) (ho0 : Kd.Q (Kd.int .i64) 3 w w0.heap.size P0_ u9000_ l0) (hM : delInt.Clo M fnM B a1) (hblk : w.heap[B]? = some (.cells #[.int .i64 a1] 3 (0, 0))) (hPB : ∀ k_, P0_ k_ → k_ ≠ B) (h : slices_DeleteFunc_int_int.f l0 a1 = some r) :
  Calls Tryz.prog 60 #[u9000_, .func (.func M) #[] #[.pointer (some ⟨B, 0, none⟩)]] w fun e w' => ∃ v0_ : Value, e = .returned v0_ ∧ Kd.Q (Kd.int .i64) 3 w' w0.heap.size (fun k_ => P0_ k_ ∨ w.heap.size ≤ k_) v0_ r ∧ Below w0.heap.size w0 w' ∧ Kept w w' (fun k_ => P0_ k_) := by
 obtain rfl := Option.some.inj h
 clear h
 obtain ⟨A0, c0, rfl, hlc⟩ := Kd.Q_slice ho0
 obtain ⟨_, _, hC⟩ := Kd.Q_reads' ho0
 have hidx := delInt.index M fnM B a1 hM A0 c0 l0 w hblk hC hlc
 have hL : l0.length ≤ 9223372036854775807 := hC.2.1
 obtain ⟨hfM, hnM, hbM, hcM⟩ := hM
 have HF := Aside0.mk hfM
 have HN1 := Aside0.mk hnM
 have HB1 := Aside0.mk hbM
 have HCM := Aside0.mk hcM
 have HX := Aside0.mk hblk
 have HQ := Aside0.mk ho0
 have HBW := Aside0.mk hB
 have HPB := Aside0.mk hPB
 have HL := Aside0.mk hL
 have HLC := Aside0.mk hlc
 clear hfM hnM hbM hcM hblk ho0 hB hPB hL hC
 by_cases ci : delInt.idx a1 l0 0 = -1
 ·have e1 := delInt.idx_neg a1 l0 0 ci
  rw [e1]
  rw [ci] at hidx
  clear e1 ci
  go_enter Tryz.func60, Tryz.ntmps60
  go_wp2_with fail
  refine hidx.mono ?_
  rintro e w' ⟨rfl, hb⟩
  have HB := Aside0.mk hb
  clear hb hidx
  go_wp2
  go_ret
  exact ⟨_, rfl, Kd.Q_mono (Kd.Q_below HQ.out HB.out) (fun _ h => Or.inl h), below_step HBW.out HB.out, Kept.below (Kept.refl _ _) HB.out⟩
 ·obtain ⟨p, hp, e1, e2, e3⟩ := delInt.idx_pos a1 l0 0 ci
  rw [Nat.zero_add] at e1
  rw [e1] at hidx
  obtain ⟨g, o, cap, hv, hbg, hgl, cl, hgc⟩ := Kd.Q_form HQ.out (by omega)
  injection hv with ha _ hcap
  subst ha
  subst hcap
  have hP0 : P0_ g := HQ.out.1 g rfl
  have HG := Aside0.mk hbg
  have HGL := Aside0.mk hgl
  have HP0 := Aside0.mk hP0
  have I0 : delInt.Inv a1 l0 l0 p (p + 1) := by
   refine ⟨rfl, by omega, hp, ?_, rfl⟩
   rw [delInt.take_succ hp, List.filter_append, e2]
   simp [e3]
  have HI0 := Aside0.mk I0
  have HP := Aside0.mk hp
  have ew : IntKind.i64.wrap ((p : Int) + 1) = ((p + 1 : Nat) : Int) := by exact (i64_w _).trans (by have := HL.out; unfold wrap64; omega)
  have hne : ((p : Int) == -1) = false := by rw [beq_eq_false_iff_ne]; omega
  clear ci e1 e2 e3 hbg hgl hgc hP0 I0 hp
  go_enter Tryz.func60, Tryz.ntmps60
  go_wp2_with fail
  refine hidx.mono ?_
  rintro e w1 ⟨rfl, hb⟩
  have HB := Aside0.mk hb
  clear hb hidx
  go_wp2
  go_loopg [5, 6, 7] (l0.length - (p + 1)) (fun kq v5 v6 v7 w' => ∃ x5 x6 : Int, v5 = .int .i64 x5 ∧ v6 = .int .i64 x6 ∧ Aside0 (∃ (i j : Nat) (cur : List Int), x5 = (i : Int) ∧ x6 = (j : Int) ∧ j + kq = l0.length + 0 ∧ delInt.Inv a1 l0 cur i j ∧ Kd.Q (Kd.int .i64) 3 w' w0.heap.size (fun k_ => P0_ k_ ∨ w.heap.size ≤ k_) (.slice (some ⟨g, o, none⟩) l0.length c0) cur) ∧ Aside0 (Below w0.heap.size w0 w') ∧ Aside0 (Kept w w' (fun k_ => P0_ k_)))
  case atStart =>
   exact ⟨(p : Int), ((p + 1 : Nat) : Int), rfl, rfl, ⟨p, p + 1, l0, rfl, rfl, by have := HP.out; omega, HI0.out, Kd.Q_mono (Kd.Q_below HQ.out HB.out) (fun _ h => Or.inl h)⟩, ⟨below_step HBW.out HB.out⟩, ⟨Kept.below (Kept.refl _ _) HB.out⟩⟩
  case round =>
   clear HI0 HQ HB HBW HP ew hne
   obtain ⟨x5, x6, rfl, rfl, HI, HB, HK⟩ := hrel
   obtain ⟨i, j, cur, rfl, rfl, hq, hi, hQ⟩ := HI.out
   clear HI
   have HI := Aside0.mk hi
   have HQ := Aside0.mk hQ
   have HJ := Aside0.mk hq
   clear hi hQ hq
   by_cases hlt : (j : Int) < (l0.length : Int)
   ·have hd : decide ((j : Int) < (l0.length : Int)) = true := decide_eq_true hlt
    have hn0 : (0 : Int) ≤ (j : Int) := Int.natCast_nonneg j
    obtain ⟨hx0, hf0⟩ := Kd.Q_cell (0 : Int) HQ.out (j : Int) hn0 hlt
    obtain ⟨y, hy⟩ : ∃ y, rd l0 (j : Int) = y := ⟨_, rfl⟩
    have hyc : rdOf (0 : Int) cur (j : Int) = y := (HI.out.read (Int.ofNat_lt.mp hlt)).trans hy
    rw [hyc] at hx0
    simp only [Int.toNat_natCast] at hx0 hf0
    have HY := Aside0.mk hy
    have HLT := Aside0.mk (Int.ofNat_lt.mp hlt)
    replace hn0 := eq_true hn0
    replace hlt := eq_true hlt
    clear hy hyc hf0
    by_cases c : y = a1
    ·have C := Aside0.mk c
     have hbq : (y == a1) = true := beq_iff_eq.mpr c
     clear c
     go_wp2_with fail
     rw [enters_ HF.out HN1.out HB1.out, Oper.upon_enter]
     refine (HCM.out y _ (blk_kept HX.out HK.out (fun h => HPB.out B h rfl))).mono ?_
     rintro e w' ⟨rfl, hb'⟩
     have HB' := Aside0.mk hb'
     clear hb'
     rw [hbq]
     go_wp2
     go_roundg (gk - 1)
     case measure => have := HJ.out; have := HLT.out; omega
     case rel =>
      exact ⟨(i : Int), _, rfl, rfl, ⟨i, j + 1, cur, rfl, wsucc_ (by have := HL.out; have := HLT.out; omega), by have := HJ.out; have := HLT.out; omega, HI.out.skip HLT.out (HY.out.trans C.out), Kd.Q_below HQ.out HB'.out⟩, ⟨below_step HB.out HB'.out⟩, ⟨Kept.below HK.out HB'.out⟩⟩
    ·have C := Aside0.mk c
     have hbq : (y == a1) = false := beq_eq_false_iff_ne.mpr c
     clear c
     go_wp2_with fail
     rw [enters_ HF.out HN1.out HB1.out, Oper.upon_enter]
     refine (HCM.out y _ (blk_kept HX.out HK.out (fun h => HPB.out B h rfl))).mono ?_
     rintro e w' ⟨rfl, hb'⟩
     have HB' := Aside0.mk hb'
     have HQ' := Aside0.mk (Kd.Q_below HQ.out hb')
     have hi0 : (0 : Int) ≤ (i : Int) := Int.natCast_nonneg i
     have hil : (i : Int) < (l0.length : Int) := by have := HI.out.lt; have := HLT.out; omega
     obtain ⟨hxi, hfi⟩ := Kd.Q_cell (0 : Int) HQ'.out (i : Int) hi0 hil
     simp only [Int.toNat_natCast] at hxi hfi
     have HS := Aside0.mk (by have h := Kd.Q_putg HQ'.out (i : Int) hi0 hil y; simp only [Int.toNat_natCast] at h; exact h)
     have HBS := Aside0.mk (below_set (j := o + i) (v := .int .i64 y) (below_step HB.out hb') HG.out)
     have HKS := Aside0.mk (Kept.setCell (p := ⟨g, o + i, none⟩) (Kept.below HK.out hb') (.inl HP0.out) (.int .i64 y))
     replace hi0 := eq_true hi0
     replace hil := eq_true hil
     clear hb'
     rw [hbq]
     go_wp2
     go_roundg (gk - 1)
     case measure => have := HJ.out; have := HLT.out; omega
     case rel =>
      have e := HI.out.put HLT.out (fun e => C.out (HY.out.symm.trans e))
      rw [HY.out] at e
      exact ⟨_, _, rfl, rfl, ⟨i + 1, j + 1, cur.set i y, wsucc_ (by have := HL.out; have := HLT.out; have := HI.out.lt; omega), wsucc_ (by have := HL.out; have := HLT.out; omega), by have := HJ.out; have := HLT.out; omega, e, HS.out.1⟩, ⟨HBS.out⟩, ⟨HKS.out⟩⟩
   ·have hd : decide ((j : Int) < (l0.length : Int)) = false := decide_eq_false hlt
    have hj : j = l0.length := by have := HI.out.le; omega
    subst hj
    have hil : i < l0.length := HI.out.lt
    have hcl : cur.length = l0.length := HI.out.len
    have hft : cur.take i = l0.filter (fun y => !(y == a1)) := by
     have := HI.out.front
     rwa [List.take_length] at this
    have hQt := Kd.Q_take HQ.out (m := i) (by omega)
    rw [hft] at hQt
    have HQT := Aside0.mk hQt
    have hc0 : i ≤ c0 := by have := HLC.out; omega
    have hli : (List.filter (fun y => !(y == a1)) l0).length = i := by rw [← hft, List.length_take]; omega
    obtain ⟨w2, hrun, hr2, hg2⟩ := Q_clear_run (P := Tryz.prog) (Kd.int .i64) w0.heap.size 24 0 3 (.int .i64 0) Tryz.underlying24 Tryz.zeroValue3 rfl (by decide) hQt (m := l0.length - i) (by omega) (by omega) (by omega) (c0 - i) (by decide)
    have HR2 := Aside0.mk hr2
    have HG2 := Aside0.mk hg2
    have b1 : (i : Int) ≤ (l0.length : Int) := by omega
    have b2 : (l0.length : Int) ≤ (c0 : Int) := by have := HLC.out; omega
    have b3 : (i : Int) ≤ (c0 : Int) := by omega
    have b4 : (0 : Int) ≤ (i : Int) := by omega
    have b5 : (c0 = i) = False := eq_false (by omega)
    have HLI := Aside0.mk hli
    change Sem.run _ (Builtin.clear_ #[24] 0 #[.slice (some ⟨g, o + i * 1, none⟩) (l0.length - i) (c0 - i)]) _ = _ at hrun
    rw [Nat.mul_one] at hrun
    clear hr2 hg2 hQt hft hcl hil hli hlt
    go_wp2
    go_ret
    exact ⟨_, rfl, HR2.out, HB.out.grown HG2.out HB.out.size (fun k hk => by injection hk with hk; subst hk; exact HG.out), Kept.of_grown HG2.out HK.out (fun k hk => by injection hk with hk; subst hk; exact .inl HP0.out)⟩
end Go.Proofs.YtnlnifpehndacaaGreat.G

namespace Go.Proofs.YtnlnifpehndacaaGreat.G
open Go.RowKit Go.Proofs.YtnlnifpehndacaaGreatW.PrintWords Go.Proofs.YtnlnifpehndacaaGreatW.PrintLast Go.Proofs.YtnlnifpehndacaaGreatW.PrintMore Go.Proofs.YtnlnifpehndacaaGreat.Sh
attribute [local go_sem] max2_int min2_int max_two min_two max_three min_three max_four min_four
set_option linter.unusedVariables false
set_option linter.unusedSimpArgs false
open Go.Proofs.YtnlnifpehndacaaGreat.Mm
theorem impl_Three_evictSmall.clo94 (B : Nat) (h : Int) : delInt.Clo 94 Tryz.f94 B h := by
 refine ⟨Tryz.func94, by kernel_rfl, by rfl, fun y W hb => ?_⟩
 have HB := Aside0.mk (Below.refl W.heap.size W)
 have hc : W.cell? ⟨B, 0, none⟩ = some (.int .i64 h) := (blk_cell hb 0).trans rfl
 clear hb
 go_enter Tryz.func94, Tryz.ntmps94
 go_wp2
 go_ret
 exact ⟨rfl, HB.out⟩
def impl_Three_evictSmall.l0 : Nat → Int → Int → List (S60) → List (S60) → List Int → Option (Int × Int × (List (S60)) × (List (S60)) × List Int × ByteArray × Bool)
 | 0, _, _, _, _, _ => none
 | k + 1, x832000, x832001, x832002, x832003, x832004 => if (x832002.length : Int) > 0 then (if 0 < (x832002.length : Int) then (if 1 ≤ (x832002.length : Int) then ((some (x832002.drop (1 : Int).toNat : List (S60))).bind fun y834 => (if ((rd_T60 x832002 0).f2) > 1 then (if x832003.length < 3518437208883 then (impl_Three_evictSmall.l0 k x832000 x832001 y834 (x832003 ++ [(⟨(rd_T60 x832002 0).f0, (rd_T60 x832002 0).f1, 0⟩ : S60)]) x832004) else (none)) else ((impl_Hash.f k ((rd_T60 x832002 0).f0)).bind fun t840 => ((slices_DeleteFunc_int_int.f x832004 t840).bind fun t842 => (if t842.length < 17592186044416 then ((some (t842 ++ [t840] : List Int)).bind fun y845 => ((impl_Three_ghosts.f x832000 x832001).bind fun t848 => (if (y845.length : Int) > t848 then (if 1 ≤ (y845.length : Int) then (some (x832000, x832001, y834, x832003, (y845.drop (1 : Int).toNat), (rd_T60 x832002 0).f0, true)) else (none)) else (some (x832000, x832001, y834, x832003, y845, (rd_T60 x832002 0).f0, true))))) else (none)))))) else (none)) else (none)) else (some (x832000, x832001, x832002, x832003, x832004, (⟨#[]⟩ : ByteArray), false))
def impl_Three_evictSmall.f (k : Nat) (a0_0 : Int) (a0_1 : Int) (l0_2 : List (S60)) (l0_3 : List (S60)) (l0_4 : List Int) : Option (Int × Int × (List (S60)) × (List (S60)) × List Int × ByteArray × Bool) := impl_Three_evictSmall.l0 k a0_0 a0_1 l0_2 l0_3 l0_4
def impl_Three_evictSmall.T6 : Bool × List (List Nat × List Nat) := (true, [([], []), ([], []), ([1], [1]), ([2], [2]), ([3], [3]), ([], []), ([5], [5]), ([4, 6], [4, 6]), ([0, 0, 1, 2, 3, 4, 5, 6, 7], [0]), ([8, 0, 1, 2, 3, 4, 5, 6, 7], [8]), ([9, 7, 7, 0, 1, 2, 3, 4, 5, 6, 7], [7, 9])])
def impl_Three_evictSmall.B6 : List Nat := [0, 0, 2, 6, 14, 0, 32, 126, 255, 511, 1023]
theorem impl_Three_evictSmall.tab6 : rtab .any (opsOf Tryz.f82 6) = impl_Three_evictSmall.T6 := by kernel_rfl
theorem impl_Three_evictSmall.bits6 : waitsOk impl_Three_evictSmall.T6.2 impl_Three_evictSmall.B6 = true := by kernel_rfl
def impl_Three_evictSmall.T8 : Bool × List (List Nat × List Nat) := (true, [([], []), ([], []), ([1], [1]), ([2], [2]), ([3], [3]), ([], []), ([4, 5], [4, 5]), ([], []), ([7], [7]), ([6, 8, 6], [6, 8]), ([0, 0, 1, 2, 3, 4, 5, 6, 7, 8, 9], [0]), ([10, 0, 1, 2, 3, 4, 5, 6, 7, 8, 9], [10]), ([11, 9, 9, 0, 1, 2, 3, 4, 5, 6, 7, 8, 9], [9, 11])])
def impl_Three_evictSmall.B8 : List Nat := [0, 0, 2, 6, 14, 0, 62, 0, 128, 510, 1023, 2047, 4095]
theorem impl_Three_evictSmall.tab8 : rtab .any (opsOf Tryz.f82 8) = impl_Three_evictSmall.T8 := by kernel_rfl
theorem impl_Three_evictSmall.bits8 : waitsOk impl_Three_evictSmall.T8.2 impl_Three_evictSmall.B8 = true := by kernel_rfl
def impl_Three_evictSmall.T9 : Bool × List (List Nat × List Nat) := (true, [([], []), ([0], [0]), ([1], [1]), ([2], [2]), ([3], [3]), ([], []), ([5], [5]), ([4, 6], [4, 6])])
def impl_Three_evictSmall.B9 : List Nat := [0, 1, 3, 7, 15, 0, 32, 127]
theorem impl_Three_evictSmall.tab9 : rtab .any (opsOf Tryz.f82 9) = impl_Three_evictSmall.T9 := by kernel_rfl
theorem impl_Three_evictSmall.bits9 : waitsOk impl_Three_evictSmall.T9.2 impl_Three_evictSmall.B9 = true := by kernel_rfl
theorem impl_Three_evictSmall.calls (k : Nat) (g : Nat) (a0_0 : Int) (a0_1 : Int) (u9000_ : Value) (l0_2 : List (S60)) (u9001_ : Value) (l0_3 : List (S60)) (u9002_ : Value) (l0_4 : List Int) (r1 : Int) (r2 : Int) (r3 : List (S60)) (r4 : List (S60)) (r5 : List Int) (r6 : ByteArray) (r7 : Bool) (w0 w : World) (F : List SP)  (hM : Mem w0 F w [row k60 60 u9000_ l0_2, row k60 60 u9001_ l0_3, row (Kd.int .i64) 3 u9002_ l0_4, box 26 g [.int .i64 a0_0, .int .i64 a0_1, u9000_, u9001_, u9002_]]) (h : impl_Three_evictSmall.f k a0_0 a0_1 l0_2 l0_3 l0_4 = some (r1, r2, r3, r4, r5, r6, r7)) :
  Calls Tryz.prog 82 #[.pointer (some ⟨g, 0, none⟩)] w fun e w' => ∃ v2_ v3_ v4_ : Value, e = .returned (.tuple #[.string r6, .bool r7]) ∧ Mem w0 F w' [row k60 60 v2_ r3, row k60 60 v3_ r4, row (Kd.int .i64) 3 v4_ r5, box 26 g [.int .i64 r1, .int .i64 r2, v2_, v3_, v4_]] := by
 have hu60 := Tryz.underlying60
 have HM := hM
 clear hM
 have H := h
 clear h
 unfold impl_Three_evictSmall.f at H
 go_enter Tryz.func82, Tryz.ntmps82
 have H' := Aside0.mk H
 clear H
 go_wp2
 go_loopg [] k (fun kq w' => ∃ (x832000_1 : Int) (x832001_1 : Int) (x832002_1 : List (S60)) (x832003_1 : List (S60)) (x832004_1 : List Int) (u832002 : Value) (u832003 : Value) (u832004 : Value), Aside0 (impl_Three_evictSmall.l0 kq x832000_1 x832001_1 x832002_1 x832003_1 x832004_1 = some (r1, r2, r3, r4, r5, r6, r7)) ∧ Aside0 (kq ≤ k) ∧ Mem w0 F w' [row k60 60 u832002 x832002_1, row k60 60 u832003 x832003_1, row (Kd.int .i64) 3 u832004 x832004_1, box 26 g [.int .i64 x832000_1, .int .i64 x832001_1, u832002, u832003, u832004]])
 case atStart => exact ⟨(a0_0), (a0_1), (l0_2), (l0_3), (l0_4), (u9000_), (u9001_), (u9002_), H', ⟨Nat.le_refl _⟩, (MD HM).pick [0, 1, 2, 3]⟩
 case round =>
  clear H' HM
  obtain ⟨x832000_1, x832001_1, x832002_1, x832003_1, x832004_1, u832002, u832003, u832004, HA, HK1, HM⟩ := hrel
  cases gk with
  | zero => exact absurd HA.out (by simp [impl_Three_evictSmall.l0])
  | succ k1 =>
   have H := HA.out
   clear HA
   simp only [impl_Three_evictSmall.l0] at H
   obtain ⟨_,_,_,_,_,_,_,_,_,_⟩ := bk5 (HM.bx 3 rfl)
   obtain ⟨Xo3, ko3, rfl⟩ := HM.rd 0 rfl
   go_upto_if 11 with (fail)
   replace H := IT H; rcases H with ⟨c4, H⟩ | ⟨c4, H⟩
   ·replace c4 : (x832002_1.length : Int) > 0 := c4
    have c4b0 : decide (0 < (x832002_1.length : Int)) = true := decide_eq_true c4
    have c4b1 : decide (0 < x832002_1.length) = true := decide_eq_true (by omega)
    have c4b9 : decide (0 < x832002_1.length) = true := decide_eq_true (by omega)
    clear c4
    first|rw [c4b0]|rw [c4b9]|(simp only [i64_w, i32_w]; rw [c4b0])|skip
    replace H := GD H; obtain ⟨c5, H⟩ := H
    replace c5 : 0 < (x832002_1.length : Int) := c5
    have c5b0 := decide_eq_true c5
    have c5b1 : decide (0 < x832002_1.length) = true := decide_eq_true (by omega)
    have c5b9 : decide (0 < x832002_1.length) = true := decide_eq_true (by omega)
    clear c5
    replace H := GD H; obtain ⟨c9, H⟩ := H
    have c9b0 := eq_true c9
    have c9b1 : decide (1 ≤ (x832002_1.length : Int)) = true := decide_eq_true c9
    clear c9
    replace H := BLt H; obtain ⟨y834, Ny834, H⟩ := H
    replace Ny834 := Aside0.mk Ny834
    have p832 : 0 ≤ (0 : Int) := (by omega)
    have q832 : (0 : Int) < (x832002_1.length : Int) := of_decide_eq_true AS
    obtain ⟨ad832, e832, hx832_0, hx832_1, hx832_2⟩ := at_T60 (HM.C 0 rfl).2.2 0 p832 q832
    cases e832
    have qi832 : (0 < x832002_1.length) = True := eq_true (by omega)
    (try rw [show ((0 : Int)).toNat = 0 from rfl] at hx832_0)
    (try rw [show 0 * 3 = 0 from rfl] at hx832_0)
    (try rw [Addr.add_zero'] at hx832_0)
    (try rw [show ((0 : Int)).toNat = 0 from rfl] at hx832_1)
    (try rw [show 0 * 3 = 0 from rfl] at hx832_1)
    (try rw [Addr.add_zero'] at hx832_1)
    (try rw [show ((0 : Int)).toNat = 0 from rfl] at hx832_2)
    (try rw [show 0 * 3 = 0 from rfl] at hx832_2)
    (try rw [Addr.add_zero'] at hx832_2)
    replace p832 := eq_true p832
    replace q832 := eq_true q832
    go_upto_if 28 with (first | ((with_reducible refine gN 4 rfl ?_); refine pB 4 60 [.string (⟨#[]⟩ : ByteArray), .string (⟨#[]⟩ : ByteArray), .int .i64 0] HM rfl ?_; clear HM; intro gb833 w6 HM) | ((with_reducible refine gS 4 rfl ?_); refine pS 4 4 0 [.string ((rd_T60 x832002_1 0).f0), .string ((rd_T60 x832002_1 0).f1), .int .i64 ((rd_T60 x832002_1 0).f2)] HM rfl rfl ?_; clear HM; intro w7 HM; obtain ⟨_,_,_,_,_,_,_,_,_,_⟩ := bk5 (HM.bx 3 rfl)) | ((with_reducible refine gate_sl (t := 23) rfl ?_); refine pD 0 23 60 k60 _ _ 1 x832002_1 (some ad832) ko3 HM rfl Tryz.underlying23 info60 rfl (fun _ _ h => h) (by omega) (by have h_ : (1 : Int) ≤ ((x832002_1.length : Int) : Int) := of_decide_eq_true AS; first | exact h_ | (have e_ := (HM.C 0 rfl).1; omega)) ?_; clear HM; intro v835 HM; replace HM := HM.nmQ 0 rfl Ny834.out; obtain ⟨Xo10, ko10, rfl⟩ := HM.rd 0 rfl) | ((with_reducible refine gS 25 rfl ?_); refine pS 3 25 2 [.slice Xo10 y834.length ko10] HM rfl rfl ?_; clear HM; intro w11 HM; obtain ⟨_,_,_,_,_,_⟩ := bk3 (HM.bx 4 rfl)))
    replace HM := nzM HM
    replace H := IT H; rcases H with ⟨c13, H⟩ | ⟨c13, H⟩
    ·have c13b0 : decide (1 < ((rd_T60 x832002_1 0).f2)) = true := decide_eq_true c13
     clear c13
     first|rw [c13b0]|(simp only [i64_w, i32_w]; rw [c13b0])|skip
     try go_wp2_with (first | ((with_reducible refine gS 29 rfl ?_); refine pS 4 29 2 [.int .i64 0] HM rfl rfl ?_; clear HM; intro w14 HM))
     replace H := GD H; obtain ⟨c15, H⟩ := H
     have LMc15 := Aside0.mk c15
     clear c15
     obtain ⟨Xo24, ko24, rfl⟩ := HM.rd 1 rfl
     refine RGN 11 [0, 1, 2, 3, 4, 5, 6, 7, 8, 9, 10] (fun a0 b a w' => ∃ (v19 : Value) (v838 : Value), a = putSel a0 b [(0, 30, .pointer (some ⟨g, 0, none⟩)), (1, 31, .pointer (some ⟨g, 0, none⟩)), (2, 32, .pointer (some ⟨g, 0, none⟩)), (3, 33, .pointer (some ⟨g, 3, none⟩)), (4, 34, .slice Xo24 x832003_1.length ko24), (5, 35, .agg #[.string ((rd_T60 x832002_1 0).f0), .string ((rd_T60 x832002_1 0).f1), .int .i64 0]), (6, 36, v19), (7, 37, v838), (8, 38, .pointer (some ⟨g, 0, none⟩)), (9, 39, .pointer (some ⟨g, 3, none⟩))] ∧ Mem w0 F w' [row k60 60 (.slice Xo10 y834.length ko10) y834, sel (b 7) (row k60 60 v838 (x832003_1 ++ [(⟨(rd_T60 x832002_1 0).f0, (rd_T60 x832002_1 0).f1, 0⟩ : S60)])) (row k60 60 (.slice Xo24 x832003_1.length ko24) x832003_1), row (Kd.int .i64) 3 u832004 x832004_1, sel (b 10) (box 26 g [.int .i64 x832000_1, .int .i64 x832001_1, .slice Xo10 y834.length ko10, v838, u832004]) (box 26 g [.int .i64 x832000_1, .int .i64 x832001_1, .slice Xo10 y834.length ko10, .slice Xo24 x832003_1.length ko24, u832004]), box 60 gb833 [.string ((rd_T60 x832002_1 0).f0), .string ((rd_T60 x832002_1 0).f1), .int .i64 0], sel (b 6) (rowR k60 60 v19 [(⟨(rd_T60 x832002_1 0).f0, (rd_T60 x832002_1 0).f1, 0⟩ : S60)]) (emp)]) impl_Three_evictSmall.tab6 impl_Three_evictSmall.bits6 ?_ ?_ ?_
     ·exact ⟨.bool false, .bool false, PS0' rfl _, (HM.drew.ems 1).pick [0, 1, 2, 3, 4, 5]⟩
     ·clear HM
      refine SZ ?_ ?_
      ·rintro b a w ⟨v19, v838, ha, HM⟩ hb hon hoff K hK
       replace ha := Aside0.mk ha
       have e0 := PG ha 0
       exact VL (.pointer (some ⟨g, 0, none⟩)) (hK.out _ _ ⟨v19, v838, PUT ha 0 hb, HM⟩)
      refine SZ ?_ ?_
      ·rintro b a w ⟨v19, v838, ha, HM⟩ hb hon hoff K hK
       replace ha := Aside0.mk ha
       have e0 := PG ha 0
       exact VL (.pointer (some ⟨g, 0, none⟩)) (hK.out _ _ ⟨v19, v838, PUT ha 1 hb, HM⟩)
      refine SZ ?_ ?_
      ·rintro b a w ⟨v19, v838, ha, HM⟩ hb hon hoff K hK
       replace ha := Aside0.mk ha
       have e31 := PE ha 1 hon
       exact VL (.pointer (some ⟨g, 0, none⟩)) (hK.out _ _ ⟨v19, v838, PUT ha 2 hb, HM⟩)
      refine SZ ?_ ?_
      ·rintro b a w ⟨v19, v838, ha, HM⟩ hb hon hoff K hK
       replace ha := Aside0.mk ha
       have e32 := PE ha 2 hon
       exact VL (.pointer (some ⟨g, 3, none⟩)) (hK.out _ _ ⟨v19, v838, PUT ha 3 hb, HM⟩)
      refine SZ ?_ ?_
      ·rintro b a w ⟨v19, v838, ha, HM⟩ hb hon hoff K hK
       replace ha := Aside0.mk ha
       have HZ := HM
       replace HM := HM.sF 3 rfl (hoff 10 rfl)
       obtain ⟨_,_,_,_,_,_,_,_,_,_⟩ := bk5 (HM.bx 3 rfl)
       have e33 := PE ha 3 hon
       exact VL (.slice Xo24 x832003_1.length ko24) (hK.out _ _ ⟨v19, v838, PUT ha 4 hb, HZ⟩)
      refine SZ ?_ ?_
      ·rintro b a w ⟨v19, v838, ha, HM⟩ hb hon hoff K hK
       replace ha := Aside0.mk ha
       obtain ⟨_,_,_,_,_,_⟩ := bk3 (HM.bx 4 rfl)
       have e4 := PG ha 4
       exact VL (.agg #[.string ((rd_T60 x832002_1 0).f0), .string ((rd_T60 x832002_1 0).f1), .int .i64 0]) (hK.out _ _ ⟨v19, v838, PUT ha 5 hb, HM⟩)
      refine SZ ?_ ?_
      ·rintro b a w ⟨v19, v838, ha, HM⟩ hb hon hoff K hK
       replace ha := Aside0.mk ha
       have e35 := PE ha 5 hon
       refine ST (eL 36 k60 60 [(⟨(rd_T60 x832002_1 0).f0, (rd_T60 x832002_1 0).f1, 0⟩ : S60)] [.string ((rd_T60 x832002_1 0).f0), .string ((rd_T60 x832002_1 0).f1), .int .i64 0] (Reps.c3 (show Kd.M k60 _ _ _ (⟨(rd_T60 x832002_1 0).f0, (rd_T60 x832002_1 0).f1, 0⟩ : S60) [.string ((rd_T60 x832002_1 0).f0), .string ((rd_T60 x832002_1 0).f1), .int .i64 0] from (k60_mkM _ _ _ (⟨(rd_T60 x832002_1 0).f0, (rd_T60 x832002_1 0).f1, 0⟩ : S60))) (Reps.none _ _)) HM rfl ?_)
       clear HM
       intro v19 w27 HM
       exact hK.out _ _ ⟨v19, v838, PUT ha 6 hb, (HM).pick [0, 1, 2, 3, 4, 6]⟩
      refine SZ ?_ ?_
      ·rintro b a w ⟨v19, v838, ha, HM⟩ hb hon hoff K hK
       replace ha := Aside0.mk ha
       replace HM := HM.sF 1 rfl hb
       replace HM := HM.sT 5 rfl (hon 6 rfl)
       obtain ⟨Xo28, ko28, rfl⟩ := HM.rdR 5 rfl
       have e34 := PE ha 4 hon
       have e36 := PE ha 6 hon
       refine ST (eAq 1 (.tmp 34) (.tmp 36) 23 60 k60 (.slice Xo24 x832003_1.length ko24) x832003_1 [(⟨(rd_T60 x832002_1 0).f0, (rd_T60 x832002_1 0).f1, 0⟩ : S60)] Xo28 ([(⟨(rd_T60 x832002_1 0).f0, (rd_T60 x832002_1 0).f1, 0⟩ : S60)].length) ko28 HM rfl Tryz.underlying23 info60 rfl (HM.CR 5 rfl).2.2 (by have h_ := LMc15.out; simp only [List.length_singleton]; omega) (by simp) ?_ (ops := #[]) (hw := by rfl) (hs := (eval_of e34)) (hx := (eval_of e36)))
       clear HM
       intro v838 w29 HM
       exact hK.out _ _ ⟨.slice Xo28 [(⟨(rd_T60 x832002_1 0).f0, (rd_T60 x832002_1 0).f1, 0⟩ : S60)].length ko28, v838, PUT ha 7 hb, (((HM.sF 3 rfl (hoff 10 rfl)).iF 3 rfl (hoff 10 rfl)).iT 5 rfl (hon 6 rfl)).pick [0, 1, 2, 3, 4, 5]⟩
      refine SZ ?_ ?_
      ·rintro b a w ⟨v19, v838, ha, HM⟩ hb hon hoff K hK
       replace ha := Aside0.mk ha
       have e30 := PE ha 0 hon
       exact VL (.pointer (some ⟨g, 0, none⟩)) (hK.out _ _ ⟨v19, v838, PUT ha 8 hb, HM⟩)
      refine SZ ?_ ?_
      ·rintro b a w ⟨v19, v838, ha, HM⟩ hb hon hoff K hK
       replace ha := Aside0.mk ha
       have e38 := PE ha 8 hon
       exact VL (.pointer (some ⟨g, 3, none⟩)) (hK.out _ _ ⟨v19, v838, PUT ha 9 hb, HM⟩)
      refine SZ ?_ ?_
      ·rintro b a w ⟨v19, v838, ha, HM⟩ hb hon hoff K hK
       replace ha := Aside0.mk ha
       replace HM := HM.sT 1 rfl (hon 7 rfl)
       replace HM := HM.sF 3 rfl hb
       obtain ⟨Xo30, ko30, rfl⟩ := HM.rd 1 rfl
       have e39 := PE ha 9 hon
       have e37 := PE ha 7 hon
       refine ST (eS 3 39 3 [.slice Xo30 (x832003_1 ++ [(⟨(rd_T60 x832002_1 0).f0, (rd_T60 x832002_1 0).f1, 0⟩ : S60)]).length ko30] HM rfl rfl ?_ (hp := (eval_of e39)) (hx := (by rw [eval_of e37]; rfl)))
       clear HM
       intro w31 HM
       exact hK.out _ _ ⟨v19, .slice Xo30 (x832003_1 ++ [(⟨(rd_T60 x832002_1 0).f0, (rd_T60 x832002_1 0).f1, 0⟩ : S60)]).length ko30, PUS ha, (HM.iT 1 rfl (hon 7 rfl)).pick [0, 1, 2, 3, 4, 5]⟩
      exact steps_nil
     rintro _ w32 ⟨v19, v838, rfl, HM⟩
     replace HM := HM.sT 1 rfl rfl
     replace HM := HM.sT 3 rfl rfl
     replace HM := HM.sT 5 rfl rfl
     simp only [putSel, if_true, Act.put, List.setIfInBounds_toArray, List.set_cons_zero, List.set_cons_succ, gt_iff_lt, ge_iff_le]
     have H' := Aside0.mk H
     clear H
     go_wp2
     go_roundg k1
     case measure => have := HK1.out; omega
     case rel => exact ⟨(x832000_1), (x832001_1), (y834), ((x832003_1 ++ [(⟨(rd_T60 x832002_1 0).f0, (rd_T60 x832002_1 0).f1, 0⟩ : S60)])), (x832004_1), (.slice Xo10 y834.length ko10), (v838), (u832004), H', ⟨by have := HK1.out; omega⟩, (MD HM).pick [0, 1, 2, 3]⟩
    ·have c13b0 : decide (1 < ((rd_T60 x832002_1 0).f2)) = false := decide_eq_false c13
     clear c13
     first|rw [c13b0]|(simp only [i64_w, i32_w]; rw [c13b0])|skip
     replace H := BN H; obtain ⟨t840, A33, H⟩ := H
     try go_wp2_with (first | ((with_reducible refine gC 59 rfl ?_); refine pC (some 42) rfl #[.string ((rd_T60 x832002_1 0).f0)] rfl Tryz.func59 (impl_Hash.calls k1 ((rd_T60 x832002_1 0).f0) t840 _ A33.out) ?_; rintro e w34 ⟨rfl, hd⟩; refine ⟨_, rfl, ?_⟩; replace HM := HM.drawn hd; clear hd) | ((with_reducible refine gN 5 rfl ?_); refine pB 5 3 [.int .i64 0] HM rfl ?_; clear HM; intro gb841 w35 HM) | ((with_reducible refine gS 5 rfl ?_); refine pS 5 5 0 [.int .i64 t840] HM rfl rfl ?_; clear HM; intro w36 HM))
     replace H := BN H; obtain ⟨t842, A37, H⟩ := H
     replace H := GD H; obtain ⟨c38, H⟩ := H
     have LMc38 := Aside0.mk c38
     clear c38
     replace H := BLt H; obtain ⟨y845, Ny845, H⟩ := H
     replace Ny845 := Aside0.mk Ny845
     obtain ⟨Xo48, ko48, rfl⟩ := HM.rd 2 rfl
     refine RGN 13 [0, 1, 2, 3, 4, 5, 6, 7, 8, 9, 10, 11, 12] (fun a0 b a w' => ∃ (v843 : Value) (v43 : Value) (v846 : Value), a = putSel a0 b [(0, 43, .pointer (some ⟨g, 0, none⟩)), (1, 44, .pointer (some ⟨g, 0, none⟩)), (2, 45, .pointer (some ⟨g, 0, none⟩)), (3, 46, .pointer (some ⟨g, 4, none⟩)), (4, 47, .slice Xo48 x832004_1.length ko48), (5, 48, .func (.func 94) #[] #[.pointer (some ⟨gb841, 0, none⟩)]), (6, 49, v843), (7, 50, .int .i64 t840), (8, 51, v43), (9, 52, v846), (10, 53, .pointer (some ⟨g, 0, none⟩)), (11, 54, .pointer (some ⟨g, 4, none⟩))] ∧ Mem w0 F w' [row k60 60 (.slice Xo10 y834.length ko10) y834, row k60 60 u832003 x832003_1, sel (b 9) (row (Kd.int .i64) 3 v846 y845) (sel (b 6) (row (Kd.int .i64) 3 v843 t842) (row (Kd.int .i64) 3 (.slice Xo48 x832004_1.length ko48) x832004_1)), sel (b 12) (box 26 g [.int .i64 x832000_1, .int .i64 x832001_1, .slice Xo10 y834.length ko10, u832003, v846]) (box 26 g [.int .i64 x832000_1, .int .i64 x832001_1, .slice Xo10 y834.length ko10, u832003, .slice Xo48 x832004_1.length ko48]), box 60 gb833 [.string ((rd_T60 x832002_1 0).f0), .string ((rd_T60 x832002_1 0).f1), .int .i64 ((rd_T60 x832002_1 0).f2)], box 3 gb841 [.int .i64 t840], sel (b 8) (rowR (Kd.int .i64) 3 v43 [t840]) (emp)]) impl_Three_evictSmall.tab8 impl_Three_evictSmall.bits8 ?_ ?_ ?_
     ·exact ⟨.bool false, .bool false, .bool false, PS0' rfl _, (HM.drew.ems 1).pick [0, 1, 2, 3, 4, 5, 6]⟩
     ·clear HM
      refine SZ ?_ ?_
      ·rintro b a w ⟨v843, v43, v846, ha, HM⟩ hb hon hoff K hK
       replace ha := Aside0.mk ha
       have e0 := PG ha 0
       exact VL (.pointer (some ⟨g, 0, none⟩)) (hK.out _ _ ⟨v843, v43, v846, PUT ha 0 hb, HM⟩)
      refine SZ ?_ ?_
      ·rintro b a w ⟨v843, v43, v846, ha, HM⟩ hb hon hoff K hK
       replace ha := Aside0.mk ha
       have e0 := PG ha 0
       exact VL (.pointer (some ⟨g, 0, none⟩)) (hK.out _ _ ⟨v843, v43, v846, PUT ha 1 hb, HM⟩)
      refine SZ ?_ ?_
      ·rintro b a w ⟨v843, v43, v846, ha, HM⟩ hb hon hoff K hK
       replace ha := Aside0.mk ha
       have e44 := PE ha 1 hon
       exact VL (.pointer (some ⟨g, 0, none⟩)) (hK.out _ _ ⟨v843, v43, v846, PUT ha 2 hb, HM⟩)
      refine SZ ?_ ?_
      ·rintro b a w ⟨v843, v43, v846, ha, HM⟩ hb hon hoff K hK
       replace ha := Aside0.mk ha
       have e45 := PE ha 2 hon
       exact VL (.pointer (some ⟨g, 4, none⟩)) (hK.out _ _ ⟨v843, v43, v846, PUT ha 3 hb, HM⟩)
      refine SZ ?_ ?_
      ·rintro b a w ⟨v843, v43, v846, ha, HM⟩ hb hon hoff K hK
       replace ha := Aside0.mk ha
       have HZ := HM
       replace HM := HM.sF 3 rfl (hoff 12 rfl)
       obtain ⟨_,_,_,_,_,_,_,_,_,_⟩ := bk5 (HM.bx 3 rfl)
       have e46 := PE ha 3 hon
       exact VL (.slice Xo48 x832004_1.length ko48) (hK.out _ _ ⟨v843, v43, v846, PUT ha 4 hb, HZ⟩)
      refine SZ ?_ ?_
      ·rintro b a w ⟨v843, v43, v846, ha, HM⟩ hb hon hoff K hK
       replace ha := Aside0.mk ha
       have e5 := PG ha 5
       exact VL (.func (.func 94) #[] #[.pointer (some ⟨gb841, 0, none⟩)]) (hK.out _ _ ⟨v843, v43, v846, PUT ha 5 hb, HM⟩)
      refine SZ ?_ ?_
      ·rintro b a w ⟨v843, v43, v846, ha, HM⟩ hb hon hoff K hK
       replace ha := Aside0.mk ha
       replace HM := (HM.sF 2 rfl (hoff 9 rfl)).sF 2 rfl hb
       obtain ⟨P_, hq_, hn_, fin_⟩ := HM.man 2 5 rfl rfl
       have e47 := PE ha 4 hon
       have e48 := PE ha 5 hon
       refine ST (eC (some 49) rfl #[.slice Xo48 x832004_1.length ko48, .func (.func 94) #[] #[.pointer (some ⟨gb841, 0, none⟩)]] rfl Tryz.func60 (slices_DeleteFunc_int_int.calls P_ (.slice Xo48 x832004_1.length ko48) x832004_1 94 Tryz.f94 gb841 t840 t842 (bare _) _ (bare_below _) hq_ (impl_Three_evictSmall.clo94 _ _) (HM.bx 5 rfl) hn_ A37.out) ?_ (hargs := by (simp only [List.map_toArray, List.map_cons, List.map_nil, evc, eval_of e47, eval_of e48]) <;> rfl))
       rintro e w50 ⟨v843, rfl, hQ_, hB_, hK_⟩
       refine ⟨_, rfl, ?_⟩
       replace HM := fin_ _ _ _ hQ_ hB_ hK_
       clear hQ_ hB_ hK_ hq_ hn_ fin_ P_
       exact hK.out _ _ ⟨v843, v43, v846, PUT ha 6 hb, (HM.iF 2 rfl (hoff 9 rfl)).pick [0, 1, 2, 3, 4, 5, 6]⟩
      refine SZ ?_ ?_
      ·rintro b a w ⟨v843, v43, v846, ha, HM⟩ hb hon hoff K hK
       replace ha := Aside0.mk ha
       obtain ⟨_,_⟩ := bk1 (HM.bx 5 rfl)
       have e5 := PG ha 5
       exact VL (.int .i64 t840) (hK.out _ _ ⟨v843, v43, v846, PUT ha 7 hb, HM⟩)
      refine SZ ?_ ?_
      ·rintro b a w ⟨v843, v43, v846, ha, HM⟩ hb hon hoff K hK
       replace ha := Aside0.mk ha
       have e50 := PE ha 7 hon
       refine ST (eL 51 (Kd.int .i64) 3 [t840] [.int .i64 t840] (Reps.one (show Kd.M (Kd.int .i64) _ _ _ t840 [.int .i64 t840] from rfl) (Reps.none _ _)) HM rfl ?_)
       clear HM
       intro v43 w52 HM
       exact hK.out _ _ ⟨v843, v43, v846, PUT ha 8 hb, (HM).pick [0, 1, 2, 3, 4, 5, 7]⟩
      refine SZ ?_ ?_
      ·rintro b a w ⟨v843, v43, v846, ha, HM⟩ hb hon hoff K hK
       replace ha := Aside0.mk ha
       replace HM := (HM.sF 2 rfl hb).sT 2 rfl (hon 6 rfl)
       replace HM := HM.sT 6 rfl (hon 8 rfl)
       obtain ⟨Xo53, ko53, rfl⟩ := HM.rdR 6 rfl
       have e49 := PE ha 6 hon
       have e51 := PE ha 8 hon
       refine ST (eAq 2 (.tmp 49) (.tmp 51) 24 3 (Kd.int .i64) v843 t842 [t840] Xo53 ([t840].length) ko53 HM rfl Tryz.underlying24 info3 rfl (HM.CR 6 rfl).2.2 (by have h_ := LMc38.out; simp only [List.length_singleton]; omega) (by simp) ?_ (ops := #[]) (hw := by rfl) (hs := (eval_of e49)) (hx := (eval_of e51)))
       clear HM
       intro v846 w54 HM
       replace HM := HM.nmQ 2 rfl Ny845.out
       exact hK.out _ _ ⟨v843, .slice Xo53 [t840].length ko53, v846, PUT ha 9 hb, (((HM.sF 3 rfl (hoff 12 rfl)).iF 3 rfl (hoff 12 rfl)).iT 6 rfl (hon 8 rfl)).pick [0, 1, 2, 3, 4, 5, 6]⟩
      refine SZ ?_ ?_
      ·rintro b a w ⟨v843, v43, v846, ha, HM⟩ hb hon hoff K hK
       replace ha := Aside0.mk ha
       have e43 := PE ha 0 hon
       exact VL (.pointer (some ⟨g, 0, none⟩)) (hK.out _ _ ⟨v843, v43, v846, PUT ha 10 hb, HM⟩)
      refine SZ ?_ ?_
      ·rintro b a w ⟨v843, v43, v846, ha, HM⟩ hb hon hoff K hK
       replace ha := Aside0.mk ha
       have e53 := PE ha 10 hon
       exact VL (.pointer (some ⟨g, 4, none⟩)) (hK.out _ _ ⟨v843, v43, v846, PUT ha 11 hb, HM⟩)
      refine SZ ?_ ?_
      ·rintro b a w ⟨v843, v43, v846, ha, HM⟩ hb hon hoff K hK
       replace ha := Aside0.mk ha
       replace HM := HM.sT 2 rfl (hon 9 rfl)
       replace HM := HM.sF 3 rfl hb
       obtain ⟨Xo55, ko55, rfl⟩ := HM.rd 2 rfl
       have e54 := PE ha 11 hon
       have e52 := PE ha 9 hon
       refine ST (eS 3 54 4 [.slice Xo55 y845.length ko55] HM rfl rfl ?_ (hp := (eval_of e54)) (hx := (by rw [eval_of e52]; rfl)))
       clear HM
       intro w56 HM
       exact hK.out _ _ ⟨v843, v43, .slice Xo55 y845.length ko55, PUS ha, (HM.iT 2 rfl (hon 9 rfl)).pick [0, 1, 2, 3, 4, 5, 6]⟩
      exact steps_nil
     rintro _ w57 ⟨v843, v43, v846, rfl, HM⟩
     replace HM := HM.sT 2 rfl rfl
     replace HM := HM.sT 3 rfl rfl
     replace HM := HM.sT 6 rfl rfl
     simp only [putSel, if_true, Act.put, List.setIfInBounds_toArray, List.set_cons_zero, List.set_cons_succ, gt_iff_lt, ge_iff_le]
     try go_wp2
     replace H := BN H; obtain ⟨t848, A58, H⟩ := H
     obtain ⟨Xo62, ko62, rfl⟩ := HM.rd 2 rfl
     refine RGN 8 [0, 1, 2, 3, 4, 5, 6, 7] (fun a0 b a w' => a = putSel a0 b [(0, 55, .pointer (some ⟨g, 0, none⟩)), (1, 56, .pointer (some ⟨g, 0, none⟩)), (2, 57, .pointer (some ⟨g, 4, none⟩)), (3, 58, .slice Xo62 y845.length ko62), (4, 59, .int .i64 (y845.length : Int)), (5, 60, .pointer (some ⟨g, 0, none⟩)), (6, 61, .int .i64 t848), (7, 62, .bool (decide ((y845.length : Int) > t848)))] ∧ Mem w0 F w' [row k60 60 (.slice Xo10 y834.length ko10) y834, row k60 60 u832003 x832003_1, row (Kd.int .i64) 3 (.slice Xo62 y845.length ko62) y845, box 26 g [.int .i64 x832000_1, .int .i64 x832001_1, .slice Xo10 y834.length ko10, u832003, .slice Xo62 y845.length ko62], box 60 gb833 [.string ((rd_T60 x832002_1 0).f0), .string ((rd_T60 x832002_1 0).f1), .int .i64 ((rd_T60 x832002_1 0).f2)], box 3 gb841 [.int .i64 t840], rowR (Kd.int .i64) 3 v43 [t840]]) impl_Three_evictSmall.tab9 impl_Three_evictSmall.bits9 ?_ ?_ ?_
     ·exact ⟨PS0' rfl _, (HM.drew).pick [0, 1, 2, 3, 4, 5, 6]⟩
     ·clear HM
      refine SY ?_ ?_
      ·intro b a w ha HM hb hon hoff K hK
       have e0 := PG ha 0
       exact VL (.pointer (some ⟨g, 0, none⟩)) (hK.out _ _ ⟨PUT ha 0 hb, HM⟩)
      refine SY ?_ ?_
      ·intro b a w ha HM hb hon hoff K hK
       have e55 := PE ha 0 hon
       exact VL (.pointer (some ⟨g, 0, none⟩)) (hK.out _ _ ⟨PUT ha 1 hb, HM⟩)
      refine SY ?_ ?_
      ·intro b a w ha HM hb hon hoff K hK
       have e56 := PE ha 1 hon
       exact VL (.pointer (some ⟨g, 4, none⟩)) (hK.out _ _ ⟨PUT ha 2 hb, HM⟩)
      refine SY ?_ ?_
      ·intro b a w ha HM hb hon hoff K hK
       obtain ⟨_,_,_,_,_,_,_,_,_,_⟩ := bk5 (HM.bx 3 rfl)
       have e57 := PE ha 2 hon
       exact VL (.slice Xo62 y845.length ko62) (hK.out _ _ ⟨PUT ha 3 hb, HM⟩)
      refine SY ?_ ?_
      ·intro b a w ha HM hb hon hoff K hK
       have e58 := PE ha 3 hon
       exact VL (.int .i64 (y845.length : Int)) (hK.out _ _ ⟨PUT ha 4 hb, HM⟩)
      refine SY ?_ ?_
      ·intro b a w ha HM hb hon hoff K hK
       have e0 := PG ha 0
       exact VL (.pointer (some ⟨g, 0, none⟩)) (hK.out _ _ ⟨PUT ha 5 hb, HM⟩)
      refine SY ?_ ?_
      ·intro b a w ha HM hb hon hoff K hK
       have e60 := PE ha 5 hon
       refine ST (eC (some 61) rfl #[.pointer (some ⟨g, 0, none⟩)] rfl Tryz.func25 (impl_Three_ghosts.calls g x832000_1 x832001_1 _ _ _ t848 _ (HM.bx 3 rfl) A58.out) ?_ (hargs := by (simp only [List.map_toArray, List.map_cons, List.map_nil, evc, eval_of e60]) <;> rfl))
       rintro e w64 ⟨rfl, nd_, rfl⟩
       refine ⟨_, rfl, ?_⟩
       replace HM := HM.drewN nd_
       exact hK.out _ _ ⟨PUT ha 6 hb, (HM).pick [0, 1, 2, 3, 4, 5, 6]⟩
      refine SY ?_ ?_
      ·intro b a w ha HM hb hon hoff K hK
       have e59 := PE ha 4 hon
       have e61 := PE ha 6 hon
       exact VL (.bool (decide ((y845.length : Int) > t848))) (hK.out _ _ ⟨PUT ha 7 hb, HM⟩)
      exact steps_nil
     rintro _ w65 ⟨rfl, HM⟩
     simp only [putSel, if_true, Act.put, List.setIfInBounds_toArray, List.set_cons_zero, List.set_cons_succ, gt_iff_lt, ge_iff_le]
     go_upto_if 62 with (fail)
     replace H := IT H; rcases H with ⟨c66, H⟩ | ⟨c66, H⟩
     ·have c66b0 : decide (t848 < (y845.length : Int)) = true := decide_eq_true c66
      clear c66
      first|rw [c66b0]|(simp only [i64_w, i32_w]; rw [c66b0])|skip
      replace H := GD H; obtain ⟨c68, H⟩ := H
      have c68b0 := eq_true c68
      have c68b1 : decide (1 ≤ (y845.length : Int)) = true := decide_eq_true c68
      clear c68
      simp only [Option.some.injEq, Prod.mk.injEq] at H
      obtain ⟨rfl, rfl, rfl, rfl, rfl, rfl, rfl⟩ := H
      obtain ⟨_,_,_,_,_,_,_,_,_,_⟩ := bk5 (HM.bx 3 rfl)
      go_wp2_with (first | ((with_reducible refine gate_sl (t := 24) rfl ?_); refine pD 2 24 3 (Kd.int .i64) _ _ 1 y845 Xo62 ko62 HM rfl Tryz.underlying24 info3 rfl (fun _ _ h => h) (by omega) (by have h_ : (1 : Int) ≤ ((y845.length : Int) : Int) := of_decide_eq_true AS; first | exact h_ | (have e_ := (HM.C 2 rfl).1; omega)) ?_; clear HM; intro v850 HM; obtain ⟨Xo69, ko69, rfl⟩ := HM.rd 2 rfl) | ((with_reducible refine gS 70 rfl ?_); refine pS 3 70 4 [.slice Xo69 (y845.drop (1 : Int).toNat).length ko69] HM rfl rfl ?_; clear HM; intro w70 HM; obtain ⟨_,_,_,_,_,_⟩ := bk3 (HM.bx 4 rfl)))
      go_ret2
      first | exact ⟨_, _, _, ER, (MD HM).pick [0, 1, 2, 3]⟩ | exact ⟨ER, _, _, _, (MD HM).pick [0, 1, 2, 3]⟩
     ·have c66b0 : decide (t848 < (y845.length : Int)) = false := decide_eq_false c66
      clear c66
      first|rw [c66b0]|(simp only [i64_w, i32_w]; rw [c66b0])|skip
      simp only [Option.some.injEq, Prod.mk.injEq] at H
      obtain ⟨rfl, rfl, rfl, rfl, rfl, rfl, rfl⟩ := H
      obtain ⟨_,_,_,_,_,_⟩ := bk3 (HM.bx 4 rfl)
      go_wp2
      go_ret2
      first | exact ⟨_, _, _, ER, (MD HM).pick [0, 1, 2, 3]⟩ | exact ⟨ER, _, _, _, (MD HM).pick [0, 1, 2, 3]⟩
   ·replace c4 : ¬ ((x832002_1.length : Int) > 0) := c4
    have c4b0 : decide (0 < (x832002_1.length : Int)) = false := decide_eq_false c4
    have c4b1 : decide (0 < x832002_1.length) = false := decide_eq_false (by omega)
    have c4b9 : decide (0 < x832002_1.length) = false := decide_eq_false (by omega)
    clear c4
    first|rw [c4b0]|rw [c4b9]|(simp only [i64_w, i32_w]; rw [c4b0])|skip
    simp only [Option.some.injEq, Prod.mk.injEq] at H
    obtain ⟨rfl, rfl, rfl, rfl, rfl, rfl, rfl⟩ := H
    go_wp2
    go_ret2
    first | exact ⟨_, _, _, ER, (MD HM).pick [0, 1, 2, 3]⟩ | exact ⟨ER, _, _, _, (MD HM).pick [0, 1, 2, 3]⟩
def impl_Three_evictMain.l0 : Nat → Int → Int → List (S60) → List (S60) → List Int → Option (Int × Int × (List (S60)) × (List (S60)) × List Int × ByteArray × Bool)
 | 0, _, _, _, _, _ => none
 | k + 1, x853000, x853001, x853002, x853003, x853004 => if (x853003.length : Int) > 0 then (if 0 < (x853003.length : Int) then (if 1 ≤ (x853003.length : Int) then ((some (x853003.drop (1 : Int).toNat : List (S60))).bind fun y855 => (if ((rd_T60 x853003 0).f2) = 0 then (some (x853000, x853001, x853002, y855, x853004, (rd_T60 x853003 0).f0, true)) else (if y855.length < 3518437208883 then (impl_Three_evictMain.l0 k x853000 x853001 x853002 (y855 ++ [(⟨(rd_T60 x853003 0).f0, (rd_T60 x853003 0).f1, wrap64 (((rd_T60 x853003 0).f2) - 1)⟩ : S60)]) x853004) else (none)))) else (none)) else (none)) else (some (x853000, x853001, x853002, x853003, x853004, (⟨#[]⟩ : ByteArray), false))
def impl_Three_evictMain.f (k : Nat) (a0_0 : Int) (a0_1 : Int) (l0_2 : List (S60)) (l0_3 : List (S60)) (l0_4 : List Int) : Option (Int × Int × (List (S60)) × (List (S60)) × List Int × ByteArray × Bool) := impl_Three_evictMain.l0 k a0_0 a0_1 l0_2 l0_3 l0_4
def impl_Three_evictMain.T7 : Bool × List (List Nat × List Nat) := (true, [([], []), ([], []), ([1], [1]), ([2], [2]), ([3], [3]), ([], []), ([5], [5]), ([4, 6], [4, 6]), ([0, 0, 1, 2, 3, 4, 5, 6, 7], [0]), ([8, 0, 1, 2, 3, 4, 5, 6, 7], [8]), ([9, 7, 7, 0, 1, 2, 3, 4, 5, 6, 7], [7, 9])])
def impl_Three_evictMain.B7 : List Nat := [0, 0, 2, 6, 14, 0, 32, 126, 255, 511, 1023]
theorem impl_Three_evictMain.tab7 : rtab .any (opsOf Tryz.f83 7) = impl_Three_evictMain.T7 := by kernel_rfl
theorem impl_Three_evictMain.bits7 : waitsOk impl_Three_evictMain.T7.2 impl_Three_evictMain.B7 = true := by kernel_rfl
theorem impl_Three_evictMain.calls (k : Nat) (g : Nat) (a0_0 : Int) (a0_1 : Int) (u9000_ : Value) (l0_2 : List (S60)) (u9001_ : Value) (l0_3 : List (S60)) (u9002_ : Value) (l0_4 : List Int) (r1 : Int) (r2 : Int) (r3 : List (S60)) (r4 : List (S60)) (r5 : List Int) (r6 : ByteArray) (r7 : Bool) (w0 w : World) (F : List SP)  (hM : Mem w0 F w [row k60 60 u9000_ l0_2, row k60 60 u9001_ l0_3, row (Kd.int .i64) 3 u9002_ l0_4, box 26 g [.int .i64 a0_0, .int .i64 a0_1, u9000_, u9001_, u9002_]]) (h : impl_Three_evictMain.f k a0_0 a0_1 l0_2 l0_3 l0_4 = some (r1, r2, r3, r4, r5, r6, r7)) :
  Calls Tryz.prog 83 #[.pointer (some ⟨g, 0, none⟩)] w fun e w' => ∃ v2_ v3_ v4_ : Value, e = .returned (.tuple #[.string r6, .bool r7]) ∧ Mem w0 F w' [row k60 60 v2_ r3, row k60 60 v3_ r4, row (Kd.int .i64) 3 v4_ r5, box 26 g [.int .i64 r1, .int .i64 r2, v2_, v3_, v4_]] := by
 have hu60 := Tryz.underlying60
 have HM := hM
 clear hM
 have H := h
 clear h
 unfold impl_Three_evictMain.f at H
 go_enter Tryz.func83, Tryz.ntmps83
 have H' := Aside0.mk H
 clear H
 go_wp2
 go_loopg [] k (fun kq w' => ∃ (x853003_1 : List (S60)) (u853003 : Value), Aside0 (impl_Three_evictMain.l0 kq a0_0 a0_1 l0_2 x853003_1 l0_4 = some (r1, r2, r3, r4, r5, r6, r7)) ∧ Aside0 (kq ≤ k) ∧ Mem w0 F w' [row k60 60 u9000_ l0_2, row k60 60 u853003 x853003_1, row (Kd.int .i64) 3 u9002_ l0_4, box 26 g [.int .i64 a0_0, .int .i64 a0_1, u9000_, u853003, u9002_]])
 case atStart => exact ⟨(l0_3), (u9001_), H', ⟨Nat.le_refl _⟩, (MD HM).pick [0, 1, 2, 3]⟩
 case round =>
  clear H' HM
  obtain ⟨x853003_1, u853003, HA, HK1, HM⟩ := hrel
  cases gk with
  | zero => exact absurd HA.out (by simp [impl_Three_evictMain.l0])
  | succ k1 =>
   have H := HA.out
   clear HA
   simp only [impl_Three_evictMain.l0] at H
   obtain ⟨_,_,_,_,_,_,_,_,_,_⟩ := bk5 (HM.bx 3 rfl)
   obtain ⟨Xo3, ko3, rfl⟩ := HM.rd 1 rfl
   go_upto_if 10 with (fail)
   replace H := IT H; rcases H with ⟨c4, H⟩ | ⟨c4, H⟩
   ·replace c4 : (x853003_1.length : Int) > 0 := c4
    have c4b0 : decide (0 < (x853003_1.length : Int)) = true := decide_eq_true c4
    have c4b1 : decide (0 < x853003_1.length) = true := decide_eq_true (by omega)
    have c4b9 : decide (0 < x853003_1.length) = true := decide_eq_true (by omega)
    clear c4
    first|rw [c4b0]|rw [c4b9]|(simp only [i64_w, i32_w]; rw [c4b0])|skip
    replace H := GD H; obtain ⟨c5, H⟩ := H
    replace c5 : 0 < (x853003_1.length : Int) := c5
    have c5b0 := decide_eq_true c5
    have c5b1 : decide (0 < x853003_1.length) = true := decide_eq_true (by omega)
    have c5b9 : decide (0 < x853003_1.length) = true := decide_eq_true (by omega)
    clear c5
    replace H := GD H; obtain ⟨c9, H⟩ := H
    have c9b0 := eq_true c9
    have c9b1 : decide (1 ≤ (x853003_1.length : Int)) = true := decide_eq_true c9
    clear c9
    replace H := BLt H; obtain ⟨y855, Ny855, H⟩ := H
    replace Ny855 := Aside0.mk Ny855
    have p853 : 0 ≤ (0 : Int) := (by omega)
    have q853 : (0 : Int) < (x853003_1.length : Int) := of_decide_eq_true AS
    obtain ⟨ad853, e853, hx853_0, hx853_1, hx853_2⟩ := at_T60 (HM.C 1 rfl).2.2 0 p853 q853
    cases e853
    have qi853 : (0 < x853003_1.length) = True := eq_true (by omega)
    (try rw [show ((0 : Int)).toNat = 0 from rfl] at hx853_0)
    (try rw [show 0 * 3 = 0 from rfl] at hx853_0)
    (try rw [Addr.add_zero'] at hx853_0)
    (try rw [show ((0 : Int)).toNat = 0 from rfl] at hx853_1)
    (try rw [show 0 * 3 = 0 from rfl] at hx853_1)
    (try rw [Addr.add_zero'] at hx853_1)
    (try rw [show ((0 : Int)).toNat = 0 from rfl] at hx853_2)
    (try rw [show 0 * 3 = 0 from rfl] at hx853_2)
    (try rw [Addr.add_zero'] at hx853_2)
    replace p853 := eq_true p853
    replace q853 := eq_true q853
    go_upto_if 27 with (first | ((with_reducible refine gN 4 rfl ?_); refine pB 4 60 [.string (⟨#[]⟩ : ByteArray), .string (⟨#[]⟩ : ByteArray), .int .i64 0] HM rfl ?_; clear HM; intro gb854 w6 HM) | ((with_reducible refine gS 4 rfl ?_); refine pS 4 4 0 [.string ((rd_T60 x853003_1 0).f0), .string ((rd_T60 x853003_1 0).f1), .int .i64 ((rd_T60 x853003_1 0).f2)] HM rfl rfl ?_; clear HM; intro w7 HM; obtain ⟨_,_,_,_,_,_,_,_,_,_⟩ := bk5 (HM.bx 3 rfl)) | ((with_reducible refine gate_sl (t := 23) rfl ?_); refine pD 1 23 60 k60 _ _ 1 x853003_1 (some ad853) ko3 HM rfl Tryz.underlying23 info60 rfl (fun _ _ h => h) (by omega) (by have h_ : (1 : Int) ≤ ((x853003_1.length : Int) : Int) := of_decide_eq_true AS; first | exact h_ | (have e_ := (HM.C 1 rfl).1; omega)) ?_; clear HM; intro v856 HM; replace HM := HM.nmQ 1 rfl Ny855.out; obtain ⟨Xo10, ko10, rfl⟩ := HM.rd 1 rfl) | ((with_reducible refine gS 24 rfl ?_); refine pS 3 24 3 [.slice Xo10 y855.length ko10] HM rfl rfl ?_; clear HM; intro w11 HM; obtain ⟨_,_,_,_,_,_⟩ := bk3 (HM.bx 4 rfl)))
    replace HM := nzM HM
    replace H := IT H; rcases H with ⟨c13, H⟩ | ⟨c13, H⟩
    ·obtain ⟨c13b0, c13b1⟩ := BE c13
     clear c13
     first|rw [c13b0]|(simp only [i64_w, i32_w]; rw [c13b0])|skip
     simp only [Option.some.injEq, Prod.mk.injEq] at H
     obtain ⟨rfl, rfl, rfl, rfl, rfl, rfl, rfl⟩ := H
     go_wp2
     go_ret2
     first | exact ⟨_, _, _, ER, (MD HM).pick [0, 1, 2, 3]⟩ | exact ⟨ER, _, _, _, (MD HM).pick [0, 1, 2, 3]⟩
    ·obtain ⟨c13b0, c13b1⟩ := BF c13
     first|rw [c13b0]|(simp only [i64_w, i32_w]; rw [c13b0])|skip
     try go_wp2_with (first | ((with_reducible refine gS 33 rfl ?_); refine pS 4 33 2 [.int .i64 (wrap64 (((rd_T60 x853003_1 0).f2) - 1))] HM rfl rfl ?_; clear HM; intro w14 HM))
     replace H := GD H; obtain ⟨c15, H⟩ := H
     have LMc15 := Aside0.mk c15
     clear c15
     refine RGN 11 [0, 1, 2, 3, 4, 5, 6, 7, 8, 9, 10] (fun a0 b a w' => ∃ (v19 : Value) (v859 : Value), a = putSel a0 b [(0, 34, .pointer (some ⟨g, 0, none⟩)), (1, 35, .pointer (some ⟨g, 0, none⟩)), (2, 36, .pointer (some ⟨g, 0, none⟩)), (3, 37, .pointer (some ⟨g, 3, none⟩)), (4, 38, .slice Xo10 y855.length ko10), (5, 39, .agg #[.string ((rd_T60 x853003_1 0).f0), .string ((rd_T60 x853003_1 0).f1), .int .i64 (wrap64 (((rd_T60 x853003_1 0).f2) - 1))]), (6, 40, v19), (7, 41, v859), (8, 42, .pointer (some ⟨g, 0, none⟩)), (9, 43, .pointer (some ⟨g, 3, none⟩))] ∧ Mem w0 F w' [row k60 60 u9000_ l0_2, sel (b 7) (row k60 60 v859 (y855 ++ [(⟨(rd_T60 x853003_1 0).f0, (rd_T60 x853003_1 0).f1, wrap64 (((rd_T60 x853003_1 0).f2) - 1)⟩ : S60)])) (row k60 60 (.slice Xo10 y855.length ko10) y855), row (Kd.int .i64) 3 u9002_ l0_4, sel (b 10) (box 26 g [.int .i64 a0_0, .int .i64 a0_1, u9000_, v859, u9002_]) (box 26 g [.int .i64 a0_0, .int .i64 a0_1, u9000_, .slice Xo10 y855.length ko10, u9002_]), box 60 gb854 [.string ((rd_T60 x853003_1 0).f0), .string ((rd_T60 x853003_1 0).f1), .int .i64 (wrap64 (((rd_T60 x853003_1 0).f2) - 1))], sel (b 6) (rowR k60 60 v19 [(⟨(rd_T60 x853003_1 0).f0, (rd_T60 x853003_1 0).f1, wrap64 (((rd_T60 x853003_1 0).f2) - 1)⟩ : S60)]) (emp)]) impl_Three_evictMain.tab7 impl_Three_evictMain.bits7 ?_ ?_ ?_
     ·exact ⟨.bool false, .bool false, PS0' rfl _, (HM.drew.ems 1).pick [0, 1, 2, 3, 4, 5]⟩
     ·clear HM
      refine SZ ?_ ?_
      ·rintro b a w ⟨v19, v859, ha, HM⟩ hb hon hoff K hK
       replace ha := Aside0.mk ha
       have e0 := PG ha 0
       exact VL (.pointer (some ⟨g, 0, none⟩)) (hK.out _ _ ⟨v19, v859, PUT ha 0 hb, HM⟩)
      refine SZ ?_ ?_
      ·rintro b a w ⟨v19, v859, ha, HM⟩ hb hon hoff K hK
       replace ha := Aside0.mk ha
       have e0 := PG ha 0
       exact VL (.pointer (some ⟨g, 0, none⟩)) (hK.out _ _ ⟨v19, v859, PUT ha 1 hb, HM⟩)
      refine SZ ?_ ?_
      ·rintro b a w ⟨v19, v859, ha, HM⟩ hb hon hoff K hK
       replace ha := Aside0.mk ha
       have e35 := PE ha 1 hon
       exact VL (.pointer (some ⟨g, 0, none⟩)) (hK.out _ _ ⟨v19, v859, PUT ha 2 hb, HM⟩)
      refine SZ ?_ ?_
      ·rintro b a w ⟨v19, v859, ha, HM⟩ hb hon hoff K hK
       replace ha := Aside0.mk ha
       have e36 := PE ha 2 hon
       exact VL (.pointer (some ⟨g, 3, none⟩)) (hK.out _ _ ⟨v19, v859, PUT ha 3 hb, HM⟩)
      refine SZ ?_ ?_
      ·rintro b a w ⟨v19, v859, ha, HM⟩ hb hon hoff K hK
       replace ha := Aside0.mk ha
       have HZ := HM
       replace HM := HM.sF 3 rfl (hoff 10 rfl)
       obtain ⟨_,_,_,_,_,_,_,_,_,_⟩ := bk5 (HM.bx 3 rfl)
       have e37 := PE ha 3 hon
       exact VL (.slice Xo10 y855.length ko10) (hK.out _ _ ⟨v19, v859, PUT ha 4 hb, HZ⟩)
      refine SZ ?_ ?_
      ·rintro b a w ⟨v19, v859, ha, HM⟩ hb hon hoff K hK
       replace ha := Aside0.mk ha
       obtain ⟨_,_,_,_,_,_⟩ := bk3 (HM.bx 4 rfl)
       have e4 := PG ha 4
       exact VL (.agg #[.string ((rd_T60 x853003_1 0).f0), .string ((rd_T60 x853003_1 0).f1), .int .i64 (wrap64 (((rd_T60 x853003_1 0).f2) - 1))]) (hK.out _ _ ⟨v19, v859, PUT ha 5 hb, HM⟩)
      refine SZ ?_ ?_
      ·rintro b a w ⟨v19, v859, ha, HM⟩ hb hon hoff K hK
       replace ha := Aside0.mk ha
       have e39 := PE ha 5 hon
       refine ST (eL 40 k60 60 [(⟨(rd_T60 x853003_1 0).f0, (rd_T60 x853003_1 0).f1, wrap64 (((rd_T60 x853003_1 0).f2) - 1)⟩ : S60)] [.string ((rd_T60 x853003_1 0).f0), .string ((rd_T60 x853003_1 0).f1), .int .i64 (wrap64 (((rd_T60 x853003_1 0).f2) - 1))] (Reps.c3 (show Kd.M k60 _ _ _ (⟨(rd_T60 x853003_1 0).f0, (rd_T60 x853003_1 0).f1, wrap64 (((rd_T60 x853003_1 0).f2) - 1)⟩ : S60) [.string ((rd_T60 x853003_1 0).f0), .string ((rd_T60 x853003_1 0).f1), .int .i64 (wrap64 (((rd_T60 x853003_1 0).f2) - 1))] from (k60_mkM _ _ _ (⟨(rd_T60 x853003_1 0).f0, (rd_T60 x853003_1 0).f1, wrap64 (((rd_T60 x853003_1 0).f2) - 1)⟩ : S60))) (Reps.none _ _)) HM rfl ?_)
       clear HM
       intro v19 w26 HM
       exact hK.out _ _ ⟨v19, v859, PUT ha 6 hb, (HM).pick [0, 1, 2, 3, 4, 6]⟩
      refine SZ ?_ ?_
      ·rintro b a w ⟨v19, v859, ha, HM⟩ hb hon hoff K hK
       replace ha := Aside0.mk ha
       replace HM := HM.sF 1 rfl hb
       replace HM := HM.sT 5 rfl (hon 6 rfl)
       obtain ⟨Xo27, ko27, rfl⟩ := HM.rdR 5 rfl
       have e38 := PE ha 4 hon
       have e40 := PE ha 6 hon
       refine ST (eAq 1 (.tmp 38) (.tmp 40) 23 60 k60 (.slice Xo10 y855.length ko10) y855 [(⟨(rd_T60 x853003_1 0).f0, (rd_T60 x853003_1 0).f1, wrap64 (((rd_T60 x853003_1 0).f2) - 1)⟩ : S60)] Xo27 ([(⟨(rd_T60 x853003_1 0).f0, (rd_T60 x853003_1 0).f1, wrap64 (((rd_T60 x853003_1 0).f2) - 1)⟩ : S60)].length) ko27 HM rfl Tryz.underlying23 info60 rfl (HM.CR 5 rfl).2.2 (by have h_ := LMc15.out; simp only [List.length_singleton]; omega) (by simp) ?_ (ops := #[]) (hw := by rfl) (hs := (eval_of e38)) (hx := (eval_of e40)))
       clear HM
       intro v859 w28 HM
       exact hK.out _ _ ⟨.slice Xo27 [(⟨(rd_T60 x853003_1 0).f0, (rd_T60 x853003_1 0).f1, wrap64 (((rd_T60 x853003_1 0).f2) - 1)⟩ : S60)].length ko27, v859, PUT ha 7 hb, (((HM.sF 3 rfl (hoff 10 rfl)).iF 3 rfl (hoff 10 rfl)).iT 5 rfl (hon 6 rfl)).pick [0, 1, 2, 3, 4, 5]⟩
      refine SZ ?_ ?_
      ·rintro b a w ⟨v19, v859, ha, HM⟩ hb hon hoff K hK
       replace ha := Aside0.mk ha
       have e34 := PE ha 0 hon
       exact VL (.pointer (some ⟨g, 0, none⟩)) (hK.out _ _ ⟨v19, v859, PUT ha 8 hb, HM⟩)
      refine SZ ?_ ?_
      ·rintro b a w ⟨v19, v859, ha, HM⟩ hb hon hoff K hK
       replace ha := Aside0.mk ha
       have e42 := PE ha 8 hon
       exact VL (.pointer (some ⟨g, 3, none⟩)) (hK.out _ _ ⟨v19, v859, PUT ha 9 hb, HM⟩)
      refine SZ ?_ ?_
      ·rintro b a w ⟨v19, v859, ha, HM⟩ hb hon hoff K hK
       replace ha := Aside0.mk ha
       replace HM := HM.sT 1 rfl (hon 7 rfl)
       replace HM := HM.sF 3 rfl hb
       obtain ⟨Xo29, ko29, rfl⟩ := HM.rd 1 rfl
       have e43 := PE ha 9 hon
       have e41 := PE ha 7 hon
       refine ST (eS 3 43 3 [.slice Xo29 (y855 ++ [(⟨(rd_T60 x853003_1 0).f0, (rd_T60 x853003_1 0).f1, wrap64 (((rd_T60 x853003_1 0).f2) - 1)⟩ : S60)]).length ko29] HM rfl rfl ?_ (hp := (eval_of e43)) (hx := (by rw [eval_of e41]; rfl)))
       clear HM
       intro w30 HM
       exact hK.out _ _ ⟨v19, .slice Xo29 (y855 ++ [(⟨(rd_T60 x853003_1 0).f0, (rd_T60 x853003_1 0).f1, wrap64 (((rd_T60 x853003_1 0).f2) - 1)⟩ : S60)]).length ko29, PUS ha, (HM.iT 1 rfl (hon 7 rfl)).pick [0, 1, 2, 3, 4, 5]⟩
      exact steps_nil
     rintro _ w31 ⟨v19, v859, rfl, HM⟩
     replace HM := HM.sT 1 rfl rfl
     replace HM := HM.sT 3 rfl rfl
     replace HM := HM.sT 5 rfl rfl
     simp only [putSel, if_true, Act.put, List.setIfInBounds_toArray, List.set_cons_zero, List.set_cons_succ, gt_iff_lt, ge_iff_le]
     have H' := Aside0.mk H
     clear H
     go_wp2
     go_roundg k1
     case measure => have := HK1.out; omega
     case rel => exact ⟨((y855 ++ [(⟨(rd_T60 x853003_1 0).f0, (rd_T60 x853003_1 0).f1, wrap64 (((rd_T60 x853003_1 0).f2) - 1)⟩ : S60)])), (v859), H', ⟨by have := HK1.out; omega⟩, (MD HM).pick [0, 1, 2, 3]⟩
   ·replace c4 : ¬ ((x853003_1.length : Int) > 0) := c4
    have c4b0 : decide (0 < (x853003_1.length : Int)) = false := decide_eq_false c4
    have c4b1 : decide (0 < x853003_1.length) = false := decide_eq_false (by omega)
    have c4b9 : decide (0 < x853003_1.length) = false := decide_eq_false (by omega)
    clear c4
    first|rw [c4b0]|rw [c4b9]|(simp only [i64_w, i32_w]; rw [c4b0])|skip
    simp only [Option.some.injEq, Prod.mk.injEq] at H
    obtain ⟨rfl, rfl, rfl, rfl, rfl, rfl, rfl⟩ := H
    go_wp2
    go_ret2
    first | exact ⟨_, _, _, ER, (MD HM).pick [0, 1, 2, 3]⟩ | exact ⟨ER, _, _, _, (MD HM).pick [0, 1, 2, 3]⟩
def impl_Three_evict.j0 : Nat → Bool → Int → Int → List (S60) → List (S60) → List Int → Option (Int × Int × (List (S60)) × (List (S60)) × List Int × ByteArray × Bool)
 | 0, _, _, _, _, _, _ => none
 | k + 1, x23, x862000, x862001, x862002, x862003, x862004 => if x23 = true then ((impl_Three_evictSmall.f k x862000 x862001 x862002 x862003 x862004).bind fun bt862 => (if bt862.2.2.2.2.2.2 = true then (some (bt862.1, bt862.2.1, bt862.2.2.1, bt862.2.2.2.1, bt862.2.2.2.2.1, bt862.2.2.2.2.2.1, true)) else ((impl_Three_evictMain.f k bt862.1 bt862.2.1 bt862.2.2.1 bt862.2.2.2.1 bt862.2.2.2.2.1).bind fun bt875 => (some (bt875.1, bt875.2.1, bt875.2.2.1, bt875.2.2.2.1, bt875.2.2.2.2.1, bt875.2.2.2.2.2.1, bt875.2.2.2.2.2.2))))) else ((impl_Three_evictMain.f k x862000 x862001 x862002 x862003 x862004).bind fun bt888 => (some (bt888.1, bt888.2.1, bt888.2.2.1, bt888.2.2.2.1, bt888.2.2.2.2.1, bt888.2.2.2.2.2.1, bt888.2.2.2.2.2.2)))
def impl_Three_evict.f (k : Nat) (a0_0 : Int) (a0_1 : Int) (l0_2 : List (S60)) (l0_3 : List (S60)) (l0_4 : List Int) : Option (Int × Int × (List (S60)) × (List (S60)) × List Int × ByteArray × Bool) := if (l0_2.length : Int) ≥ a0_1 then (impl_Three_evict.j0 k true a0_0 a0_1 l0_2 l0_3 l0_4) else (impl_Three_evict.j0 k ((l0_3.length : Int) == 0) a0_0 a0_1 l0_2 l0_3 l0_4)
theorem impl_Three_evict.calls (k : Nat) (g : Nat) (a0_0 : Int) (a0_1 : Int) (u9000_ : Value) (l0_2 : List (S60)) (u9001_ : Value) (l0_3 : List (S60)) (u9002_ : Value) (l0_4 : List Int) (r1 : Int) (r2 : Int) (r3 : List (S60)) (r4 : List (S60)) (r5 : List Int) (r6 : ByteArray) (r7 : Bool) (w0 w : World) (F : List SP)  (hM : Mem w0 F w [row k60 60 u9000_ l0_2, row k60 60 u9001_ l0_3, row (Kd.int .i64) 3 u9002_ l0_4, box 26 g [.int .i64 a0_0, .int .i64 a0_1, u9000_, u9001_, u9002_]]) (h : impl_Three_evict.f k a0_0 a0_1 l0_2 l0_3 l0_4 = some (r1, r2, r3, r4, r5, r6, r7)) :
  Calls Tryz.prog 58 #[.pointer (some ⟨g, 0, none⟩)] w fun e w' => ∃ v2_ v3_ v4_ : Value, e = .returned (.tuple #[.string r6, .bool r7]) ∧ Mem w0 F w' [row k60 60 v2_ r3, row k60 60 v3_ r4, row (Kd.int .i64) 3 v4_ r5, box 26 g [.int .i64 r1, .int .i64 r2, v2_, v3_, v4_]] := by
 have HM := hM
 clear hM
 have H := h
 clear h
 unfold impl_Three_evict.f at H
 go_enter Tryz.func58, Tryz.ntmps58
 have HC2 := Aside0.mk H
 clear H
 go_upto_region 1 with (fail)
 repeat (go_quiet (fail); go_upto_region 1 with (fail))
 go_cut [23] (fun v23 wc => ∃ (kq : Nat) (x23_1 : Bool), v23 = .bool x23_1 ∧ Aside0 (impl_Three_evict.j0 kq x23_1 a0_0 a0_1 l0_2 l0_3 l0_4 = some (r1, r2, r3, r4, r5, r6, r7)) ∧ Aside0 (kq ≤ k) ∧ Mem w0 F wc [row k60 60 u9000_ l0_2, row k60 60 u9001_ l0_3, row (Kd.int .i64) 3 u9002_ l0_4, box 26 g [.int .i64 a0_0, .int .i64 a0_1, u9000_, u9001_, u9002_]])
 case first =>
  have H := HC2.out
  clear HC2
  replace H := IT H; rcases H with ⟨c5, H⟩ | ⟨c5, H⟩
  ·have c5b0 : decide (a0_1 ≤ (l0_2.length : Int)) = true := decide_eq_true c5
   clear c5
   have H' := Aside0.mk H
   clear H
   obtain ⟨_,_,_,_,_,_,_,_,_,_⟩ := bk5 (HM.bx 3 rfl)
   obtain ⟨Xo4, ko4, rfl⟩ := HM.rd 0 rfl
   go_wp2
   repeat (go_quiet (fail); try go_wp2_with (fail))
   go_meet
   case rel => exact ⟨_, (true), RS, H', ⟨by first | omega | exact Nat.le_refl _⟩, (MD HM).pick [0, 1, 2, 3]⟩
  ·have c5b0 : decide (a0_1 ≤ (l0_2.length : Int)) = false := decide_eq_false c5
   clear c5
   have H' := Aside0.mk H
   clear H
   obtain ⟨_,_,_,_,_,_,_,_,_,_⟩ := bk5 (HM.bx 3 rfl)
   obtain ⟨Xo4, ko4, rfl⟩ := HM.rd 0 rfl
   obtain ⟨Xo6, ko6, rfl⟩ := HM.rd 1 rfl
   go_wp2
   repeat (go_quiet (fail); try go_wp2_with (fail))
   go_meet
   case rel => exact ⟨_, (((l0_3.length : Int) == 0)), RS, H', ⟨by first | omega | exact Nat.le_refl _⟩, (MD HM).pick [0, 1, 2, 3]⟩
 case rest =>
  clear HC2 HM
  obtain ⟨kq, x23_1, rfl, HA, HJ1, HM⟩ := hcut
  cases kq with
  | zero => exact absurd HA.out (by simp [impl_Three_evict.j0])
  | succ kj1 =>
   have H := HA.out
   clear HA
   simp only [impl_Three_evict.j0] at H
   go_upto_if 23 with (fail)
   repeat (go_quiet (fail); go_upto_if 23 with (fail))
   replace H := IB H
   rcases H with ⟨c7, H⟩ | ⟨c7, H⟩
   ·subst c7
    replace H := BN H; obtain ⟨⟨t862, t863, t864, t867, t870, t873, t874⟩, A8, H⟩ := H
    go_upto_if 29 with (first | ((with_reducible refine gC 82 rfl ?_); refine pC (some 26) rfl #[.pointer (some ⟨g, 0, none⟩)] rfl Tryz.func82 (impl_Three_evictSmall.calls kj1 g a0_0 a0_1 u9000_ l0_2 u9001_ l0_3 u9002_ l0_4 t862 t863 t864 t867 t870 t873 t874 _ _ _ (HM.focus [] [0, 1, 2, 3]) A8.out) ?_; rintro e w9 ⟨v865, v868, v871, rfl, hR⟩; refine ⟨_, rfl, ?_⟩; replace HM := nzM hR.unfocus; clear hR))
    repeat (go_quiet (first | ((with_reducible refine gC 82 rfl ?_); refine pC (some 26) rfl #[.pointer (some ⟨g, 0, none⟩)] rfl Tryz.func82 (impl_Three_evictSmall.calls kj1 g a0_0 a0_1 u9000_ l0_2 u9001_ l0_3 u9002_ l0_4 t862 t863 t864 t867 t870 t873 t874 _ _ _ (HM.focus [] [0, 1, 2, 3]) A8.out) ?_; rintro e w9 ⟨v865, v868, v871, rfl, hR⟩; refine ⟨_, rfl, ?_⟩; replace HM := nzM hR.unfocus; clear hR)); go_upto_if 29 with (first | ((with_reducible refine gC 82 rfl ?_); refine pC (some 26) rfl #[.pointer (some ⟨g, 0, none⟩)] rfl Tryz.func82 (impl_Three_evictSmall.calls kj1 g a0_0 a0_1 u9000_ l0_2 u9001_ l0_3 u9002_ l0_4 t862 t863 t864 t867 t870 t873 t874 _ _ _ (HM.focus [] [0, 1, 2, 3]) A8.out) ?_; rintro e w9 ⟨v865, v868, v871, rfl, hR⟩; refine ⟨_, rfl, ?_⟩; replace HM := nzM hR.unfocus; clear hR)))
    replace H := IB H
    rcases H with ⟨c10, H⟩ | ⟨c10, H⟩
    ·subst c10
     simp only [Option.some.injEq, Prod.mk.injEq] at H
     obtain ⟨rfl, rfl, rfl, rfl, rfl, rfl, rfl⟩ := H
     go_wp2
     repeat (go_quiet (fail); try go_wp2_with (fail))
     go_ret2
     first | exact ⟨_, _, _, ER, (MD HM).pick [0, 1, 2, 3]⟩ | exact ⟨ER, _, _, _, (MD HM).pick [0, 1, 2, 3]⟩
    ·subst c10
     replace H := BN H; obtain ⟨⟨t875, t876, t877, t880, t883, t886, t887⟩, A11, H⟩ := H
     simp only [Option.some.injEq, Prod.mk.injEq] at H
     obtain ⟨rfl, rfl, rfl, rfl, rfl, rfl, rfl⟩ := H
     go_wp2_with (first | ((with_reducible refine gC 83 rfl ?_); refine pC (some 32) rfl #[.pointer (some ⟨g, 0, none⟩)] rfl Tryz.func83 (impl_Three_evictMain.calls kj1 g t862 t863 v865 t864 v868 t867 v871 t870 t875 t876 t877 t880 t883 t886 t887 _ _ _ (HM.focus [] [0, 1, 2, 3]) A11.out) ?_; rintro e w12 ⟨v878, v881, v884, rfl, hR⟩; refine ⟨_, rfl, ?_⟩; replace HM := nzM hR.unfocus; clear hR))
     repeat (go_quiet (first | ((with_reducible refine gC 83 rfl ?_); refine pC (some 32) rfl #[.pointer (some ⟨g, 0, none⟩)] rfl Tryz.func83 (impl_Three_evictMain.calls kj1 g t862 t863 v865 t864 v868 t867 v871 t870 t875 t876 t877 t880 t883 t886 t887 _ _ _ (HM.focus [] [0, 1, 2, 3]) A11.out) ?_; rintro e w12 ⟨v878, v881, v884, rfl, hR⟩; refine ⟨_, rfl, ?_⟩; replace HM := nzM hR.unfocus; clear hR)); try go_wp2_with (first | ((with_reducible refine gC 83 rfl ?_); refine pC (some 32) rfl #[.pointer (some ⟨g, 0, none⟩)] rfl Tryz.func83 (impl_Three_evictMain.calls kj1 g t862 t863 v865 t864 v868 t867 v871 t870 t875 t876 t877 t880 t883 t886 t887 _ _ _ (HM.focus [] [0, 1, 2, 3]) A11.out) ?_; rintro e w12 ⟨v878, v881, v884, rfl, hR⟩; refine ⟨_, rfl, ?_⟩; replace HM := nzM hR.unfocus; clear hR)))
     go_ret2
     first | exact ⟨_, _, _, ER, (MD HM).pick [0, 1, 2, 3]⟩ | exact ⟨ER, _, _, _, (MD HM).pick [0, 1, 2, 3]⟩
   ·subst c7
    replace H := BN H; obtain ⟨⟨t888, t889, t890, t893, t896, t899, t900⟩, A13, H⟩ := H
    simp only [Option.some.injEq, Prod.mk.injEq] at H
    obtain ⟨rfl, rfl, rfl, rfl, rfl, rfl, rfl⟩ := H
    go_wp2_with (first | ((with_reducible refine gC 83 rfl ?_); refine pC (some 36) rfl #[.pointer (some ⟨g, 0, none⟩)] rfl Tryz.func83 (impl_Three_evictMain.calls kj1 g a0_0 a0_1 u9000_ l0_2 u9001_ l0_3 u9002_ l0_4 t888 t889 t890 t893 t896 t899 t900 _ _ _ (HM.focus [] [0, 1, 2, 3]) A13.out) ?_; rintro e w14 ⟨v891, v894, v897, rfl, hR⟩; refine ⟨_, rfl, ?_⟩; replace HM := nzM hR.unfocus; clear hR))
    repeat (go_quiet (first | ((with_reducible refine gC 83 rfl ?_); refine pC (some 36) rfl #[.pointer (some ⟨g, 0, none⟩)] rfl Tryz.func83 (impl_Three_evictMain.calls kj1 g a0_0 a0_1 u9000_ l0_2 u9001_ l0_3 u9002_ l0_4 t888 t889 t890 t893 t896 t899 t900 _ _ _ (HM.focus [] [0, 1, 2, 3]) A13.out) ?_; rintro e w14 ⟨v891, v894, v897, rfl, hR⟩; refine ⟨_, rfl, ?_⟩; replace HM := nzM hR.unfocus; clear hR)); try go_wp2_with (first | ((with_reducible refine gC 83 rfl ?_); refine pC (some 36) rfl #[.pointer (some ⟨g, 0, none⟩)] rfl Tryz.func83 (impl_Three_evictMain.calls kj1 g a0_0 a0_1 u9000_ l0_2 u9001_ l0_3 u9002_ l0_4 t888 t889 t890 t893 t896 t899 t900 _ _ _ (HM.focus [] [0, 1, 2, 3]) A13.out) ?_; rintro e w14 ⟨v891, v894, v897, rfl, hR⟩; refine ⟨_, rfl, ?_⟩; replace HM := nzM hR.unfocus; clear hR)))
    go_ret2
    first | exact ⟨_, _, _, ER, (MD HM).pick [0, 1, 2, 3]⟩ | exact ⟨ER, _, _, _, (MD HM).pick [0, 1, 2, 3]⟩
theorem impl_Put.clo61 (B : Nat) (h : Int) : delInt.Clo 61 Tryz.f61 B h := by
 refine ⟨Tryz.func61, by kernel_rfl, by rfl, fun y W hb => ?_⟩
 have HB := Aside0.mk (Below.refl W.heap.size W)
 have hc : W.cell? ⟨B, 0, none⟩ = some (.int .i64 h) := (blk_cell hb 0).trans rfl
 clear hb
 go_enter Tryz.func61, Tryz.ntmps61
 go_wp2
 go_ret
 exact ⟨rfl, HB.out⟩
mutual
def impl_Put.j0 : Nat → ByteArray → ByteArray → Bool → Int → Int → List (S60) → List (S60) → List Int → Option (Int × Int × (List (S60)) × (List (S60)) × List Int × List ByteArray × Bool)
 | 0, _, _, _, _, _, _, _, _ => none
 | k + 1, x1, x2, x24, x902000, x902001, x902002, x902003, x902004 => if x24 = true then (some (0, 0, ([] : List (S60)), ([] : List (S60)), ([] : List Int), ([] : List ByteArray), false)) else ((impl_copyThree.f x902000 x902001 x902002 x902003 x902004).bind fun bt905 => ((some (([] : List ByteArray) : List ByteArray)).bind fun y917 => ((impl_Three_item.f bt905.2.2.1 bt905.2.2.2.1 x1).bind fun t920 => (if t920 ≥ 0 then (if t920 < (bt905.2.2.1.length : Int) then (if 0 ≤ t920 then ((some (bt905.2.2.1.set (t920 : Int).toNat (⟨(rd_T60 bt905.2.2.1 t920).f0, x2, (rd_T60 bt905.2.2.1 t920).f2⟩ : S60) : List (S60))).bind fun y921 => (some (bt905.1, bt905.2.1, (y921.set (t920 : Int).toNat (⟨(rd_T60 y921 t920).f0, (rd_T60 y921 t920).f1, mn 3 (wrap64 (((rd_T60 y921 t920).f2) + 1))⟩ : S60)), bt905.2.2.2.1, bt905.2.2.2.2, y917, true))) else (none)) else (if 0 ≤ (wrap64 (t920 - (bt905.2.2.1.length : Int))) then (if (wrap64 (t920 - (bt905.2.2.1.length : Int))) < (bt905.2.2.2.1.length : Int) then ((some (bt905.2.2.2.1.set ((wrap64 (t920 - (bt905.2.2.1.length : Int))) : Int).toNat (⟨(rd_T60 bt905.2.2.2.1 (wrap64 (t920 - (bt905.2.2.1.length : Int)))).f0, x2, (rd_T60 bt905.2.2.2.1 (wrap64 (t920 - (bt905.2.2.1.length : Int)))).f2⟩ : S60) : List (S60))).bind fun y923 => (some (bt905.1, bt905.2.1, bt905.2.2.1, (y923.set ((wrap64 (t920 - (bt905.2.2.1.length : Int))) : Int).toNat (⟨(rd_T60 y923 (wrap64 (t920 - (bt905.2.2.1.length : Int)))).f0, (rd_T60 y923 (wrap64 (t920 - (bt905.2.2.1.length : Int)))).f1, mn 3 (wrap64 (((rd_T60 y923 (wrap64 (t920 - (bt905.2.2.1.length : Int)))).f2) + 1))⟩ : S60)), bt905.2.2.2.2, y917, true))) else (none)) else (none))) else (impl_Put.l0 k x1 x2 y917 bt905.1 bt905.2.1 bt905.2.2.1 bt905.2.2.2.1 bt905.2.2.2.2)))))
def impl_Put.l0 : Nat → ByteArray → ByteArray → List ByteArray → Int → Int → List (S60) → List (S60) → List Int → Option (Int × Int × (List (S60)) × (List (S60)) × List Int × List ByteArray × Bool)
 | 0, _, _, _, _, _, _, _, _ => none
 | k + 1, x1, x2, x10, x917000, x917001, x917002, x917003, x917004 => if (wrap64 ((x917002.length : Int) + (x917003.length : Int))) ≥ x917000 then ((impl_Three_evict.f k x917000 x917001 x917002 x917003 x917004).bind fun bt925 => (if x10.length < 8796093022208 then (impl_Put.l0 k x1 x2 (x10 ++ [bt925.2.2.2.2.2.1]) bt925.1 bt925.2.1 bt925.2.2.1 bt925.2.2.2.1 bt925.2.2.2.2.1) else (none))) else ((impl_Hash.f k x1).bind fun t941 => ((slices_Contains_int_int.f k x917004 t941).bind fun t943 => (if t943 = true then ((slices_DeleteFunc_int_int.f x917004 t941).bind fun t944 => (if x917003.length < 3518437208883 then ((impl_copyThree.f x917000 x917001 x917002 (x917003 ++ [(⟨x1, x2, 0⟩ : S60)]) t944).bind fun bt950 => (some (bt950.1, bt950.2.1, bt950.2.2.1, bt950.2.2.2.1, bt950.2.2.2.2, x10, true))) else (none))) else (if x917002.length < 3518437208883 then ((impl_copyThree.f x917000 x917001 (x917002 ++ [(⟨x1, x2, 0⟩ : S60)]) x917003 x917004).bind fun bt964 => (some (bt964.1, bt964.2.1, bt964.2.2.1, bt964.2.2.2.1, bt964.2.2.2.2, x10, true))) else (none)))))
end
def impl_Put.f (k : Nat) (a0_0 : Int) (a0_1 : Int) (l0_2 : List (S60)) (l0_3 : List (S60)) (l0_4 : List Int) (a1 : ByteArray) (a2 : ByteArray) : Option (Int × Int × (List (S60)) × (List (S60)) × List Int × List ByteArray × Bool) := (impl_ThreeOk.f k a0_0 a0_1 l0_2 l0_3 l0_4).bind fun t903 => (if t903 = true then ((impl_ItemOk.f k a1 a2 0).bind fun t904 => (impl_Put.j0 k a1 a2 (!t904) a0_0 a0_1 l0_2 l0_3 l0_4)) else (impl_Put.j0 k a1 a2 true a0_0 a0_1 l0_2 l0_3 l0_4))
theorem impl_Put.calls (k : Nat) (a0_0 : Int) (a0_1 : Int) (A0_2 : Option Addr) (c0_2 : Nat) (l0_2 : List (S60)) (A0_3 : Option Addr) (c0_3 : Nat) (l0_3 : List (S60)) (A0_4 : Option Addr) (c0_4 : Nat) (l0_4 : List Int) (a1 : ByteArray) (a2 : ByteArray) (r1 : Int) (r2 : Int) (r3 : List (S60)) (r4 : List (S60)) (r5 : List Int) (r6 : List ByteArray) (r7 : Bool) (w : World) (hr0_2 : Kd.C k60 w A0_2 l0_2.length l0_2) (hc0_2 : l0_2.length ≤ c0_2) (hr0_3 : Kd.C k60 w A0_3 l0_3.length l0_3) (hc0_3 : l0_3.length ≤ c0_3) (hr0_4 : Kd.C (Kd.int .i64) w A0_4 l0_4.length l0_4) (hc0_4 : l0_4.length ≤ c0_4) (h : impl_Put.f k a0_0 a0_1 l0_2 l0_3 l0_4 a1 a2 = some (r1, r2, r3, r4, r5, r6, r7)) :
  Calls Tryz.prog 40 #[.agg #[.int .i64 a0_0, .int .i64 a0_1, .slice A0_2 l0_2.length c0_2, .slice A0_3 l0_3.length c0_3, .slice A0_4 l0_4.length c0_4], .string a1, .string a2] w fun e w' => ∃ v2_ v3_ v4_ v5_ : Value, e = .returned (.tuple #[.agg #[.int .i64 r1, .int .i64 r2, v2_, v3_, v4_], v5_, .bool r7]) ∧ Mem w [] w' [rowR k60 60 v2_ r3, rowR k60 60 v3_ r4, rowR (Kd.int .i64) 3 v4_ r5, rowR Kd.string 9 v5_ r6] := by
 have hu26 := Tryz.underlying26
 have hu60 := Tryz.underlying60
 have HR0_2 := Aside0.mk hr0_2
 have HC0_2 := Aside0.mk hc0_2
 clear hr0_2 hc0_2
 have HR0_3 := Aside0.mk hr0_3
 have HC0_3 := Aside0.mk hc0_3
 clear hr0_3 hc0_3
 have HR0_4 := Aside0.mk hr0_4
 have HC0_4 := Aside0.mk hc0_4
 clear hr0_4 hc0_4
 have HM := Mem.nil w
 have H := h
 clear h
 unfold impl_Put.f at H
 go_enter Tryz.func40, Tryz.ntmps40
 have HC6 := Aside0.mk H
 clear H
 go_upto_region 1 with (first | ((with_reducible refine gN 3 rfl ?_); refine pB 3 26 [.int .i64 a0_0, .int .i64 a0_1, .slice A0_2 l0_2.length c0_2, .slice A0_3 l0_3.length c0_3, .slice A0_4 l0_4.length c0_4] HM rfl ?_; clear HM; intro gb901 w4 HM) | ((with_reducible refine gN 6 rfl ?_); refine pB 6 26 [.int .i64 0, .int .i64 0, .slice none 0 0, .slice none 0 0, .slice none 0 0] HM rfl ?_; clear HM; intro gb902 w5 HM))
 replace HM := nzM HM
 try simp only [Act.put, List.setIfInBounds_toArray, List.set_cons_zero, List.set_cons_succ]
 go_cut [24] (fun v24 wc => ∃ (kq : Nat) (x24_5 : Bool), v24 = .bool x24_5 ∧ Aside0 (impl_Put.j0 kq a1 a2 x24_5 a0_0 a0_1 l0_2 l0_3 l0_4 = some (r1, r2, r3, r4, r5, r6, r7)) ∧ Aside0 (kq ≤ k) ∧ Mem w [] wc [box 26 gb901 [.int .i64 a0_0, .int .i64 a0_1, .slice A0_2 l0_2.length c0_2, .slice A0_3 l0_3.length c0_3, .slice A0_4 l0_4.length c0_4], box 26 gb902 [.int .i64 0, .int .i64 0, .slice none 0 0, .slice none 0 0, .slice none 0 0]])
 case first =>
  have H := HC6.out
  clear HC6
  replace H := BN H; obtain ⟨t903, A8, H⟩ := H
  replace H := IB H
  rcases H with ⟨c10, H⟩ | ⟨c10, H⟩
  ·subst c10
   replace H := BN H; obtain ⟨t904, A11, H⟩ := H
   have H' := Aside0.mk H
   clear H
   obtain ⟨_,_,_,_,_,_,_,_,_,_⟩ := bk5 (HM.bx 0 rfl)
   go_wp2_with (first | ((with_reducible refine gC 11 rfl ?_); refine pC (some 16) rfl #[.agg #[.int .i64 a0_0, .int .i64 a0_1, .slice A0_2 l0_2.length c0_2, .slice A0_3 l0_3.length c0_3, .slice A0_4 l0_4.length c0_4]] rfl Tryz.func11 (impl_ThreeOk.calls k a0_0 a0_1 _ _ l0_2 _ _ l0_3 _ _ l0_4 true _ (HM.came HR0_2.out) HC0_2.out (HM.came HR0_3.out) HC0_3.out (HM.came HR0_4.out) HC0_4.out A8.out) ?_; rintro e w9 ⟨rfl, hR⟩; refine ⟨_, rfl, ?_⟩; replace HM := HM.call hR; clear hR) | ((with_reducible refine gC 44 rfl ?_); refine pC (some 22) rfl #[.agg #[.string a1, .string a2, .int .i64 0]] rfl Tryz.func44 (impl_ItemOk.calls k a1 a2 0 t904 _ A11.out) ?_; rintro e w12 ⟨rfl, hR⟩; refine ⟨_, rfl, ?_⟩; replace HM := HM.call hR; clear hR))
   go_meet
   case rel => exact ⟨_, (!t904), RS, H', ⟨by first | omega | exact Nat.le_refl _⟩, (MD HM).pick [0, 1]⟩
  ·subst c10
   have H' := Aside0.mk H
   clear H
   obtain ⟨_,_,_,_,_,_,_,_,_,_⟩ := bk5 (HM.bx 0 rfl)
   go_wp2_with (first | ((with_reducible refine gC 11 rfl ?_); refine pC (some 16) rfl #[.agg #[.int .i64 a0_0, .int .i64 a0_1, .slice A0_2 l0_2.length c0_2, .slice A0_3 l0_3.length c0_3, .slice A0_4 l0_4.length c0_4]] rfl Tryz.func11 (impl_ThreeOk.calls k a0_0 a0_1 _ _ l0_2 _ _ l0_3 _ _ l0_4 false _ (HM.came HR0_2.out) HC0_2.out (HM.came HR0_3.out) HC0_3.out (HM.came HR0_4.out) HC0_4.out A8.out) ?_; rintro e w9 ⟨rfl, hR⟩; refine ⟨_, rfl, ?_⟩; replace HM := HM.call hR; clear hR))
   go_meet
   case rel => exact ⟨_, (true), RS, H', ⟨by first | omega | exact Nat.le_refl _⟩, (MD HM).pick [0, 1]⟩
 case rest =>
  clear HC6 HM
  obtain ⟨kq, x24_5, rfl, HA, HJ5, HM⟩ := hcut
  cases kq with
  | zero => exact absurd HA.out (by simp [impl_Put.j0])
  | succ kj5 =>
   have H := HA.out
   clear HA
   simp only [impl_Put.j0] at H
   replace H := IB H
   rcases H with ⟨c13, H⟩ | ⟨c13, H⟩
   ·subst c13
    simp only [Option.some.injEq, Prod.mk.injEq] at H
    obtain ⟨rfl, rfl, rfl, rfl, rfl, rfl, rfl⟩ := H
    go_wp2_with (first | ((with_reducible refine gS 6 rfl ?_); refine pS 1 6 0 [.int .i64 0, .int .i64 0, .slice none 0 0, .slice none 0 0, .slice none 0 0] HM rfl rfl ?_; clear HM; intro w14 HM; replace HM := HM.nl k60 60; replace HM := HM.nl k60 60; replace HM := HM.nl (Kd.int .i64) 3; replace HM := HM.nl Kd.string 9))
    refine bodyPost_ret (results_ctt rfl _ _ gb902 26 #[.int .i64 0, .int .i64 0, .slice none 0 0, .slice none 0 0, .slice none 0 0] (0, 0) _ rfl (HM.bx 1 rfl) Tryz.underlying26 rfl (by kernel_rfl)) rfl ?_
    exact ⟨_, _, _, _, ER, (MD HM).pick [2, 3, 4, 5]⟩
   ·subst c13
    replace H := BN H; obtain ⟨⟨t905, t906, t907, t910, t913⟩, A16, H⟩ := H
    replace H := BLt H; obtain ⟨y917, Ny917, H⟩ := H
    replace Ny917 := Aside0.mk Ny917
    replace H := BN H; obtain ⟨t920, A25, H⟩ := H
    replace H := IT H; rcases H with ⟨c27, H⟩ | ⟨c27, H⟩
    ·have c27b0 : decide (0 ≤ t920) = true := decide_eq_true c27
     clear c27
     replace H := IT H; rcases H with ⟨c29, H⟩ | ⟨c29, H⟩
     ·have c29b0 : decide (t920 < (t907.length : Int)) = true := decide_eq_true c29
      clear c29
      replace H := GD H; obtain ⟨c30, H⟩ := H
      have c30b0 : decide (0 ≤ t920) = true := decide_eq_true c30
      clear c30
      replace H := BLt H; obtain ⟨y921, Ny921, H⟩ := H
      replace Ny921 := Aside0.mk Ny921
      obtain ⟨ji35, hji35⟩ : ∃ j_ : Int, (mn 3 (wrap64 (((rd_T60 y921 t920).f2) + 1))) = j_ := ⟨_, rfl⟩
      (first | rw [hji35] at H | simp only [hji35] at H | skip)
      have hji35_ : (if (wrap64 (((rd_T60 y921 t920).f2) + 1)) < 3 then (wrap64 (((rd_T60 y921 t920).f2) + 1)) else 3) = ji35 := hji35
      (try (have hji35h : ji35 ≤ 3 := by (rw [← hji35]; unfold mn; (repeat' split) <;> omega)))
      simp only [Option.some.injEq, Prod.mk.injEq] at H
      obtain ⟨rfl, rfl, rfl, rfl, rfl, rfl, rfl⟩ := H
      obtain ⟨_,_,_,_,_,_,_,_,_,_⟩ := bk5 (HM.bx 0 rfl)
      go_wp2_with (first | ((with_reducible refine gC 15 rfl ?_); refine pC (some 27) rfl #[.agg #[.int .i64 a0_0, .int .i64 a0_1, .slice A0_2 l0_2.length c0_2, .slice A0_3 l0_3.length c0_3, .slice A0_4 l0_4.length c0_4]] rfl Tryz.func15 (impl_copyThree.calls a0_0 a0_1 _ _ l0_2 _ _ l0_3 _ _ l0_4 t905 t906 t907 t910 t913 _ (HM.came HR0_2.out) HC0_2.out (HM.came HR0_3.out) HC0_3.out (HM.came HR0_4.out) HC0_4.out A16.out) ?_; rintro e w17 ⟨v908, v911, v914, rfl, hR⟩; refine ⟨_, rfl, ?_⟩; replace HM := HM.call hR; clear hR) | ((with_reducible refine gN 9 rfl ?_); refine pB 9 26 [.int .i64 0, .int .i64 0, .slice none 0 0, .slice none 0 0, .slice none 0 0] HM rfl ?_; clear HM; intro gb916 w18 HM; obtain ⟨Xo19, ko19, rfl⟩ := HM.rdR 2 rfl; obtain ⟨Xo20, ko20, rfl⟩ := HM.rdR 3 rfl; obtain ⟨Xo21, ko21, rfl⟩ := HM.rdR 4 rfl) | ((with_reducible refine gS 9 rfl ?_); refine pS 5 9 0 [.int .i64 t905, .int .i64 t906, .slice Xo19 t907.length ko19, .slice Xo20 t910.length ko20, .slice Xo21 t913.length ko21] HM rfl rfl ?_; clear HM; intro w22 HM) | ((with_reducible refine gN 28 rfl ?_); refine pL 28 Kd.string 9 ([] : List ByteArray) [] (Reps.none _ _) HM rfl ?_; clear HM; intro v918 w23 HM; replace HM := HM.nm 6 rfl Ny917.out; obtain ⟨_,_,_,_,_,_,_,_,_,_⟩ := bk5 (HM.bx 5 rfl)) | ((with_reducible refine gC 57 rfl ?_); refine pC (some 30) rfl #[.pointer (some ⟨gb916, 0, none⟩), .string a1] rfl Tryz.func57 (impl_Three_item.calls gb916 t905 t906 (.slice Xo21 t913.length ko21) Xo19 ko19 t907 Xo20 ko20 t910 a1 t920 _ (HM.CR 2 rfl).2.2 (HM.CR 2 rfl).2.1 (HM.CR 3 rfl).2.2 (HM.CR 3 rfl).2.1 (HM.bx 5 rfl) A25.out) ?_; rintro e w26 ⟨rfl, hb⟩; refine ⟨_, rfl, ?_⟩; replace HM := HM.below hb; clear hb; have pf32 : 0 ≤ (t920 : Int) := of_decide_eq_true AS; have qf32 : (t920 : Int) < ((t907.length : Int) : Int) := of_decide_eq_true AS; obtain ⟨gof32, eff32⟩ := HM.form 2 rfl (by have h_ := (HM.CR 2 rfl).1; omega); subst eff32; clear pf32 qf32; (first | rw [impl_Three_item.ptr_nil (by assumption)] | rw [impl_Three_item.ptr_small (by assumption) (by assumption)] | rw [impl_Three_item.ptr_main (by assumption) (by assumption)] | rw [impl_Three_item.ptr_nil' (by assumption)] | rw [impl_Three_item.ptr_small' (by assumption) (by assumption)] | rw [impl_Three_item.ptr_main' (by assumption) (by assumption)]); obtain ⟨_,_,_,_,_,_,_,_,_,_⟩ := bk5 (HM.bx 5 rfl); have p31 : 0 ≤ (t920 : Int) := of_decide_eq_true AS; have q31 : (t920 : Int) < ((t907.length : Int) : Int) := of_decide_eq_true AS; obtain ⟨hx31_0, hx31_1, hx31_2, hf31_0, hf31_1, hf31_2⟩ := HM.el3 2 rfl z60 (t920 : Int) p31 (by have h_ := (HM.CR 2 rfl).1; omega) (.string ((rd_T60 t907 t920).f0)) (.string ((rd_T60 t907 t920).f1)) (.int .i64 ((rd_T60 t907 t920).f2)) (fun _ _ h => k60_openM h); replace p31 := eq_true p31; replace q31 := eq_true q31) | ((with_reducible refine gS 36 rfl ?_); refine pPR 2 36 (t920 : Int) 1 [.string a2] k60 60 t907 (⟨(rd_T60 t907 t920).f0, a2, (rd_T60 t907 t920).f2⟩ : S60) z60 [.string ((rd_T60 t907 t920).f0), .string ((rd_T60 t907 t920).f1), .int .i64 ((rd_T60 t907 t920).f2)] HM rfl rfl (of_decide_eq_true AS) (by have h_ : (t920 : Int) < ((t907.length : Int) : Int) := of_decide_eq_true AS; have e_ := (HM.CR 2 rfl).1; omega) (fun _ _ h => k60_openM h) (k60_mkM _ _ _ (⟨(rd_T60 t907 t920).f0, a2, (rd_T60 t907 t920).f2⟩ : S60)) ?_; clear HM; intro w33 HM; replace HM := HM.nm 2 rfl Ny921.out; have p34 : 0 ≤ (t920 : Int) := of_decide_eq_true AS; have q34 : (t920 : Int) < ((t907.length : Int) : Int) := of_decide_eq_true AS; obtain ⟨hx34_0, hx34_1, hx34_2, hf34_0, hf34_1, hf34_2⟩ := HM.el3 2 rfl z60 (t920 : Int) p34 (by have h_ := (HM.CR 2 rfl).1; omega) (.string ((rd_T60 y921 t920).f0)) (.string ((rd_T60 y921 t920).f1)) (.int .i64 ((rd_T60 y921 t920).f2)) (fun _ _ h => k60_openM h); replace p34 := eq_true p34; replace q34 := eq_true q34) | ((with_reducible refine gS 45 rfl ?_); refine pPR 2 45 (t920 : Int) 2 [.int .i64 ji35] k60 60 y921 (⟨(rd_T60 y921 t920).f0, (rd_T60 y921 t920).f1, ji35⟩ : S60) z60 [.string ((rd_T60 y921 t920).f0), .string ((rd_T60 y921 t920).f1), .int .i64 ((rd_T60 y921 t920).f2)] HM rfl rfl (of_decide_eq_true AS) (by have h_ : (t920 : Int) < ((t907.length : Int) : Int) := of_decide_eq_true AS; have e_ := (HM.CR 2 rfl).1; omega) (fun _ _ h => k60_openM h) (k60_mkM _ _ _ (⟨(rd_T60 y921 t920).f0, (rd_T60 y921 t920).f1, ji35⟩ : S60)) ?_; clear HM; intro w36 HM; have p37 : 0 ≤ (t920 : Int) := of_decide_eq_true AS; have q37 : (t920 : Int) < ((t907.length : Int) : Int) := of_decide_eq_true AS; obtain ⟨hx37_0, hx37_1, hx37_2, hf37_0, hf37_1, hf37_2⟩ := HM.el3 2 rfl z60 (t920 : Int) p37 (by have h_ := (HM.CR 2 rfl).1; omega) (.string ((rd_T60 (y921.set (t920 : Int).toNat (⟨(rd_T60 y921 t920).f0, (rd_T60 y921 t920).f1, ji35⟩ : S60)) t920).f0)) (.string ((rd_T60 (y921.set (t920 : Int).toNat (⟨(rd_T60 y921 t920).f0, (rd_T60 y921 t920).f1, ji35⟩ : S60)) t920).f1)) (.int .i64 ((rd_T60 (y921.set (t920 : Int).toNat (⟨(rd_T60 y921 t920).f0, (rd_T60 y921 t920).f1, ji35⟩ : S60)) t920).f2)) (fun _ _ h => k60_openM h); replace p37 := eq_true p37; replace q37 := eq_true q37; obtain ⟨_,_,_,_,_,_,_,_,_,_⟩ := bk5 (HM.bx 5 rfl)) | ((with_reducible refine gS 6 rfl ?_); refine pS 1 6 0 [.int .i64 t905, .int .i64 t906, .slice (some ⟨gof32, 0, none⟩) t907.length ko19, .slice Xo20 t910.length ko20, .slice Xo21 t913.length ko21] HM rfl rfl ?_; clear HM; intro w39 HM))
      refine bodyPost_ret (results_ctt rfl _ _ gb902 26 #[.int .i64 t905, .int .i64 t906, .slice (some ⟨gof32, 0, none⟩) t907.length ko19, .slice Xo20 t910.length ko20, .slice Xo21 t913.length ko21] (0, 0) _ rfl (HM.bx 1 rfl) Tryz.underlying26 rfl (by kernel_rfl)) rfl ?_
      exact ⟨_, _, _, _, ER, (MD HM).pick [2, 3, 4, 6]⟩
     ·have c29b0 : decide (t920 < (t907.length : Int)) = false := decide_eq_false c29
      clear c29
      replace H := GD H; obtain ⟨c40, H⟩ := H
      have c40b0 : decide (0 ≤ (wrap64 (t920 - (t907.length : Int)))) = true := decide_eq_true c40
      clear c40
      replace H := GD H; obtain ⟨c41, H⟩ := H
      have c41b0 : decide ((wrap64 (t920 - (t907.length : Int))) < (t910.length : Int)) = true := decide_eq_true c41
      clear c41
      replace H := BLt H; obtain ⟨y923, Ny923, H⟩ := H
      replace Ny923 := Aside0.mk Ny923
      obtain ⟨ji46, hji46⟩ : ∃ j_ : Int, (mn 3 (wrap64 (((rd_T60 y923 (wrap64 (t920 - (t907.length : Int)))).f2) + 1))) = j_ := ⟨_, rfl⟩
      (first | rw [hji46] at H | simp only [hji46] at H | skip)
      have hji46_ : (if (wrap64 (((rd_T60 y923 (wrap64 (t920 - (t907.length : Int)))).f2) + 1)) < 3 then (wrap64 (((rd_T60 y923 (wrap64 (t920 - (t907.length : Int)))).f2) + 1)) else 3) = ji46 := hji46
      (try (have hji46h : ji46 ≤ 3 := by (rw [← hji46]; unfold mn; (repeat' split) <;> omega)))
      simp only [Option.some.injEq, Prod.mk.injEq] at H
      obtain ⟨rfl, rfl, rfl, rfl, rfl, rfl, rfl⟩ := H
      obtain ⟨_,_,_,_,_,_,_,_,_,_⟩ := bk5 (HM.bx 0 rfl)
      go_wp2_with (first | ((with_reducible refine gC 15 rfl ?_); refine pC (some 27) rfl #[.agg #[.int .i64 a0_0, .int .i64 a0_1, .slice A0_2 l0_2.length c0_2, .slice A0_3 l0_3.length c0_3, .slice A0_4 l0_4.length c0_4]] rfl Tryz.func15 (impl_copyThree.calls a0_0 a0_1 _ _ l0_2 _ _ l0_3 _ _ l0_4 t905 t906 t907 t910 t913 _ (HM.came HR0_2.out) HC0_2.out (HM.came HR0_3.out) HC0_3.out (HM.came HR0_4.out) HC0_4.out A16.out) ?_; rintro e w17 ⟨v908, v911, v914, rfl, hR⟩; refine ⟨_, rfl, ?_⟩; replace HM := HM.call hR; clear hR) | ((with_reducible refine gN 9 rfl ?_); refine pB 9 26 [.int .i64 0, .int .i64 0, .slice none 0 0, .slice none 0 0, .slice none 0 0] HM rfl ?_; clear HM; intro gb916 w18 HM; obtain ⟨Xo19, ko19, rfl⟩ := HM.rdR 2 rfl; obtain ⟨Xo20, ko20, rfl⟩ := HM.rdR 3 rfl; obtain ⟨Xo21, ko21, rfl⟩ := HM.rdR 4 rfl) | ((with_reducible refine gS 9 rfl ?_); refine pS 5 9 0 [.int .i64 t905, .int .i64 t906, .slice Xo19 t907.length ko19, .slice Xo20 t910.length ko20, .slice Xo21 t913.length ko21] HM rfl rfl ?_; clear HM; intro w22 HM) | ((with_reducible refine gN 28 rfl ?_); refine pL 28 Kd.string 9 ([] : List ByteArray) [] (Reps.none _ _) HM rfl ?_; clear HM; intro v918 w23 HM; replace HM := HM.nm 6 rfl Ny917.out; obtain ⟨_,_,_,_,_,_,_,_,_,_⟩ := bk5 (HM.bx 5 rfl)) | ((with_reducible refine gC 57 rfl ?_); refine pC (some 30) rfl #[.pointer (some ⟨gb916, 0, none⟩), .string a1] rfl Tryz.func57 (impl_Three_item.calls gb916 t905 t906 (.slice Xo21 t913.length ko21) Xo19 ko19 t907 Xo20 ko20 t910 a1 t920 _ (HM.CR 2 rfl).2.2 (HM.CR 2 rfl).2.1 (HM.CR 3 rfl).2.2 (HM.CR 3 rfl).2.1 (HM.bx 5 rfl) A25.out) ?_; rintro e w26 ⟨rfl, hb⟩; refine ⟨_, rfl, ?_⟩; replace HM := HM.below hb; clear hb; have pf43 : 0 ≤ ((wrap64 (t920 - (t907.length : Int))) : Int) := of_decide_eq_true AS; have qf43 : ((wrap64 (t920 - (t907.length : Int))) : Int) < ((t910.length : Int) : Int) := of_decide_eq_true AS; obtain ⟨gof43, eff43⟩ := HM.form 3 rfl (by have h_ := (HM.CR 3 rfl).1; omega); subst eff43; clear pf43 qf43; (first | rw [impl_Three_item.ptr_nil (by assumption)] | rw [impl_Three_item.ptr_small (by assumption) (by assumption)] | rw [impl_Three_item.ptr_main (by assumption) (by assumption)] | rw [impl_Three_item.ptr_nil' (by assumption)] | rw [impl_Three_item.ptr_small' (by assumption) (by assumption)] | rw [impl_Three_item.ptr_main' (by assumption) (by assumption)]); obtain ⟨_,_,_,_,_,_,_,_,_,_⟩ := bk5 (HM.bx 5 rfl); have p42 : 0 ≤ ((wrap64 (t920 - (t907.length : Int))) : Int) := of_decide_eq_true AS; have q42 : ((wrap64 (t920 - (t907.length : Int))) : Int) < ((t910.length : Int) : Int) := of_decide_eq_true AS; obtain ⟨hx42_0, hx42_1, hx42_2, hf42_0, hf42_1, hf42_2⟩ := HM.el3 3 rfl z60 ((wrap64 (t920 - (t907.length : Int))) : Int) p42 (by have h_ := (HM.CR 3 rfl).1; omega) (.string ((rd_T60 t910 (wrap64 (t920 - (t907.length : Int)))).f0)) (.string ((rd_T60 t910 (wrap64 (t920 - (t907.length : Int)))).f1)) (.int .i64 ((rd_T60 t910 (wrap64 (t920 - (t907.length : Int)))).f2)) (fun _ _ h => k60_openM h); replace p42 := eq_true p42; replace q42 := eq_true q42) | ((with_reducible refine gS 36 rfl ?_); refine pPR 3 36 ((wrap64 (t920 - (t907.length : Int))) : Int) 1 [.string a2] k60 60 t910 (⟨(rd_T60 t910 (wrap64 (t920 - (t907.length : Int)))).f0, a2, (rd_T60 t910 (wrap64 (t920 - (t907.length : Int)))).f2⟩ : S60) z60 [.string ((rd_T60 t910 (wrap64 (t920 - (t907.length : Int)))).f0), .string ((rd_T60 t910 (wrap64 (t920 - (t907.length : Int)))).f1), .int .i64 ((rd_T60 t910 (wrap64 (t920 - (t907.length : Int)))).f2)] HM rfl rfl (of_decide_eq_true AS) (by have h_ : ((wrap64 (t920 - (t907.length : Int))) : Int) < ((t910.length : Int) : Int) := of_decide_eq_true AS; have e_ := (HM.CR 3 rfl).1; omega) (fun _ _ h => k60_openM h) (k60_mkM _ _ _ (⟨(rd_T60 t910 (wrap64 (t920 - (t907.length : Int)))).f0, a2, (rd_T60 t910 (wrap64 (t920 - (t907.length : Int)))).f2⟩ : S60)) ?_; clear HM; intro w44 HM; replace HM := HM.nm 3 rfl Ny923.out; have p45 : 0 ≤ ((wrap64 (t920 - (t907.length : Int))) : Int) := of_decide_eq_true AS; have q45 : ((wrap64 (t920 - (t907.length : Int))) : Int) < ((t910.length : Int) : Int) := of_decide_eq_true AS; obtain ⟨hx45_0, hx45_1, hx45_2, hf45_0, hf45_1, hf45_2⟩ := HM.el3 3 rfl z60 ((wrap64 (t920 - (t907.length : Int))) : Int) p45 (by have h_ := (HM.CR 3 rfl).1; omega) (.string ((rd_T60 y923 (wrap64 (t920 - (t907.length : Int)))).f0)) (.string ((rd_T60 y923 (wrap64 (t920 - (t907.length : Int)))).f1)) (.int .i64 ((rd_T60 y923 (wrap64 (t920 - (t907.length : Int)))).f2)) (fun _ _ h => k60_openM h); replace p45 := eq_true p45; replace q45 := eq_true q45) | ((with_reducible refine gS 45 rfl ?_); refine pPR 3 45 ((wrap64 (t920 - (t907.length : Int))) : Int) 2 [.int .i64 ji46] k60 60 y923 (⟨(rd_T60 y923 (wrap64 (t920 - (t907.length : Int)))).f0, (rd_T60 y923 (wrap64 (t920 - (t907.length : Int)))).f1, ji46⟩ : S60) z60 [.string ((rd_T60 y923 (wrap64 (t920 - (t907.length : Int)))).f0), .string ((rd_T60 y923 (wrap64 (t920 - (t907.length : Int)))).f1), .int .i64 ((rd_T60 y923 (wrap64 (t920 - (t907.length : Int)))).f2)] HM rfl rfl (of_decide_eq_true AS) (by have h_ : ((wrap64 (t920 - (t907.length : Int))) : Int) < ((t910.length : Int) : Int) := of_decide_eq_true AS; have e_ := (HM.CR 3 rfl).1; omega) (fun _ _ h => k60_openM h) (k60_mkM _ _ _ (⟨(rd_T60 y923 (wrap64 (t920 - (t907.length : Int)))).f0, (rd_T60 y923 (wrap64 (t920 - (t907.length : Int)))).f1, ji46⟩ : S60)) ?_; clear HM; intro w47 HM; have p48 : 0 ≤ ((wrap64 (t920 - (t907.length : Int))) : Int) := of_decide_eq_true AS; have q48 : ((wrap64 (t920 - (t907.length : Int))) : Int) < ((t910.length : Int) : Int) := of_decide_eq_true AS; obtain ⟨hx48_0, hx48_1, hx48_2, hf48_0, hf48_1, hf48_2⟩ := HM.el3 3 rfl z60 ((wrap64 (t920 - (t907.length : Int))) : Int) p48 (by have h_ := (HM.CR 3 rfl).1; omega) (.string ((rd_T60 (y923.set ((wrap64 (t920 - (t907.length : Int))) : Int).toNat (⟨(rd_T60 y923 (wrap64 (t920 - (t907.length : Int)))).f0, (rd_T60 y923 (wrap64 (t920 - (t907.length : Int)))).f1, ji46⟩ : S60)) (wrap64 (t920 - (t907.length : Int)))).f0)) (.string ((rd_T60 (y923.set ((wrap64 (t920 - (t907.length : Int))) : Int).toNat (⟨(rd_T60 y923 (wrap64 (t920 - (t907.length : Int)))).f0, (rd_T60 y923 (wrap64 (t920 - (t907.length : Int)))).f1, ji46⟩ : S60)) (wrap64 (t920 - (t907.length : Int)))).f1)) (.int .i64 ((rd_T60 (y923.set ((wrap64 (t920 - (t907.length : Int))) : Int).toNat (⟨(rd_T60 y923 (wrap64 (t920 - (t907.length : Int)))).f0, (rd_T60 y923 (wrap64 (t920 - (t907.length : Int)))).f1, ji46⟩ : S60)) (wrap64 (t920 - (t907.length : Int)))).f2)) (fun _ _ h => k60_openM h); replace p48 := eq_true p48; replace q48 := eq_true q48; obtain ⟨_,_,_,_,_,_,_,_,_,_⟩ := bk5 (HM.bx 5 rfl)) | ((with_reducible refine gS 6 rfl ?_); refine pS 1 6 0 [.int .i64 t905, .int .i64 t906, .slice Xo19 t907.length ko19, .slice (some ⟨gof43, 0, none⟩) t910.length ko20, .slice Xo21 t913.length ko21] HM rfl rfl ?_; clear HM; intro w50 HM))
      refine bodyPost_ret (results_ctt rfl _ _ gb902 26 #[.int .i64 t905, .int .i64 t906, .slice Xo19 t907.length ko19, .slice (some ⟨gof43, 0, none⟩) t910.length ko20, .slice Xo21 t913.length ko21] (0, 0) _ rfl (HM.bx 1 rfl) Tryz.underlying26 rfl (by kernel_rfl)) rfl ?_
      exact ⟨_, _, _, _, ER, (MD HM).pick [2, 3, 4, 6]⟩
    ·have c27b0 : decide (0 ≤ t920) = false := decide_eq_false c27
     clear c27
     have H' := Aside0.mk H
     clear H
     obtain ⟨_,_,_,_,_,_,_,_,_,_⟩ := bk5 (HM.bx 0 rfl)
     go_wp2_with (first | ((with_reducible refine gC 15 rfl ?_); refine pC (some 27) rfl #[.agg #[.int .i64 a0_0, .int .i64 a0_1, .slice A0_2 l0_2.length c0_2, .slice A0_3 l0_3.length c0_3, .slice A0_4 l0_4.length c0_4]] rfl Tryz.func15 (impl_copyThree.calls a0_0 a0_1 _ _ l0_2 _ _ l0_3 _ _ l0_4 t905 t906 t907 t910 t913 _ (HM.came HR0_2.out) HC0_2.out (HM.came HR0_3.out) HC0_3.out (HM.came HR0_4.out) HC0_4.out A16.out) ?_; rintro e w17 ⟨v908, v911, v914, rfl, hR⟩; refine ⟨_, rfl, ?_⟩; replace HM := HM.call hR; clear hR) | ((with_reducible refine gN 9 rfl ?_); refine pB 9 26 [.int .i64 0, .int .i64 0, .slice none 0 0, .slice none 0 0, .slice none 0 0] HM rfl ?_; clear HM; intro gb916 w18 HM; obtain ⟨Xo19, ko19, rfl⟩ := HM.rdR 2 rfl; obtain ⟨Xo20, ko20, rfl⟩ := HM.rdR 3 rfl; obtain ⟨Xo21, ko21, rfl⟩ := HM.rdR 4 rfl) | ((with_reducible refine gS 9 rfl ?_); refine pS 5 9 0 [.int .i64 t905, .int .i64 t906, .slice Xo19 t907.length ko19, .slice Xo20 t910.length ko20, .slice Xo21 t913.length ko21] HM rfl rfl ?_; clear HM; intro w22 HM) | ((with_reducible refine gN 28 rfl ?_); refine pL 28 Kd.string 9 ([] : List ByteArray) [] (Reps.none _ _) HM rfl ?_; clear HM; intro v918 w23 HM; replace HM := HM.nm 6 rfl Ny917.out; obtain ⟨_,_,_,_,_,_,_,_,_,_⟩ := bk5 (HM.bx 5 rfl)) | ((with_reducible refine gC 57 rfl ?_); refine pC (some 30) rfl #[.pointer (some ⟨gb916, 0, none⟩), .string a1] rfl Tryz.func57 (impl_Three_item.calls gb916 t905 t906 (.slice Xo21 t913.length ko21) Xo19 ko19 t907 Xo20 ko20 t910 a1 t920 _ (HM.CR 2 rfl).2.2 (HM.CR 2 rfl).2.1 (HM.CR 3 rfl).2.2 (HM.CR 3 rfl).2.1 (HM.bx 5 rfl) A25.out) ?_; rintro e w26 ⟨rfl, hb⟩; refine ⟨_, rfl, ?_⟩; replace HM := HM.below hb; clear hb; (first | rw [impl_Three_item.ptr_nil (by assumption)] | rw [impl_Three_item.ptr_small (by assumption) (by assumption)] | rw [impl_Three_item.ptr_main (by assumption) (by assumption)] | rw [impl_Three_item.ptr_nil' (by assumption)] | rw [impl_Three_item.ptr_small' (by assumption) (by assumption)] | rw [impl_Three_item.ptr_main' (by assumption) (by assumption)]); replace HM := HM.toQ 2 rfl; replace HM := HM.toQ 3 rfl; replace HM := HM.toQ 4 rfl))
     go_loopg [10] kj5 (fun kq v10 w' => ∃ (x10_2 : List ByteArray) (x917000_2 : Int) (x917001_2 : Int) (x917002_2 : List (S60)) (x917003_2 : List (S60)) (x917004_2 : List Int) (u917002 : Value) (u917003 : Value) (u917004 : Value), Aside0 (impl_Put.l0 kq a1 a2 x10_2 x917000_2 x917001_2 x917002_2 x917003_2 x917004_2 = some (r1, r2, r3, r4, r5, r6, r7)) ∧ Aside0 (kq ≤ kj5) ∧ Mem w [] w' [rowR Kd.string 9 v10 x10_2, row k60 60 u917002 x917002_2, row k60 60 u917003 x917003_2, row (Kd.int .i64) 3 u917004 x917004_2, box 26 gb901 [.int .i64 a0_0, .int .i64 a0_1, .slice A0_2 l0_2.length c0_2, .slice A0_3 l0_3.length c0_3, .slice A0_4 l0_4.length c0_4], box 26 gb902 [.int .i64 0, .int .i64 0, .slice none 0 0, .slice none 0 0, .slice none 0 0], box 26 gb916 [.int .i64 x917000_2, .int .i64 x917001_2, u917002, u917003, u917004]])
     case atStart => exact ⟨(y917), (t905), (t906), (t907), (t910), (t913), (.slice Xo19 t907.length ko19), (.slice Xo20 t910.length ko20), (.slice Xo21 t913.length ko21), H', ⟨Nat.le_refl _⟩, (MD HM).pick [6, 2, 3, 4, 0, 1, 5]⟩
     case round =>
      clear H' HM
      obtain ⟨x10_2, x917000_2, x917001_2, x917002_2, x917003_2, x917004_2, u917002, u917003, u917004, HA, HK2, HM⟩ := hrel
      cases gk with
      | zero => exact absurd HA.out (by simp [impl_Put.l0])
      | succ k2 =>
       have H := HA.out
       clear HA
       simp only [impl_Put.l0] at H
       replace H := IT H; rcases H with ⟨c54, H⟩ | ⟨c54, H⟩
       ·have c54b0 : decide (x917000_2 ≤ (wrap64 ((x917002_2.length : Int) + (x917003_2.length : Int)))) = true := decide_eq_true c54
        clear c54
        replace H := BN H; obtain ⟨⟨t925, t926, t927, t930, t933, t936, t937⟩, A55, H⟩ := H
        replace H := GD H; obtain ⟨c57, H⟩ := H
        have LMc57 := Aside0.mk c57
        clear c57
        have H' := Aside0.mk H
        clear H
        obtain ⟨_,_,_,_,_,_,_,_,_,_⟩ := bk5 (HM.bx 6 rfl)
        obtain ⟨Xo52, ko52, rfl⟩ := HM.rd 1 rfl
        obtain ⟨Xo53, ko53, rfl⟩ := HM.rd 2 rfl
        go_wp2_with (first | ((with_reducible refine gC 58 rfl ?_); refine pC (some 59) rfl #[.pointer (some ⟨gb916, 0, none⟩)] rfl Tryz.func58 (impl_Three_evict.calls k2 gb916 x917000_2 x917001_2 (.slice Xo52 x917002_2.length ko52) x917002_2 (.slice Xo53 x917003_2.length ko53) x917003_2 u917004 x917004_2 t925 t926 t927 t930 t933 t936 t937 _ _ _ (HM.focus [0, 4, 5] [1, 2, 3, 6]) A55.out) ?_; rintro e w56 ⟨v928, v931, v934, rfl, hR⟩; refine ⟨_, rfl, ?_⟩; replace HM := nzM hR.unfocus; clear hR) | ((with_reducible refine gN 64 rfl ?_); refine pL 64 Kd.string 9 [t936] [.string t936] (Reps.one (show Kd.M Kd.string _ _ _ t936 [.string t936] from rfl) (Reps.none _ _)) HM rfl ?_; clear HM; intro v59 w58 HM; obtain ⟨Xv59, kv59, rfl⟩ := HM.rdR 7 rfl) | ((with_reducible refine gate_builtin (b := .append) (xs := #[.tmp 62, .tmp 64]) rfl ?_); refine pA 0 (.tmp 62) (.tmp 64) 71 9 Kd.string u10 x10_2 [t936] Xv59 ([t936].length) kv59 HM rfl Tryz.underlying71 info9 rfl (HM.CR 7 rfl).2.2 (by have h_ := LMc57.out; simp only [List.length_singleton]; omega) ?_; clear HM; intro v939 w60 HM))
        go_roundg k2
        case measure => have := HJ5.out; have := HK2.out; omega
        case rel => exact ⟨((x10_2 ++ [t936])), (t925), (t926), (t927), (t930), (t933), (v928), (v931), (v934), H', ⟨by have := HJ5.out; have := HK2.out; omega⟩, (MD HM).pick [0, 3, 4, 5, 1, 2, 6]⟩
       ·have c54b0 : decide (x917000_2 ≤ (wrap64 ((x917002_2.length : Int) + (x917003_2.length : Int)))) = false := decide_eq_false c54
        clear c54
        replace H := BN H; obtain ⟨t941, A61, H⟩ := H
        replace H := BN H; obtain ⟨t943, A67, H⟩ := H
        replace H := IB H
        rcases H with ⟨c70, H⟩ | ⟨c70, H⟩
        ·subst c70
         replace H := BN H; obtain ⟨t944, A72, H⟩ := H
         replace H := GD H; obtain ⟨c77, H⟩ := H
         have LMc77 := Aside0.mk c77
         clear c77
         replace H := BN H; obtain ⟨⟨t950, t951, t952, t955, t958⟩, A84, H⟩ := H
         simp only [Option.some.injEq, Prod.mk.injEq] at H
         obtain ⟨rfl, rfl, rfl, rfl, rfl, rfl, rfl⟩ := H
         obtain ⟨_,_,_,_,_,_,_,_,_,_⟩ := bk5 (HM.bx 6 rfl)
         obtain ⟨Xo52, ko52, rfl⟩ := HM.rd 1 rfl
         obtain ⟨Xo53, ko53, rfl⟩ := HM.rd 2 rfl
         go_wp2_with (first | ((with_reducible refine gC 59 rfl ?_); refine pC (some 67) rfl #[.string a1] rfl Tryz.func59 (impl_Hash.calls k2 a1 t941 _ A61.out) ?_; rintro e w62 ⟨rfl, hd⟩; refine ⟨_, rfl, ?_⟩; replace HM := HM.drawn hd; clear hd) | ((with_reducible refine gN 14 rfl ?_); refine pB 14 3 [.int .i64 0] HM rfl ?_; clear HM; intro gb942 w63 HM) | ((with_reducible refine gS 14 rfl ?_); refine pS 7 14 0 [.int .i64 t941] HM rfl rfl ?_; clear HM; intro w64 HM; obtain ⟨_,_,_,_,_,_,_,_,_,_⟩ := bk5 (HM.bx 6 rfl); obtain ⟨_,_⟩ := bk1 (HM.bx 7 rfl); obtain ⟨Xo69, ko69, rfl⟩ := HM.rd 3 rfl) | ((with_reducible refine gC 27 rfl ?_); refine pC (some 71) rfl #[.slice Xo69 x917004_2.length ko69, .int .i64 t941] rfl Tryz.func27 (slices_Contains_int_int.calls k2 _ _ x917004_2 t941 true _ (HM.C 3 rfl).2.2 (HM.C 3 rfl).2.1 A67.out) ?_; rintro e w68 ⟨rfl, hd⟩; refine ⟨_, rfl, ?_⟩; replace HM := HM.drawn hd; clear hd; obtain ⟨_,_,_,_,_,_,_,_,_,_⟩ := bk5 (HM.bx 6 rfl); obtain ⟨P_, hq_, hn_, fin_⟩ := HM.man 3 7 rfl rfl) | ((with_reducible refine gC 60 rfl ?_); refine pC (some 75) rfl #[.slice Xo69 x917004_2.length ko69, .func (.func 61) #[] #[.pointer (some ⟨gb942, 0, none⟩)]] rfl Tryz.func60 (slices_DeleteFunc_int_int.calls P_ (.slice Xo69 x917004_2.length ko69) x917004_2 61 Tryz.f61 gb942 t941 t944 (bare _) _ (bare_below _) hq_ (impl_Put.clo61 _ _) (HM.bx 7 rfl) hn_ A72.out) ?_; rintro e w73 ⟨v945, rfl, hQ_, hB_, hK_⟩; refine ⟨_, rfl, ?_⟩; replace HM := fin_ _ _ _ hQ_ hB_ hK_; clear hQ_ hB_ hK_ hq_ hn_ fin_ P_; obtain ⟨Xo74, ko74, rfl⟩ := HM.rd 3 rfl) | ((with_reducible refine gS 76 rfl ?_); refine pS 6 76 4 [.slice Xo74 t944.length ko74] HM rfl rfl ?_; clear HM; intro w75 HM; obtain ⟨_,_,_,_,_,_,_,_,_,_⟩ := bk5 (HM.bx 6 rfl)) | ((with_reducible refine gN 82 rfl ?_); refine pL 82 k60 60 [(⟨a1, a2, 0⟩ : S60)] [.string a1, .string a2, .int .i64 0] (Reps.c3 (show Kd.M k60 _ _ _ (⟨a1, a2, 0⟩ : S60) [.string a1, .string a2, .int .i64 0] from (k60_mkM _ _ _ (⟨a1, a2, 0⟩ : S60))) (Reps.none _ _)) HM rfl ?_; clear HM; intro v79 w78 HM; obtain ⟨Xv79, kv79, rfl⟩ := HM.rdR 8 rfl) | ((with_reducible refine gate_builtin (b := .append) (xs := #[.tmp 78, .tmp 82]) rfl ?_); refine pAq 2 (.tmp 78) (.tmp 82) 23 60 k60 (.slice Xo53 x917003_2.length ko53) x917003_2 [(⟨a1, a2, 0⟩ : S60)] Xv79 ([(⟨a1, a2, 0⟩ : S60)].length) kv79 HM rfl Tryz.underlying23 info60 rfl (HM.CR 8 rfl).2.2 (by have h_ := LMc77.out; simp only [List.length_singleton]; omega) (by simp) ?_; clear HM; intro v948 w80 HM; obtain ⟨Xo81, ko81, rfl⟩ := HM.rd 2 rfl) | ((with_reducible refine gS 84 rfl ?_); refine pS 6 84 3 [.slice Xo81 (x917003_2 ++ [(⟨a1, a2, 0⟩ : S60)]).length ko81] HM rfl rfl ?_; clear HM; intro w82 HM; obtain ⟨_,_,_,_,_,_,_,_,_,_⟩ := bk5 (HM.bx 6 rfl)) | ((with_reducible refine gC 15 rfl ?_); refine pC (some 94) rfl #[.agg #[.int .i64 x917000_2, .int .i64 x917001_2, .slice Xo52 x917002_2.length ko52, .slice Xo81 (x917003_2 ++ [(⟨a1, a2, 0⟩ : S60)]).length ko81, .slice Xo74 t944.length ko74]] rfl Tryz.func15 (impl_copyThree.calls x917000_2 x917001_2 _ _ x917002_2 _ _ (x917003_2 ++ [(⟨a1, a2, 0⟩ : S60)]) _ _ t944 t950 t951 t952 t955 t958 _ (HM.C 1 rfl).2.2 (HM.C 1 rfl).2.1 (HM.C 2 rfl).2.2 (HM.C 2 rfl).2.1 (HM.C 3 rfl).2.2 (HM.C 3 rfl).2.1 A84.out) ?_; rintro e w85 ⟨v953, v956, v959, rfl, hR⟩; refine ⟨_, rfl, ?_⟩; replace HM := HM.call hR; clear hR; obtain ⟨Xo86, ko86, rfl⟩ := HM.rdR 9 rfl; obtain ⟨Xo87, ko87, rfl⟩ := HM.rdR 10 rfl; obtain ⟨Xo88, ko88, rfl⟩ := HM.rdR 11 rfl) | ((with_reducible refine gS 6 rfl ?_); refine pS 5 6 0 [.int .i64 t950, .int .i64 t951, .slice Xo86 t952.length ko86, .slice Xo87 t955.length ko87, .slice Xo88 t958.length ko88] HM rfl rfl ?_; clear HM; intro w89 HM))
         refine bodyPost_ret (results_ctt rfl _ _ gb902 26 #[.int .i64 t950, .int .i64 t951, .slice Xo86 t952.length ko86, .slice Xo87 t955.length ko87, .slice Xo88 t958.length ko88] (0, 0) _ rfl (HM.bx 5 rfl) Tryz.underlying26 rfl (by kernel_rfl)) rfl ?_
         exact ⟨_, _, _, _, ER, (MD HM).pick [9, 10, 11, 0]⟩
        ·subst c70
         replace H := GD H; obtain ⟨c91, H⟩ := H
         have LMc91 := Aside0.mk c91
         clear c91
         replace H := BN H; obtain ⟨⟨t964, t965, t966, t969, t972⟩, A98, H⟩ := H
         simp only [Option.some.injEq, Prod.mk.injEq] at H
         obtain ⟨rfl, rfl, rfl, rfl, rfl, rfl, rfl⟩ := H
         obtain ⟨_,_,_,_,_,_,_,_,_,_⟩ := bk5 (HM.bx 6 rfl)
         obtain ⟨Xo52, ko52, rfl⟩ := HM.rd 1 rfl
         obtain ⟨Xo53, ko53, rfl⟩ := HM.rd 2 rfl
         go_wp2_with (first | ((with_reducible refine gC 59 rfl ?_); refine pC (some 67) rfl #[.string a1] rfl Tryz.func59 (impl_Hash.calls k2 a1 t941 _ A61.out) ?_; rintro e w62 ⟨rfl, hd⟩; refine ⟨_, rfl, ?_⟩; replace HM := HM.drawn hd; clear hd) | ((with_reducible refine gN 14 rfl ?_); refine pB 14 3 [.int .i64 0] HM rfl ?_; clear HM; intro gb942 w63 HM) | ((with_reducible refine gS 14 rfl ?_); refine pS 7 14 0 [.int .i64 t941] HM rfl rfl ?_; clear HM; intro w64 HM; obtain ⟨_,_,_,_,_,_,_,_,_,_⟩ := bk5 (HM.bx 6 rfl); obtain ⟨_,_⟩ := bk1 (HM.bx 7 rfl); obtain ⟨Xo69, ko69, rfl⟩ := HM.rd 3 rfl) | ((with_reducible refine gC 27 rfl ?_); refine pC (some 71) rfl #[.slice Xo69 x917004_2.length ko69, .int .i64 t941] rfl Tryz.func27 (slices_Contains_int_int.calls k2 _ _ x917004_2 t941 false _ (HM.C 3 rfl).2.2 (HM.C 3 rfl).2.1 A67.out) ?_; rintro e w68 ⟨rfl, hd⟩; refine ⟨_, rfl, ?_⟩; replace HM := HM.drawn hd; clear hd; obtain ⟨_,_,_,_,_,_,_,_,_,_⟩ := bk5 (HM.bx 6 rfl)) | ((with_reducible refine gN 90 rfl ?_); refine pL 90 k60 60 [(⟨a1, a2, 0⟩ : S60)] [.string a1, .string a2, .int .i64 0] (Reps.c3 (show Kd.M k60 _ _ _ (⟨a1, a2, 0⟩ : S60) [.string a1, .string a2, .int .i64 0] from (k60_mkM _ _ _ (⟨a1, a2, 0⟩ : S60))) (Reps.none _ _)) HM rfl ?_; clear HM; intro v93 w92 HM; obtain ⟨Xv93, kv93, rfl⟩ := HM.rdR 8 rfl) | ((with_reducible refine gate_builtin (b := .append) (xs := #[.tmp 86, .tmp 90]) rfl ?_); refine pAq 1 (.tmp 86) (.tmp 90) 23 60 k60 (.slice Xo52 x917002_2.length ko52) x917002_2 [(⟨a1, a2, 0⟩ : S60)] Xv93 ([(⟨a1, a2, 0⟩ : S60)].length) kv93 HM rfl Tryz.underlying23 info60 rfl (HM.CR 8 rfl).2.2 (by have h_ := LMc91.out; simp only [List.length_singleton]; omega) (by simp) ?_; clear HM; intro v962 w94 HM; obtain ⟨Xo95, ko95, rfl⟩ := HM.rd 1 rfl) | ((with_reducible refine gS 92 rfl ?_); refine pS 6 92 2 [.slice Xo95 (x917002_2 ++ [(⟨a1, a2, 0⟩ : S60)]).length ko95] HM rfl rfl ?_; clear HM; intro w96 HM; obtain ⟨_,_,_,_,_,_,_,_,_,_⟩ := bk5 (HM.bx 6 rfl)) | ((with_reducible refine gC 15 rfl ?_); refine pC (some 94) rfl #[.agg #[.int .i64 x917000_2, .int .i64 x917001_2, .slice Xo95 (x917002_2 ++ [(⟨a1, a2, 0⟩ : S60)]).length ko95, .slice Xo53 x917003_2.length ko53, .slice Xo69 x917004_2.length ko69]] rfl Tryz.func15 (impl_copyThree.calls x917000_2 x917001_2 _ _ (x917002_2 ++ [(⟨a1, a2, 0⟩ : S60)]) _ _ x917003_2 _ _ x917004_2 t964 t965 t966 t969 t972 _ (HM.C 1 rfl).2.2 (HM.C 1 rfl).2.1 (HM.C 2 rfl).2.2 (HM.C 2 rfl).2.1 (HM.C 3 rfl).2.2 (HM.C 3 rfl).2.1 A98.out) ?_; rintro e w99 ⟨v967, v970, v973, rfl, hR⟩; refine ⟨_, rfl, ?_⟩; replace HM := HM.call hR; clear hR; obtain ⟨Xo100, ko100, rfl⟩ := HM.rdR 9 rfl; obtain ⟨Xo101, ko101, rfl⟩ := HM.rdR 10 rfl; obtain ⟨Xo102, ko102, rfl⟩ := HM.rdR 11 rfl) | ((with_reducible refine gS 6 rfl ?_); refine pS 5 6 0 [.int .i64 t964, .int .i64 t965, .slice Xo100 t966.length ko100, .slice Xo101 t969.length ko101, .slice Xo102 t972.length ko102] HM rfl rfl ?_; clear HM; intro w103 HM))
         refine bodyPost_ret (results_ctt rfl _ _ gb902 26 #[.int .i64 t964, .int .i64 t965, .slice Xo100 t966.length ko100, .slice Xo101 t969.length ko101, .slice Xo102 t972.length ko102] (0, 0) _ rfl (HM.bx 5 rfl) Tryz.underlying26 rfl (by kernel_rfl)) rfl ?_
         exact ⟨_, _, _, _, ER, (MD HM).pick [9, 10, 11, 0]⟩
end Go.Proofs.YtnlnifpehndacaaGreat.G

namespace Go.Proofs.YtnlnifpehndacaaGreat.G
open Go.RowKit Go.Proofs.YtnlnifpehndacaaGreatW.PrintWords Go.Proofs.YtnlnifpehndacaaGreatW.PrintLast Go.Proofs.YtnlnifpehndacaaGreatW.PrintMore Go.Proofs.YtnlnifpehndacaaGreat.Sh
attribute [local go_sem] max2_int min2_int max_two min_two max_three min_three max_four min_four
set_option linter.unusedVariables false
set_option linter.unusedSimpArgs false
open Go.Proofs.YtnlnifpehndacaaGreat.Man
section
variable {P : Program}
/-- 'clear(s)' of what lies behind a queue of the call's own, in its spare room: the queue stays. -/
theorem Q_clear_runI {α : Type} (d : Kd α) {W : World} (base : Nat) (t ty e : TypeId) (z : Value) (ht : P.underlying t = some (.slice e)) (hz : ∀ w, (zeroValue e).run P w = .ok z w) (hzs : z.cells.size = d.sz) (hz1 : ∀ u ∈ z.cells.toList, u.oneCell' = true)
  {g o n c m : Nat} {xs : List α} {ok : Nat → Prop} (HO : d.Q e W base ok (.slice (some ⟨g, o, none⟩) n c) xs) (hm : n + m ≤ c) (hm0 : 0 < m) (hn0 : 0 < c) (c2 : Nat) (hpos : 0 < d.sz) :
  ∃ w1, (Builtin.clear_ #[t] ty #[.slice (some ⟨g, o + n * d.sz, none⟩) m c2]).run P W = .ok (.tuple #[]) w1 ∧ d.Q e w1 base ok (.slice (some ⟨g, o, none⟩) n c) xs ∧ W.grownBy w1 (some g) := by
 obtain ⟨hn, hnc, _⟩ := Kd.Q_reads' HO
 obtain ⟨hok, inner, hown, hr⟩ := HO
 have hin : inner.length = n * d.sz := by rw [hr.1, hn]
 rcases hown.2 with ⟨h0, A, hv, _⟩ | ⟨g', off, cap', cur, hv, hb, hh, hcn, hcm, hcs, htake⟩
 ·injection hv with _ h1 h2
  omega
 injection hv with ha _ hc
 injection ha with ha
 injection ha with hg ho
 subst hg; subst hc; subst ho
 rw [← hn] at htake
 obtain ⟨news, hnews⟩ : ∃ news, news = (Builtin.zeroCells z.cells m).toList := ⟨_, rfl⟩
 have hnl : news.length = m * d.sz := by rw [hnews, cycle_len _ _ hm0, hzs]
 have hone : ∀ u ∈ news, u.oneCell' = true := by
  intro u hu
  rw [hnews] at hu
  have hp : 0 < z.cells.size := by omega
  simp only [Builtin.zeroCells, Array.toList_map, List.mem_map] at hu
  obtain ⟨i, _, rfl⟩ := hu
  have hi := Nat.mod_lt i hp
  rw [getElem!_pos z.cells _ hi]
  exact hz1 _ (by simp)
 have hnm : (n + m) * d.sz ≤ c * d.sz := Nat.mul_le_mul_right _ hm
 have hnm2 : (n + m) * d.sz = n * d.sz + m * d.sz := Nat.add_mul _ _ _
 have hoc : (off + c) * d.sz = off * d.sz + c * d.sz := Nat.add_mul _ _ _
 have hfit : off * d.sz + n * d.sz + news.length ≤ cur.size := by omega
 have hst := run_storeCells_cells (P := P) g (off * d.sz + n * d.sz) news 0 W (fun j hj => by rw [cell_of_row W g _ cur e (0, 0) hh]; simp; omega) (fun j _ => blk_frozen hh _) hone
 simp only [Nat.add_zero] at hst
 obtain ⟨cur', h3, h4, h5⟩ := setCells_row news (off * d.sz + n * d.sz) W cur hh hfit
 obtain ⟨s1, s2, s3, s4⟩ := setCells_same g news (off * d.sz + n * d.sz) W
 have hfar : ∀ k', k' ≠ g → (W.setCells g (off * d.sz + n * d.sz) news).heap[k']? = W.heap[k']? := fun k' hk' => setCells_far news _ k' hk'
 refine ⟨_, ?_, ⟨hok, inner, ⟨by rw [hin, hn], .inr ⟨g, off, c, cur', by rw [hn], hb, h3, by omega, hcm, by rw [h4, hcs], ?_⟩⟩, ?_⟩, ⟨s1, s2, s3, by rw [s4]; exact Nat.le_refl _, fun k' _ hk' => hfar k' (fun he => hk' (by rw [he]))⟩⟩
 ·obtain ⟨k, rfl⟩ : ∃ k, m = k + 1 := ⟨m - 1, by omega⟩
  have hzc : (Builtin.zeroCells z.cells (k + 1)).toList = news := hnews.symm
  simp [Builtin.clear_, run_underlying ht, hz, hzc, hst]
 ·rw [← hn, h5, List.append_assoc]
  have hl : (cur.toList.take (off * d.sz + n * d.sz)).drop (off * d.sz) = (cur.toList.drop (off * d.sz)).take (n * d.sz) := by
   rw [List.drop_take]
   congr 1
   omega
  have hlen : (cur.toList.take (off * d.sz + n * d.sz)).length = off * d.sz + n * d.sz := by
   rw [List.length_take, Array.length_toList]; omega
  rw [List.drop_append_of_le_length (by rw [hlen]; omega), hl, htake]
  exact List.take_left' hin
 ·exact hr.imp_ (fun p q hp => d.M_move (fun k' hk' => hfar k' (fun he => hk'.2 (by simp [Value.ownBlock, he]))) hp)
end
def delItem.idx (h : ByteArray) : List S60 → Nat → Int
 | [], _ => -1
 | x :: r, i => if x.f0.toList = h.toList then (i : Int) else delItem.idx h r (i + 1)
theorem delItem.idx_at (h : ByteArray) (l : List S60) (i : Nat) (hi : i < l.length) : delItem.idx h (l.drop i) i = if (rd_T60 l (i : Int)).f0.toList = h.toList then (i : Int) else delItem.idx h (l.drop (i + 1)) (i + 1) := by
 rw [List.drop_eq_getElem_cons hi, delItem.idx]
 have e : rd_T60 l (i : Int) = l[i] := by
  show l.getD (i : Int).toNat _ = _
  simp [List.getD_eq_getElem?_getD, hi]
 rw [e]
theorem delItem.idx_end (h : ByteArray) (l : List S60) (i : Nat) (hi : ¬ i < l.length) : delItem.idx h (l.drop i) i = -1 := by
 rw [List.drop_of_length_le (by omega)]; rfl
/-- What is asked of a closure over one number: it tells whether it is handed just that one. -/
def delItem.Clo (M : Nat) (fnM : Func) (B : Nat) (h : ByteArray) : Prop := Tryz.prog.funcs[M]? = some fnM ∧ (fnM.name == "runtime.NumGoroutine") = false ∧ fnM.body.isSome = true ∧ ∀ (y : S60) (W : World), W.heap[B]? = some (.cells #[.string h] 9 (0, 0)) →
 Calls Tryz.prog M #[.agg #[.string y.f0, .string y.f1, .int .i64 y.f2], .pointer (some ⟨B, 0, none⟩)] W fun e w' => e = .returned (.bool (y.f0.toList == h.toList)) ∧ Below W.heap.size W w'
theorem delItem.index (M : Nat) (fnM : Func) (B : Nat) (h : ByteArray) (hM : delItem.Clo M fnM B h) (A0 : Option Addr) (c0 : Nat) (l0 : List S60) (w : World) (hblk : w.heap[B]? = some (.cells #[.string h] 9 (0, 0))) (hr0 : Kd.C k60 w A0 l0.length l0) (hc0 : l0.length ≤ c0) :
  Calls Tryz.prog 65 #[.slice A0 l0.length c0, .func (.func M) #[] #[.pointer (some ⟨B, 0, none⟩)]] w fun e w' => e = .returned (.int .i64 (delItem.idx h l0 0)) ∧ Below w.heap.size w w' := by
 obtain ⟨hfM, hnM, hbM, hcM⟩ := hM
 have HR0 := Aside0.mk hr0
 have HC0 := Aside0.mk hc0
 have HL := Aside0.mk (show l0.length ≤ 9223372036854775807 from hr0.2.1)
 have HX := Aside0.mk hblk
 have HF := Aside0.mk hfM
 have HN1 := Aside0.mk hnM
 have HB1 := Aside0.mk hbM
 have HCM := Aside0.mk hcM
 clear hr0 hc0 hblk hfM hnM hbM hcM
 have HB := Aside0.mk (Below.refl w.heap.size w)
 obtain ⟨R, hR⟩ : ∃ R, R = delItem.idx h l0 0 := ⟨_, rfl⟩
 rw [← hR]
 have HN := Aside0.mk (show delItem.idx h (l0.drop 0) 0 = R from hR.symm)
 clear hR
 go_enter Tryz.func65, Tryz.ntmps65
 go_wp2
 go_loopg [5, 8] l0.length (fun kq _ v8 w' => ∃ x : Int, v8 = .int .i64 x ∧ Aside0 (∃ n : Nat, x = (n : Int) ∧ delItem.idx h (l0.drop n) n = R ∧ n + kq = l0.length) ∧ Aside0 (Below w.heap.size w w'))
 case atStart => exact ⟨0, rfl, ⟨0, rfl, HN.out, Nat.zero_add _⟩, HB⟩
 case round =>
  clear HN
  obtain ⟨x, rfl, HN, HB⟩ := hrel
  by_cases hlt : x < (l0.length : Int)
  ·have hd : decide (x < (l0.length : Int)) = true := decide_eq_true hlt
   have hn0 : 0 ≤ x := by obtain ⟨n, rfl, _⟩ := HN.out; exact Int.natCast_nonneg n
   obtain ⟨ad, hA, hx0, hx1, hx2⟩ := at_T60 HR0.out x hn0 hlt
   subst hA
   replace hx0 := (HB.out.cell (World.block_lt_of_cell? w _ hx0)).trans hx0
   replace hx1 := (HB.out.cell (World.block_lt_of_cell? w _ hx1)).trans hx1
   replace hx2 := (HB.out.cell (World.block_lt_of_cell? w _ hx2)).trans hx2
   have H0 := Aside0.mk hn0
   have H1 := Aside0.mk hlt
   replace hn0 := eq_true hn0
   replace hlt := eq_true hlt
   obtain ⟨y, hy⟩ : ∃ y, rd_T60 l0 x = y := ⟨_, rfl⟩
   rw [hy] at hx0 hx1 hx2
   have HY := Aside0.mk hy
   clear hy
   by_cases c : y.f0.toList = h.toList
   ·have C := Aside0.mk c
    have hbq : (y.f0.toList == h.toList) = true := beq_iff_eq.mpr c
    clear c
    go_wp2_with fail
    rw [enters_ HF.out HN1.out HB1.out, Oper.upon_enter]
    refine (HCM.out y _ (blk_below HX.out HB.out)).mono ?_
    rintro e w' ⟨rfl, hb'⟩
    have HB' := Aside0.mk hb'
    clear hb'
    rw [hbq]
    go_wp2
    go_ret
    refine ⟨?_, below_step HB.out HB'.out⟩
    obtain ⟨n, rfl, hn, hk⟩ := HN.out
    have e := delItem.idx_at h l0 n (Int.ofNat_lt.mp H1.out)
    rw [HY.out, if_pos C.out, hn] at e
    rw [e]
    rfl
   ·have C := Aside0.mk c
    have hbq : (y.f0.toList == h.toList) = false := beq_eq_false_iff_ne.mpr c
    clear c
    go_wp2_with fail
    rw [enters_ HF.out HN1.out HB1.out, Oper.upon_enter]
    refine (HCM.out y _ (blk_below HX.out HB.out)).mono ?_
    rintro e w' ⟨rfl, hb'⟩
    have HB' := Aside0.mk hb'
    clear hb'
    rw [hbq]
    go_wp2
    obtain ⟨n, rfl, hn, hk⟩ := HN.out
    have hlt' := Int.ofNat_lt.mp H1.out
    go_roundg (gk - 1)
    case measure => omega
    case rel =>
     have e := delItem.idx_at h l0 n hlt'
     rw [HY.out, if_neg C.out, hn] at e
     exact ⟨_, rfl, ⟨n + 1, wsucc_ (by have := HL.out; omega), e.symm, by omega⟩, ⟨below_step HB.out HB'.out⟩⟩
  ·have hd : decide (x < (l0.length : Int)) = false := decide_eq_false hlt
   have HLT := Aside0.mk hlt
   clear hlt
   go_wp2
   go_ret
   obtain ⟨n, rfl, hn, hk⟩ := HN.out
   have hlt' := HLT.out
   rw [delItem.idx_end h l0 n (by omega)] at hn
   exact ⟨by rw [← hn]; rfl, HB.out⟩
def slices_DeleteFunc_impl_Item_impl_Item.f (l0 : List S60) (a1 : ByteArray) : Option (List S60) := some (l0.filter (fun y => !(y.f0.toList == a1.toList)))
theorem delItem.idx_neg (h : ByteArray) : ∀ (l : List S60) (i : Nat), delItem.idx h l i = -1 → l.filter (fun y => !(y.f0.toList == h.toList)) = l
 | [], _, _ => rfl
 | x :: r, i, e => by
  rw [delItem.idx] at e
  by_cases c : x.f0.toList = h.toList
  ·rw [if_pos c] at e; omega
  ·rw [if_neg c] at e
   rw [List.filter_cons, if_pos (by simp [c]), delItem.idx_neg h r (i + 1) e]
theorem delItem.idx_pos (h : ByteArray) : ∀ (l : List S60) (i : Nat), delItem.idx h l i ≠ -1 → ∃ p, p < l.length ∧ delItem.idx h l i = ((i + p : Nat) : Int) ∧ (l.take p).filter (fun y => !(y.f0.toList == h.toList)) = l.take p ∧ (rd_T60 l (p : Int)).f0.toList = h.toList
 | [], _, e => by simp [delItem.idx] at e
 | x :: r, i, e => by
  rw [delItem.idx] at e ⊢
  by_cases c : x.f0.toList = h.toList
  ·exact ⟨0, by simp, by rw [if_pos c]; simp, rfl, c⟩
  ·rw [if_neg c] at e ⊢
   obtain ⟨p, h1, h2, h3, h4⟩ := delItem.idx_pos h r (i + 1) e
   refine ⟨p + 1, by simpa using h1, by rw [h2]; omega, ?_, ?_⟩
   ·rw [List.take_succ_cons, List.filter_cons, if_pos (by simp [c]), h3]
   ·have : rd_T60 (x :: r) ((p + 1 : Nat) : Int) = rd_T60 r (p : Int) := by
     show (x :: r).getD ((p + 1 : Nat) : Int).toNat _ = r.getD (p : Int).toNat _
     simp
    rw [this, h4]
/-- What the loop keeps: ahead of i what stays of the first j, from j on the rest. -/
structure delItem.Inv (h : ByteArray) (l cur : List S60) (i j : Nat) : Prop where
 len : cur.length = l.length
 lt : i < j
 le : j ≤ l.length
 front : cur.take i = (l.take j).filter (fun y => !(y.f0.toList == h.toList))
 back : cur.drop j = l.drop j
theorem delItem.Inv.read {h : ByteArray} {l cur : List S60} {i j : Nat} (v : delItem.Inv h l cur i j) (hj : j < l.length) : rd_T60 cur (j : Int) = rd_T60 l (j : Int) := by
 have e := congrArg (fun z => z.head?) v.back
 simp only [List.head?_drop] at e
 show cur.getD (j : Int).toNat _ = l.getD (j : Int).toNat _
 simp [List.getD_eq_getElem?_getD, e]
theorem delItem.take_succ {l : List S60} {j : Nat} (hj : j < l.length) : l.take (j + 1) = l.take j ++ [rd_T60 l (j : Int)] := by
 have e : rd_T60 l (j : Int) = l[j] := by
  show l.getD (j : Int).toNat _ = _
  simp [List.getD_eq_getElem?_getD, hj]
 rw [e, List.take_succ_eq_append_getElem hj]
theorem delItem.Inv.skip {h : ByteArray} {l cur : List S60} {i j : Nat} (v : delItem.Inv h l cur i j) (hj : j < l.length) (e : (rd_T60 l (j : Int)).f0.toList = h.toList) : delItem.Inv h l cur i (j + 1) := by
 refine ⟨v.len, by have := v.lt; omega, hj, ?_, ?_⟩
 ·rw [v.front, delItem.take_succ hj, List.filter_append]
  simp [e]
 ·rw [← List.drop_drop, ← List.drop_drop, v.back]
theorem delItem.Inv.put {h : ByteArray} {l cur : List S60} {i j : Nat} (v : delItem.Inv h l cur i j) (hj : j < l.length) (e : (rd_T60 l (j : Int)).f0.toList ≠ h.toList) : delItem.Inv h l (cur.set i (rd_T60 l (j : Int))) (i + 1) (j + 1) := by
 have hi := v.lt
 have hl := v.len
 refine ⟨by rw [List.length_set]; exact hl, by omega, hj, ?_, ?_⟩
 ·rw [List.take_succ_eq_append_getElem (by rw [List.length_set]; omega), List.take_set_of_le (Nat.le_refl _), v.front, delItem.take_succ hj, List.filter_append]
  simp [e]
 ·rw [List.drop_set_of_lt (by omega), ← List.drop_drop, ← List.drop_drop, v.back]
theorem slices_DeleteFunc_impl_Item_impl_Item.callsQ (P0_ : Nat → Prop) (u9000_ : Value) (l0 : List S60) (M : Nat) (fnM : Func) (B : Nat) (a1 : ByteArray) (r : List S60) (w0 w : World) (hB : Below w0.heap.size w0 w) (ho0 : Kd.Q k60 60 w w0.heap.size P0_ u9000_ l0) (hM : delItem.Clo M fnM B a1) (hblk : w.heap[B]? = some (.cells #[.string a1] 9 (0, 0))) (hPB : ∀ k_, P0_ k_ → k_ ≠ B) (h : slices_DeleteFunc_impl_Item_impl_Item.f l0 a1 = some r) :
  Calls Tryz.prog 63 #[u9000_, .func (.func M) #[] #[.pointer (some ⟨B, 0, none⟩)]] w fun e w' => ∃ v0_ : Value, e = .returned v0_ ∧ (v0_ = u9000_ ∧ r = l0 ∧ Below w.heap.size w w' ∨ ∃ g o n c, u9000_ = .slice (some ⟨g, o, none⟩) n c ∧ v0_ = .slice (some ⟨g, o, none⟩) r.length c ∧ 0 < c) ∧ Kd.Q k60 60 w' w0.heap.size (fun k_ => P0_ k_ ∨ w.heap.size ≤ k_) v0_ r ∧ Below w0.heap.size w0 w' ∧ Kept w w' (fun k_ => P0_ k_) := by
 obtain rfl := Option.some.inj h
 clear h
 obtain ⟨A0, c0, rfl, hlc⟩ := Kd.Q_slice ho0
 obtain ⟨_, _, hC⟩ := Kd.Q_reads' ho0
 have hidx := delItem.index M fnM B a1 hM A0 c0 l0 w hblk hC hlc
 have hL : l0.length ≤ 9223372036854775807 := hC.2.1
 obtain ⟨hfM, hnM, hbM, hcM⟩ := hM
 have HF := Aside0.mk hfM
 have HN1 := Aside0.mk hnM
 have HB1 := Aside0.mk hbM
 have HCM := Aside0.mk hcM
 have HX := Aside0.mk hblk
 have HQ := Aside0.mk ho0
 have HBW := Aside0.mk hB
 have HPB := Aside0.mk hPB
 have HL := Aside0.mk hL
 have HLC := Aside0.mk hlc
 clear hfM hnM hbM hcM hblk ho0 hB hPB hL hC
 by_cases ci : delItem.idx a1 l0 0 = -1
 ·have e1 := delItem.idx_neg a1 l0 0 ci
  rw [e1]
  rw [ci] at hidx
  clear e1 ci
  go_enter Tryz.func63, Tryz.ntmps63
  go_wp2_with fail
  refine hidx.mono ?_
  rintro e w' ⟨rfl, hb⟩
  have HB := Aside0.mk hb
  clear hb hidx
  go_wp2
  go_ret
  exact ⟨_, rfl, (by first | exact .inl ⟨rfl, rfl, HB.out⟩ | exact .inl ⟨trivial, trivial, HB.out⟩ | exact .inl ⟨trivial, rfl, HB.out⟩ | exact .inl ⟨rfl, trivial, HB.out⟩ | exact .inl HB.out), Kd.Q_mono (Kd.Q_below HQ.out HB.out) (fun _ h => Or.inl h), below_step HBW.out HB.out, Kept.below (Kept.refl _ _) HB.out⟩
 ·obtain ⟨p, hp, e1, e2, e3⟩ := delItem.idx_pos a1 l0 0 ci
  rw [Nat.zero_add] at e1
  rw [e1] at hidx
  obtain ⟨g, o, cap, hv, hbg, hgl, cl, hgc⟩ := Kd.Q_form HQ.out (by omega)
  injection hv with ha _ hcap
  subst ha
  subst hcap
  have hP0 : P0_ g := HQ.out.1 g rfl
  have HG := Aside0.mk hbg
  have HGL := Aside0.mk hgl
  have HP0 := Aside0.mk hP0
  have I0 : delItem.Inv a1 l0 l0 p (p + 1) := by
   refine ⟨rfl, by omega, hp, ?_, rfl⟩
   rw [delItem.take_succ hp, List.filter_append, e2]
   simp [e3]
  have HI0 := Aside0.mk I0
  have HP := Aside0.mk hp
  have ew : IntKind.i64.wrap ((p : Int) + 1) = ((p + 1 : Nat) : Int) := by exact (i64_w _).trans (by have := HL.out; unfold wrap64; omega)
  have hne : ((p : Int) == -1) = false := by rw [beq_eq_false_iff_ne]; omega
  clear ci e1 e2 e3 hbg hgl hgc hP0 I0 hp
  go_enter Tryz.func63, Tryz.ntmps63
  go_wp2_with fail
  refine hidx.mono ?_
  rintro e w1 ⟨rfl, hb⟩
  have HB := Aside0.mk hb
  clear hb hidx
  go_wp2
  go_loopg [5, 6, 7] (l0.length - (p + 1)) (fun kq v5 v6 v7 w' => ∃ x5 x6 : Int, v5 = .int .i64 x5 ∧ v6 = .int .i64 x6 ∧ Aside0 (∃ (i j : Nat) (cur : List S60), x5 = (i : Int) ∧ x6 = (j : Int) ∧ j + kq = l0.length + 0 ∧ delItem.Inv a1 l0 cur i j ∧ Kd.Q k60 60 w' w0.heap.size (fun k_ => P0_ k_ ∨ w.heap.size ≤ k_) (.slice (some ⟨g, o, none⟩) l0.length c0) cur) ∧ Aside0 (Below w0.heap.size w0 w') ∧ Aside0 (Kept w w' (fun k_ => P0_ k_)))
  case atStart =>
   exact ⟨(p : Int), ((p + 1 : Nat) : Int), rfl, rfl, ⟨p, p + 1, l0, rfl, rfl, by have := HP.out; omega, HI0.out, Kd.Q_mono (Kd.Q_below HQ.out HB.out) (fun _ h => Or.inl h)⟩, ⟨below_step HBW.out HB.out⟩, ⟨Kept.below (Kept.refl _ _) HB.out⟩⟩
  case round =>
   clear HI0 HQ HB HBW HP ew hne
   obtain ⟨x5, x6, rfl, rfl, HI, HB, HK⟩ := hrel
   obtain ⟨i, j, cur, rfl, rfl, hq, hi, hQ⟩ := HI.out
   clear HI
   have HI := Aside0.mk hi
   have HQ := Aside0.mk hQ
   have HJ := Aside0.mk hq
   clear hi hQ hq
   by_cases hlt : (j : Int) < (l0.length : Int)
   ·have hd : decide ((j : Int) < (l0.length : Int)) = true := decide_eq_true hlt
    have hn0 : (0 : Int) ≤ (j : Int) := Int.natCast_nonneg j
    obtain ⟨ce, hcl, hM, hcc, hfr⟩ := Kd.Q_elem HQ.out z60 (j : Int) hn0 hlt
    obtain rfl := k60_openM hM
    have hx0 := hcc 0 _ rfl
    have hx1 := hcc 1 _ rfl
    have hx2 := hcc 2 _ rfl
    obtain ⟨y, hy⟩ : ∃ y, rd_T60 l0 (j : Int) = y := ⟨_, rfl⟩
    have hyc : cur.getD (j : Int).toNat z60 = y := (HI.out.read (Int.ofNat_lt.mp hlt)).trans hy
    rw [hyc] at hx0 hx1 hx2
    simp only [show (k60).sz = 3 from rfl, Int.toNat_natCast, Nat.add_zero] at hx0 hx1 hx2
    have HY := Aside0.mk hy
    have HLT := Aside0.mk (Int.ofNat_lt.mp hlt)
    replace hn0 := eq_true hn0
    replace hlt := eq_true hlt
    clear hy hyc hcl hM hcc hfr
    by_cases c : y.f0.toList = a1.toList
    ·have C := Aside0.mk c
     have hbq : (y.f0.toList == a1.toList) = true := beq_iff_eq.mpr c
     clear c
     go_wp2_with fail
     rw [enters_ HF.out HN1.out HB1.out, Oper.upon_enter]
     have hb1 : Below wr.heap.size wr (wr.alloc (.cells #[.string y.f0, .string y.f1, .int .i64 y.f2] 60 (0, 0))) := below_alloc (Below.refl _ _) _
     refine (HCM.out y _ (blk_below (blk_kept HX.out HK.out (fun h => HPB.out B h rfl)) hb1)).mono ?_
     rintro e w' ⟨rfl, hb2⟩
     have hb' := below_step hb1 hb2
     have hbx := blk_below (blk_new wr (.cells #[.string y.f0, .string y.f1, .int .i64 y.f2] 60 (0, 0))) hb2
     have v0 : w'.cell? ⟨wr.heap.size, 0, none⟩ = some (.string y.f0) := blk_cell hbx 0
     have v1 : w'.cell? ⟨wr.heap.size, 1, none⟩ = some (.string y.f1) := blk_cell hbx 1
     have v2 : w'.cell? ⟨wr.heap.size, 2, none⟩ = some (.int .i64 y.f2) := blk_cell hbx 2
     clear hbx hb1 hb2
     have HB' := Aside0.mk hb'
     clear hb'
     rw [hbq]
     go_wp2
     go_roundg (gk - 1)
     case measure => have := HJ.out; have := HLT.out; omega
     case rel =>
      exact ⟨(i : Int), _, rfl, rfl, ⟨i, j + 1, cur, rfl, wsucc_ (by have := HL.out; have := HLT.out; omega), by have := HJ.out; have := HLT.out; omega, HI.out.skip HLT.out (by rw [HY.out]; exact C.out), Kd.Q_below HQ.out HB'.out⟩, ⟨below_step HB.out HB'.out⟩, ⟨Kept.below HK.out HB'.out⟩⟩
    ·have C := Aside0.mk c
     have hbq : (y.f0.toList == a1.toList) = false := beq_eq_false_iff_ne.mpr c
     clear c
     go_wp2_with fail
     rw [enters_ HF.out HN1.out HB1.out, Oper.upon_enter]
     have hb1 : Below wr.heap.size wr (wr.alloc (.cells #[.string y.f0, .string y.f1, .int .i64 y.f2] 60 (0, 0))) := below_alloc (Below.refl _ _) _
     refine (HCM.out y _ (blk_below (blk_kept HX.out HK.out (fun h => HPB.out B h rfl)) hb1)).mono ?_
     rintro e w' ⟨rfl, hb2⟩
     have hb' := below_step hb1 hb2
     have hbx := blk_below (blk_new wr (.cells #[.string y.f0, .string y.f1, .int .i64 y.f2] 60 (0, 0))) hb2
     have v0 : w'.cell? ⟨wr.heap.size, 0, none⟩ = some (.string y.f0) := blk_cell hbx 0
     have v1 : w'.cell? ⟨wr.heap.size, 1, none⟩ = some (.string y.f1) := blk_cell hbx 1
     have v2 : w'.cell? ⟨wr.heap.size, 2, none⟩ = some (.int .i64 y.f2) := blk_cell hbx 2
     clear hbx hb1 hb2
     have HB' := Aside0.mk hb'
     have HQ' := Aside0.mk (Kd.Q_below HQ.out hb')
     have hi0 : (0 : Int) ≤ (i : Int) := Int.natCast_nonneg i
     have hil : (i : Int) < (l0.length : Int) := by have := HI.out.lt; have := HLT.out; omega
     obtain ⟨ci, hcl, hM, hcc, hfr⟩ := Kd.Q_elem HQ'.out z60 (i : Int) hi0 hil
     obtain rfl := k60_openM hM
     have hs := Kd.Q_seg HQ'.out (i : Int) hi0 hil (seg := [.string y.f0, .string y.f1, .int .i64 y.f2]) (j := 0) hcl hcc (show 3 ≤ 3 by decide) (x' := y) (k60_mkM _ _ _ y) (fun _ hk => hk)
     have hk0 := hcc 0 _ rfl
     have hk1 := hcc 1 _ rfl
     have hk2 := hcc 2 _ rfl
     have hf0 := hfr 0
     have hf1 := hfr 1
     have hf2 := hfr 2
     simp only [show (k60).sz = 3 from rfl, Int.toNat_natCast, Nat.add_zero] at hk0 hk1 hk2 hf0 hf1 hf2 hs
     clear hcl hM hcc hfr
     have HS := Aside0.mk hs
     clear hs
     have HBS := Aside0.mk (below_set (j := o + i * 3 + 2) (v := .int .i64 y.f2) (below_set (j := o + i * 3 + 1) (v := .string y.f1) (below_set (j := o + i * 3) (v := .string y.f0) (below_step HB.out hb') HG.out) HG.out) HG.out)
     have HKS := Aside0.mk (Kept.setCell (p := ⟨g, o + i * 3 + 2, none⟩) (Kept.setCell (p := ⟨g, o + i * 3 + 1, none⟩) (Kept.setCell (p := ⟨g, o + i * 3, none⟩) (Kept.below HK.out hb') (.inl HP0.out) (.string y.f0)) (.inl HP0.out) (.string y.f1)) (.inl HP0.out) (.int .i64 y.f2))
     replace hi0 := eq_true hi0
     replace hil := eq_true hil
     clear hb'
     rw [hbq]
     go_wp2
     go_roundg (gk - 1)
     case measure => have := HJ.out; have := HLT.out; omega
     case rel =>
      have e := HI.out.put HLT.out (fun e => C.out (by rw [← HY.out]; exact e))
      rw [HY.out] at e
      exact ⟨_, _, rfl, rfl, ⟨i + 1, j + 1, cur.set i y, wsucc_ (by have := HL.out; have := HLT.out; have := HI.out.lt; omega), wsucc_ (by have := HL.out; have := HLT.out; omega), by have := HJ.out; have := HLT.out; omega, e, HS.out.1⟩, ⟨HBS.out⟩, ⟨HKS.out⟩⟩
   ·have hd : decide ((j : Int) < (l0.length : Int)) = false := decide_eq_false hlt
    have hj : j = l0.length := by have := HI.out.le; omega
    subst hj
    have hil : i < l0.length := HI.out.lt
    have hcl : cur.length = l0.length := HI.out.len
    have hft : cur.take i = l0.filter (fun y => !(y.f0.toList == a1.toList)) := by
     have := HI.out.front
     rwa [List.take_length] at this
    have hQt := Kd.Q_take HQ.out (m := i) (by omega)
    rw [hft] at hQt
    have HQT := Aside0.mk hQt
    have hc0 : i ≤ c0 := by have := HLC.out; omega
    have hli : (List.filter (fun y => !(y.f0.toList == a1.toList)) l0).length = i := by rw [← hft, List.length_take]; omega
    obtain ⟨w2, hrun, hr2, hg2⟩ := Q_clear_runI (P := Tryz.prog) k60 w0.heap.size 23 0 60 (.agg #[(.string ⟨#[]⟩), (.string ⟨#[]⟩), (.int .i64 0)]) Tryz.underlying23 Tryz.zeroValue60 rfl (by decide) hQt (m := l0.length - i) (by omega) (by omega) (by omega) (c0 - i) (by decide)
    have HR2 := Aside0.mk hr2
    have HG2 := Aside0.mk hg2
    have b1 : (i : Int) ≤ (l0.length : Int) := by omega
    have b2 : (l0.length : Int) ≤ (c0 : Int) := by have := HLC.out; omega
    have b3 : (i : Int) ≤ (c0 : Int) := by omega
    have b4 : (0 : Int) ≤ (i : Int) := by omega
    have b5 : (c0 = i) = False := eq_false (by omega)
    have HLI := Aside0.mk hli
    have HC0 := Aside0.mk (show 0 < c0 by have := HLC.out; omega)
    change Sem.run _ (Builtin.clear_ #[23] 0 #[.slice (some ⟨g, o + i * 3, none⟩) (l0.length - i) (c0 - i)]) _ = _ at hrun
    clear hr2 hg2 hQt hft hcl hil hli hlt
    go_wp2
    go_ret
    exact ⟨_, rfl, .inr ⟨g, o, _, c0, rfl, by first | (rw [HLI.out]; done) | (rw [HLI.out]; simp; done) | (simp [HLI.out]; done) | (simp; omega), HC0.out⟩, HR2.out, HB.out.grown HG2.out HB.out.size (fun k hk => by injection hk with hk; subst hk; exact HG.out), Kept.of_grown HG2.out HK.out (fun k hk => by injection hk with hk; subst hk; exact .inl HP0.out)⟩
/-- A queue that begins where its block begins is a row. -/
theorem delItem.R_of_Q0 {α : Type} {d : Kd α} {e g n c : Nat} {w : World} {base : Nat} {ok : Nat → Prop} {xs : List α} (h : d.Q e w base ok (.slice (some ⟨g, 0, none⟩) n c) xs) (hc : 0 < c) (hs : 0 < d.sz) : d.R e w base ok (.slice (some ⟨g, 0, none⟩) n c) xs := by
 obtain ⟨h0, inner, ⟨hl, ho⟩, hr⟩ := h
 refine ⟨h0, inner, ⟨hl, ?_⟩, hr⟩
 rcases ho with ⟨_, A, hv, _⟩ | ⟨g', off, cap, cur, hv, hb, hh, hnc, hcm, hcs, ht⟩
 ·injection hv with _ _ h3
  omega
 ·injection hv with ha h2 h3
  injection ha with ha
  injection ha with hg hoff
  have : off = 0 := by
   rcases Nat.eq_zero_or_pos off with h | h
   ·exact h
   ·have := Nat.mul_pos h hs
    omega
  subst this
  subst hg
  subst h3
  refine .inr ⟨g, c, cur, by rw [h2], hb, hh, hnc, by omega, by rw [hcs, Nat.zero_add], ?_⟩
  rw [Nat.zero_mul, List.drop_zero] at ht
  exact ht
set_option maxHeartbeats 4000000 in
theorem slices_DeleteFunc_impl_Item_impl_Item.calls (P0_ : Nat → Prop) (u9000_ : Value) (l0 : List S60) (M : Nat) (fnM : Func) (B : Nat) (a1 : ByteArray) (r : List S60) (w0 w : World) (hB : Below w0.heap.size w0 w) (ho0 : Kd.R k60 60 w w0.heap.size P0_ u9000_ l0) (hM : delItem.Clo M fnM B a1) (hblk : w.heap[B]? = some (.cells #[.string a1] 9 (0, 0))) (hPB : ∀ k_, P0_ k_ → k_ ≠ B) (h : slices_DeleteFunc_impl_Item_impl_Item.f l0 a1 = some r) :
  Calls Tryz.prog 63 #[u9000_, .func (.func M) #[] #[.pointer (some ⟨B, 0, none⟩)]] w fun e w' => ∃ v0_ : Value, e = .returned v0_ ∧ Kd.R k60 60 w' w0.heap.size (fun k_ => P0_ k_ ∨ w.heap.size ≤ k_) v0_ r ∧ Below w0.heap.size w0 w' ∧ Kept w w' (fun k_ => P0_ k_) := by
 refine (slices_DeleteFunc_impl_Item_impl_Item.callsQ P0_ u9000_ l0 M fnM B a1 r w0 w hB (Kd.Q_of_R ho0) hM hblk hPB h).mono ?_
 rintro e w' ⟨v0, he, hv, hq, hb, hk⟩
 refine ⟨v0, he, ?_, hb, hk⟩
 rcases hv with ⟨rfl, rfl, hbw⟩ | ⟨g, o, n, c, rfl, rfl, hc⟩
 ·exact Kd.R_mono (Kd.R_below ho0 hbw) (fun _ h => Or.inl h)
 ·have ho : o = 0 := by
   obtain ⟨_, inner, ⟨_, hv | ⟨_, _, _, hv, _⟩⟩, _⟩ := ho0
   ·exact absurd hv.1 (by simp)
   ·injection hv with ha
    injection ha with ha
    injection ha
  subst ho
  exact delItem.R_of_Q0 hq hc (by decide)
end Go.Proofs.YtnlnifpehndacaaGreat.G

namespace Go.Proofs.YtnlnifpehndacaaGreat.G
open Go.RowKit Go.Proofs.YtnlnifpehndacaaGreatW.PrintWords Go.Proofs.YtnlnifpehndacaaGreatW.PrintLast Go.Proofs.YtnlnifpehndacaaGreatW.PrintMore Go.Proofs.YtnlnifpehndacaaGreat.Sh
attribute [local go_sem] max2_int min2_int max_two min_two max_three min_three max_four min_four
set_option linter.unusedVariables false
set_option linter.unusedSimpArgs false
open Go.Proofs.YtnlnifpehndacaaGreat.Mm
set_option maxRecDepth 100000 in
theorem impl_Drop.cloS62 (B : Nat) (h : ByteArray) : delItem.Clo 62 Tryz.f62 B h := by
 refine ⟨Tryz.func62, by kernel_rfl, by rfl, fun y W hb => ?_⟩
 have hc : W.cell? ⟨B, 0, none⟩ = some (.string h) := (blk_cell hb 0).trans rfl
 have hne : B ≠ W.heap.size := by have := blk_lt hb; omega
 have hc2 : (W.alloc (.cells #[.string y.f0, .string y.f1, .int .i64 y.f2] 60 (0, 0))).cell? ⟨B, 0, none⟩ = some (.string h) := (blk_cell (blk_below hb (below_alloc (Below.refl _ _) _)) 0).trans rfl
 have hu := Tryz.underlying60
 clear hb
 go_enter Tryz.func62, Tryz.ntmps62
 go_wp2
 go_ret
 exact ⟨rfl, by repeat (first | exact Below.refl _ _ | apply below_alloc)⟩
def impl_Drop.f (k : Nat) (a0_0 : Int) (a0_1 : Int) (l0_2 : List (S60)) (l0_3 : List (S60)) (l0_4 : List Int) (a1 : ByteArray) : Option (Int × Int × (List (S60)) × (List (S60)) × List Int × Bool) := (impl_ThreeOk.f k a0_0 a0_1 l0_2 l0_3 l0_4).bind fun t982 => (if t982 = true then ((impl_copyThree.f a0_0 a0_1 l0_2 l0_3 l0_4).bind fun bt983 => ((slices_DeleteFunc_impl_Item_impl_Item.f bt983.2.2.1 a1).bind fun t995 => ((slices_DeleteFunc_impl_Item_impl_Item.f bt983.2.2.2.1 a1).bind fun t998 => (some (bt983.1, bt983.2.1, t995, t998, bt983.2.2.2.2, decide ((wrap64 ((t995.length : Int) + (t998.length : Int))) < (wrap64 ((l0_2.length : Int) + (l0_3.length : Int))))))))) else (some (0, 0, ([] : List (S60)), ([] : List (S60)), ([] : List Int), false)))
def impl_Drop.T7 : Bool × List (List Nat × List Nat) := (true, [([], []), ([], []), ([1], [1]), ([2], [2]), ([], []), ([4], [4]), ([5], [5]), ([3, 6], [3, 6]), ([], []), ([8], [8]), ([9], [9]), ([], []), ([11], [11]), ([12], [12]), ([10, 13], [10, 13]), ([7, 14], [7, 14]), ([0, 0], [0]), ([15, 16, 0, 1, 2, 3, 4, 5, 6, 7, 8, 9, 10, 11, 12, 13, 14, 15, 16], [15])])
def impl_Drop.B7 : List Nat := [0, 0, 2, 6, 0, 16, 48, 126, 0, 256, 768, 0, 2048, 6144, 16128, 32766, 1, 131071]
theorem impl_Drop.tab7 : rtab .any (opsOf Tryz.f41 7) = impl_Drop.T7 := by kernel_rfl
theorem impl_Drop.bits7 : waitsOk impl_Drop.T7.2 impl_Drop.B7 = true := by kernel_rfl
theorem impl_Drop.calls (k : Nat) (a0_0 : Int) (a0_1 : Int) (A0_2 : Option Addr) (c0_2 : Nat) (l0_2 : List (S60)) (A0_3 : Option Addr) (c0_3 : Nat) (l0_3 : List (S60)) (A0_4 : Option Addr) (c0_4 : Nat) (l0_4 : List Int) (a1 : ByteArray) (r1 : Int) (r2 : Int) (r3 : List (S60)) (r4 : List (S60)) (r5 : List Int) (r6 : Bool) (w : World) (hr0_2 : Kd.C k60 w A0_2 l0_2.length l0_2) (hc0_2 : l0_2.length ≤ c0_2) (hr0_3 : Kd.C k60 w A0_3 l0_3.length l0_3) (hc0_3 : l0_3.length ≤ c0_3) (hr0_4 : Kd.C (Kd.int .i64) w A0_4 l0_4.length l0_4) (hc0_4 : l0_4.length ≤ c0_4) (h : impl_Drop.f k a0_0 a0_1 l0_2 l0_3 l0_4 a1 = some (r1, r2, r3, r4, r5, r6)) :
  Calls Tryz.prog 41 #[.agg #[.int .i64 a0_0, .int .i64 a0_1, .slice A0_2 l0_2.length c0_2, .slice A0_3 l0_3.length c0_3, .slice A0_4 l0_4.length c0_4], .string a1] w fun e w' => ∃ v2_ v3_ v4_ : Value, e = .returned (.tuple #[.agg #[.int .i64 r1, .int .i64 r2, v2_, v3_, v4_], .bool r6]) ∧ Mem w [] w' [rowR k60 60 v2_ r3, rowR k60 60 v3_ r4, rowR (Kd.int .i64) 3 v4_ r5] := by
 have hu26 := Tryz.underlying26
 have HR0_2 := Aside0.mk hr0_2
 have HC0_2 := Aside0.mk hc0_2
 clear hr0_2 hc0_2
 have HR0_3 := Aside0.mk hr0_3
 have HC0_3 := Aside0.mk hc0_3
 clear hr0_3 hc0_3
 have HR0_4 := Aside0.mk hr0_4
 have HC0_4 := Aside0.mk hc0_4
 clear hr0_4 hc0_4
 have HM := Mem.nil w
 have H := h
 clear h
 unfold impl_Drop.f at H
 go_enter Tryz.func41, Tryz.ntmps41
 replace H := BN H; obtain ⟨t982, A7, H⟩ := H
 go_upto_if 10 with (first | ((with_reducible refine gN 2 rfl ?_); refine pB 2 26 [.int .i64 a0_0, .int .i64 a0_1, .slice A0_2 l0_2.length c0_2, .slice A0_3 l0_3.length c0_3, .slice A0_4 l0_4.length c0_4] HM rfl ?_; clear HM; intro gb979 w3 HM) | ((with_reducible refine gN 3 rfl ?_); refine pB 3 9 [.string a1] HM rfl ?_; clear HM; intro gb980 w4 HM) | ((with_reducible refine gN 4 rfl ?_); refine pB 4 26 [.int .i64 0, .int .i64 0, .slice none 0 0, .slice none 0 0, .slice none 0 0] HM rfl ?_; clear HM; intro gb981 w5 HM; obtain ⟨_,_,_,_,_,_,_,_,_,_⟩ := bk5 (HM.bx 0 rfl)) | ((with_reducible refine gC 11 rfl ?_); refine pC (some 9) rfl #[.agg #[.int .i64 a0_0, .int .i64 a0_1, .slice A0_2 l0_2.length c0_2, .slice A0_3 l0_3.length c0_3, .slice A0_4 l0_4.length c0_4]] rfl Tryz.func11 (impl_ThreeOk.calls k a0_0 a0_1 _ _ l0_2 _ _ l0_3 _ _ l0_4 t982 _ (HM.came HR0_2.out) HC0_2.out (HM.came HR0_3.out) HC0_3.out (HM.came HR0_4.out) HC0_4.out A7.out) ?_; rintro e w8 ⟨rfl, hR⟩; refine ⟨_, rfl, ?_⟩; replace HM := HM.call hR; clear hR))
 replace HM := nzM HM
 replace H := IB H
 rcases H with ⟨c9, H⟩ | ⟨c9, H⟩
 ·subst c9
  replace H := BN H; obtain ⟨⟨t983, t984, t985, t988, t991⟩, A11, H⟩ := H
  replace H := BN H; obtain ⟨t995, A19, H⟩ := H
  replace H := BN H; obtain ⟨t998, A24, H⟩ := H
  obtain ⟨_,_,_,_,_,_,_,_,_,_⟩ := bk5 (HM.bx 0 rfl)
  try go_wp2_with (first | ((with_reducible refine gC 15 rfl ?_); refine pC (some 13) rfl #[.agg #[.int .i64 a0_0, .int .i64 a0_1, .slice A0_2 l0_2.length c0_2, .slice A0_3 l0_3.length c0_3, .slice A0_4 l0_4.length c0_4]] rfl Tryz.func15 (impl_copyThree.calls a0_0 a0_1 _ _ l0_2 _ _ l0_3 _ _ l0_4 t983 t984 t985 t988 t991 _ (HM.came HR0_2.out) HC0_2.out (HM.came HR0_3.out) HC0_3.out (HM.came HR0_4.out) HC0_4.out A11.out) ?_; rintro e w12 ⟨v986, v989, v992, rfl, hR⟩; refine ⟨_, rfl, ?_⟩; replace HM := HM.call hR; clear hR) | ((with_reducible refine gN 6 rfl ?_); refine pB 6 26 [.int .i64 0, .int .i64 0, .slice none 0 0, .slice none 0 0, .slice none 0 0] HM rfl ?_; clear HM; intro gb994 w13 HM; obtain ⟨Xo14, ko14, rfl⟩ := HM.rdR 3 rfl; obtain ⟨Xo15, ko15, rfl⟩ := HM.rdR 4 rfl; obtain ⟨Xo16, ko16, rfl⟩ := HM.rdR 5 rfl) | ((with_reducible refine gS 6 rfl ?_); refine pS 6 6 0 [.int .i64 t983, .int .i64 t984, .slice Xo14 t985.length ko14, .slice Xo15 t988.length ko15, .slice Xo16 t991.length ko16] HM rfl rfl ?_; clear HM; intro w17 HM; obtain ⟨_,_,_,_,_,_,_,_,_,_⟩ := bk5 (HM.bx 6 rfl); obtain ⟨P_, hq_, hn_, fin_⟩ := HM.manR 3 1 rfl rfl) | ((with_reducible refine gC 63 rfl ?_); refine pC (some 18) rfl #[.slice Xo14 t985.length ko14, .func (.func 62) #[] #[.pointer (some ⟨gb980, 0, none⟩)]] rfl Tryz.func63 (slices_DeleteFunc_impl_Item_impl_Item.calls P_ (.slice Xo14 t985.length ko14) t985 62 Tryz.f62 gb980 a1 t995 (bare _) _ (bare_below _) hq_ (impl_Drop.cloS62 _ _) (HM.bx 1 rfl) hn_ A19.out) ?_; rintro e w20 ⟨v996, rfl, hQ_, hB_, hK_⟩; refine ⟨_, rfl, ?_⟩; replace HM := fin_ _ _ _ hQ_ hB_ hK_; clear hQ_ hB_ hK_ hq_ hn_ fin_ P_; obtain ⟨Xo21, ko21, rfl⟩ := HM.rdR 3 rfl) | ((with_reducible refine gS 19 rfl ?_); refine pS 6 19 2 [.slice Xo21 t995.length ko21] HM rfl rfl ?_; clear HM; intro w22 HM; obtain ⟨_,_,_,_,_,_,_,_,_,_⟩ := bk5 (HM.bx 6 rfl); obtain ⟨P_, hq_, hn_, fin_⟩ := HM.manR 4 1 rfl rfl) | ((with_reducible refine gC 63 rfl ?_); refine pC (some 23) rfl #[.slice Xo15 t988.length ko15, .func (.func 62) #[] #[.pointer (some ⟨gb980, 0, none⟩)]] rfl Tryz.func63 (slices_DeleteFunc_impl_Item_impl_Item.calls P_ (.slice Xo15 t988.length ko15) t988 62 Tryz.f62 gb980 a1 t998 (bare _) _ (bare_below _) hq_ (impl_Drop.cloS62 _ _) (HM.bx 1 rfl) hn_ A24.out) ?_; rintro e w25 ⟨v999, rfl, hQ_, hB_, hK_⟩; refine ⟨_, rfl, ?_⟩; replace HM := fin_ _ _ _ hQ_ hB_ hK_; clear hQ_ hB_ hK_ hq_ hn_ fin_ P_; obtain ⟨Xo26, ko26, rfl⟩ := HM.rdR 4 rfl) | ((with_reducible refine gS 24 rfl ?_); refine pS 6 24 3 [.slice Xo26 t998.length ko26] HM rfl rfl ?_; clear HM; intro w27 HM))
  refine RGN 18 [0, 1, 2, 3, 4, 5, 6, 7, 8, 9, 10, 11, 12, 13, 14, 15, 16, 17] (fun a0 b a w' => a = putSel a0 b [(0, 25, .agg #[.int .i64 t983, .int .i64 t984, .slice Xo21 t995.length ko21, .slice Xo26 t998.length ko26, .slice Xo16 t991.length ko16]), (1, 26, .pointer (some ⟨gb994, 2, none⟩)), (2, 27, .slice Xo21 t995.length ko21), (3, 28, .int .i64 (t995.length : Int)), (4, 29, .pointer (some ⟨gb994, 3, none⟩)), (5, 30, .slice Xo26 t998.length ko26), (6, 31, .int .i64 (t998.length : Int)), (7, 32, .int .i64 (wrap64 ((t995.length : Int) + (t998.length : Int)))), (8, 33, .pointer (some ⟨gb979, 2, none⟩)), (9, 34, .slice A0_2 l0_2.length c0_2), (10, 35, .int .i64 (l0_2.length : Int)), (11, 36, .pointer (some ⟨gb979, 3, none⟩)), (12, 37, .slice A0_3 l0_3.length c0_3), (13, 38, .int .i64 (l0_3.length : Int)), (14, 39, .int .i64 (wrap64 ((l0_2.length : Int) + (l0_3.length : Int)))), (15, 40, .bool (decide ((wrap64 ((t995.length : Int) + (t998.length : Int))) < (wrap64 ((l0_2.length : Int) + (l0_3.length : Int)))))), (17, 5, .bool (decide ((wrap64 ((t995.length : Int) + (t998.length : Int))) < (wrap64 ((l0_2.length : Int) + (l0_3.length : Int))))))] ∧ Mem w [] w' [box 26 gb979 [.int .i64 a0_0, .int .i64 a0_1, .slice A0_2 l0_2.length c0_2, .slice A0_3 l0_3.length c0_3, .slice A0_4 l0_4.length c0_4], box 9 gb980 [.string a1], sel (b 16) (box 26 gb981 [.int .i64 t983, .int .i64 t984, .slice Xo21 t995.length ko21, .slice Xo26 t998.length ko26, .slice Xo16 t991.length ko16]) (box 26 gb981 [.int .i64 0, .int .i64 0, .slice none 0 0, .slice none 0 0, .slice none 0 0]), rowR k60 60 (.slice Xo21 t995.length ko21) t995, rowR k60 60 (.slice Xo26 t998.length ko26) t998, rowR (Kd.int .i64) 3 (.slice Xo16 t991.length ko16) t991, box 26 gb994 [.int .i64 t983, .int .i64 t984, .slice Xo21 t995.length ko21, .slice Xo26 t998.length ko26, .slice Xo16 t991.length ko16]]) impl_Drop.tab7 impl_Drop.bits7 ?_ ?_ ?_
  ·exact ⟨PS0' rfl _, (HM.drew).pick [0, 1, 2, 3, 4, 5, 6]⟩
  ·clear HM
   refine SY ?_ ?_
   ·intro b a w ha HM hb hon hoff K hK
    obtain ⟨_,_,_,_,_,_,_,_,_,_⟩ := bk5 (HM.bx 6 rfl)
    have e6 := PG ha 6
    exact VL (.agg #[.int .i64 t983, .int .i64 t984, .slice Xo21 t995.length ko21, .slice Xo26 t998.length ko26, .slice Xo16 t991.length ko16]) (hK.out _ _ ⟨PUT ha 0 hb, HM⟩)
   refine SY ?_ ?_
   ·intro b a w ha HM hb hon hoff K hK
    have e6 := PG ha 6
    exact VL (.pointer (some ⟨gb994, 2, none⟩)) (hK.out _ _ ⟨PUT ha 1 hb, HM⟩)
   refine SY ?_ ?_
   ·intro b a w ha HM hb hon hoff K hK
    obtain ⟨_,_,_,_,_,_,_,_,_,_⟩ := bk5 (HM.bx 6 rfl)
    have e26 := PE ha 1 hon
    exact VL (.slice Xo21 t995.length ko21) (hK.out _ _ ⟨PUT ha 2 hb, HM⟩)
   refine SY ?_ ?_
   ·intro b a w ha HM hb hon hoff K hK
    have e27 := PE ha 2 hon
    exact VL (.int .i64 (t995.length : Int)) (hK.out _ _ ⟨PUT ha 3 hb, HM⟩)
   refine SY ?_ ?_
   ·intro b a w ha HM hb hon hoff K hK
    have e6 := PG ha 6
    exact VL (.pointer (some ⟨gb994, 3, none⟩)) (hK.out _ _ ⟨PUT ha 4 hb, HM⟩)
   refine SY ?_ ?_
   ·intro b a w ha HM hb hon hoff K hK
    obtain ⟨_,_,_,_,_,_,_,_,_,_⟩ := bk5 (HM.bx 6 rfl)
    have e29 := PE ha 4 hon
    exact VL (.slice Xo26 t998.length ko26) (hK.out _ _ ⟨PUT ha 5 hb, HM⟩)
   refine SY ?_ ?_
   ·intro b a w ha HM hb hon hoff K hK
    have e30 := PE ha 5 hon
    exact VL (.int .i64 (t998.length : Int)) (hK.out _ _ ⟨PUT ha 6 hb, HM⟩)
   refine SY ?_ ?_
   ·intro b a w ha HM hb hon hoff K hK
    have e28 := PE ha 3 hon
    have e31 := PE ha 6 hon
    exact VL (.int .i64 (wrap64 ((t995.length : Int) + (t998.length : Int)))) (hK.out _ _ ⟨PUT ha 7 hb, HM⟩)
   refine SY ?_ ?_
   ·intro b a w ha HM hb hon hoff K hK
    have e2 := PG ha 2
    exact VL (.pointer (some ⟨gb979, 2, none⟩)) (hK.out _ _ ⟨PUT ha 8 hb, HM⟩)
   refine SY ?_ ?_
   ·intro b a w ha HM hb hon hoff K hK
    obtain ⟨_,_,_,_,_,_,_,_,_,_⟩ := bk5 (HM.bx 0 rfl)
    have e33 := PE ha 8 hon
    exact VL (.slice A0_2 l0_2.length c0_2) (hK.out _ _ ⟨PUT ha 9 hb, HM⟩)
   refine SY ?_ ?_
   ·intro b a w ha HM hb hon hoff K hK
    have e34 := PE ha 9 hon
    exact VL (.int .i64 (l0_2.length : Int)) (hK.out _ _ ⟨PUT ha 10 hb, HM⟩)
   refine SY ?_ ?_
   ·intro b a w ha HM hb hon hoff K hK
    have e2 := PG ha 2
    exact VL (.pointer (some ⟨gb979, 3, none⟩)) (hK.out _ _ ⟨PUT ha 11 hb, HM⟩)
   refine SY ?_ ?_
   ·intro b a w ha HM hb hon hoff K hK
    obtain ⟨_,_,_,_,_,_,_,_,_,_⟩ := bk5 (HM.bx 0 rfl)
    have e36 := PE ha 11 hon
    exact VL (.slice A0_3 l0_3.length c0_3) (hK.out _ _ ⟨PUT ha 12 hb, HM⟩)
   refine SY ?_ ?_
   ·intro b a w ha HM hb hon hoff K hK
    have e37 := PE ha 12 hon
    exact VL (.int .i64 (l0_3.length : Int)) (hK.out _ _ ⟨PUT ha 13 hb, HM⟩)
   refine SY ?_ ?_
   ·intro b a w ha HM hb hon hoff K hK
    have e35 := PE ha 10 hon
    have e38 := PE ha 13 hon
    exact VL (.int .i64 (wrap64 ((l0_2.length : Int) + (l0_3.length : Int)))) (hK.out _ _ ⟨PUT ha 14 hb, HM⟩)
   refine SY ?_ ?_
   ·intro b a w ha HM hb hon hoff K hK
    have e32 := PE ha 7 hon
    have e39 := PE ha 14 hon
    exact VL (.bool (decide ((wrap64 ((t995.length : Int) + (t998.length : Int))) < (wrap64 ((l0_2.length : Int) + (l0_3.length : Int)))))) (hK.out _ _ ⟨PUT ha 15 hb, HM⟩)
   refine SY ?_ ?_
   ·intro b a w ha HM hb hon hoff K hK
    replace HM := HM.sF 2 rfl hb
    have e4 := PG ha 4
    have e25 := PE ha 0 hon
    refine ST (eS 2 4 0 [.int .i64 t983, .int .i64 t984, .slice Xo21 t995.length ko21, .slice Xo26 t998.length ko26, .slice Xo16 t991.length ko16] HM rfl rfl ?_ (hp := (eval_of e4)) (hx := (by rw [eval_of e25]; rfl)))
    clear HM
    intro w39 HM
    exact hK.out _ _ ⟨PUS ha, (HM).pick [0, 1, 2, 3, 4, 5, 6]⟩
   refine SY ?_ ?_
   ·intro b a w ha HM hb hon hoff K hK
    have e40 := PE ha 15 hon
    exact VL (.bool (decide ((wrap64 ((t995.length : Int) + (t998.length : Int))) < (wrap64 ((l0_2.length : Int) + (l0_3.length : Int)))))) (hK.out _ _ ⟨PUT ha 16 hb, HM⟩)
   exact steps_nil
  rintro _ w40 ⟨rfl, HM⟩
  replace HM := HM.sT 2 rfl rfl
  simp only [putSel, if_true, Act.put, List.setIfInBounds_toArray, List.set_cons_zero, List.set_cons_succ, gt_iff_lt, ge_iff_le]
  simp only [Option.some.injEq, Prod.mk.injEq] at H
  obtain ⟨rfl, rfl, rfl, rfl, rfl, rfl⟩ := H
  go_wp2
  refine bodyPost_ret (results_ct rfl _ _ gb981 26 #[.int .i64 t983, .int .i64 t984, .slice Xo21 t995.length ko21, .slice Xo26 t998.length ko26, .slice Xo16 t991.length ko16] (0, 0) _ rfl (HM.bx 2 rfl) Tryz.underlying26 rfl (by kernel_rfl)) rfl ?_
  exact ⟨_, _, _, ER, (MD HM).pick [3, 4, 5]⟩
 ·subst c9
  simp only [Option.some.injEq, Prod.mk.injEq] at H
  obtain ⟨rfl, rfl, rfl, rfl, rfl, rfl⟩ := H
  go_wp2_with (first | ((with_reducible refine gS 4 rfl ?_); refine pS 2 4 0 [.int .i64 0, .int .i64 0, .slice none 0 0, .slice none 0 0, .slice none 0 0] HM rfl rfl ?_; clear HM; intro w41 HM; replace HM := HM.nl k60 60; replace HM := HM.nl k60 60; replace HM := HM.nl (Kd.int .i64) 3))
  refine bodyPost_ret (results_ct rfl _ _ gb981 26 #[.int .i64 0, .int .i64 0, .slice none 0 0, .slice none 0 0, .slice none 0 0] (0, 0) _ rfl (HM.bx 2 rfl) Tryz.underlying26 rfl (by kernel_rfl)) rfl ?_
  exact ⟨_, _, _, ER, (MD HM).pick [3, 4, 5]⟩
def impl_OpDo.j0 : Nat → Bool → Int → Int → List (S60) → List (S60) → List Int → Int → ByteArray → ByteArray → Option (Int × Int × (List (S60)) × (List (S60)) × List Int × Bool × ByteArray × ByteArray × Bool)
 | 0, _, _, _, _, _, _, _, _, _ => none
 | k + 1, x23, x1005000, x1005001, x1005002, x1005003, x1005004, x1006000, x1006001, x1006002 => if x23 = true then (some (0, 0, ([] : List (S60)), ([] : List (S60)), ([] : List Int), false, (⟨#[]⟩ : ByteArray), (⟨#[]⟩ : ByteArray), false)) else (if x1006000 = 1 then ((impl_Get.f k x1005000 x1005001 x1005002 x1005003 x1005004 x1006001).bind fun bt1010 => (some (bt1010.1, bt1010.2.1, bt1010.2.2.1, bt1010.2.2.2.1, bt1010.2.2.2.2.1, bt1010.2.2.2.2.2.2, bt1010.2.2.2.2.2.1, (⟨#[]⟩ : ByteArray), true))) else (if x1006000 = 2 then ((impl_Put.f k x1005000 x1005001 x1005002 x1005003 x1005004 x1006001 x1006002).bind fun bt1024 => (if (bt1024.2.2.2.2.2.1.length : Int) > 0 then (if 0 < (bt1024.2.2.2.2.2.1.length : Int) then (some (bt1024.1, bt1024.2.1, bt1024.2.2.1, bt1024.2.2.2.1, bt1024.2.2.2.2.1, true, (⟨#[]⟩ : ByteArray), rdOf ByteArray.empty bt1024.2.2.2.2.2.1 0, true)) else (none)) else (some (bt1024.1, bt1024.2.1, bt1024.2.2.1, bt1024.2.2.2.1, bt1024.2.2.2.2.1, true, (⟨#[]⟩ : ByteArray), (⟨#[]⟩ : ByteArray), true)))) else ((impl_Drop.f k x1005000 x1005001 x1005002 x1005003 x1005004 x1006001).bind fun bt1042 => (some (bt1042.1, bt1042.2.1, bt1042.2.2.1, bt1042.2.2.2.1, bt1042.2.2.2.2.1, bt1042.2.2.2.2.2, (⟨#[]⟩ : ByteArray), (⟨#[]⟩ : ByteArray), true)))))
def impl_OpDo.f (k : Nat) (a0_0 : Int) (a0_1 : Int) (l0_2 : List (S60)) (l0_3 : List (S60)) (l0_4 : List Int) (a1_0 : Int) (a1_1 : ByteArray) (a1_2 : ByteArray) : Option (Int × Int × (List (S60)) × (List (S60)) × List Int × Bool × ByteArray × ByteArray × Bool) := (impl_ThreeOk.f k a0_0 a0_1 l0_2 l0_3 l0_4).bind fun t1008 => (if t1008 = true then ((impl_OpOk.f k a1_0 a1_1 a1_2).bind fun t1009 => (impl_OpDo.j0 k (!t1009) a0_0 a0_1 l0_2 l0_3 l0_4 a1_0 a1_1 a1_2)) else (impl_OpDo.j0 k true a0_0 a0_1 l0_2 l0_3 l0_4 a1_0 a1_1 a1_2))
def impl_OpDo.T12 : Bool × List (List Nat × List Nat) := (true, [([], []), ([], []), ([0, 0], [0]), ([1, 2, 0, 1, 2], [1]), ([3, 0, 1, 2, 3], [])])
def impl_OpDo.B12 : List Nat := [0, 0, 1, 7, 15]
theorem impl_OpDo.tab12 : rtab .any (opsOf Tryz.f19 12) = impl_OpDo.T12 := by kernel_rfl
theorem impl_OpDo.bits12 : waitsOk impl_OpDo.T12.2 impl_OpDo.B12 = true := by kernel_rfl
theorem impl_OpDo.calls (k : Nat) (a0_0 : Int) (a0_1 : Int) (A0_2 : Option Addr) (c0_2 : Nat) (l0_2 : List (S60)) (A0_3 : Option Addr) (c0_3 : Nat) (l0_3 : List (S60)) (A0_4 : Option Addr) (c0_4 : Nat) (l0_4 : List Int) (a1_0 : Int) (a1_1 : ByteArray) (a1_2 : ByteArray) (r1 : Int) (r2 : Int) (r3 : List (S60)) (r4 : List (S60)) (r5 : List Int) (r6 : Bool) (r7 : ByteArray) (r8 : ByteArray) (r9 : Bool) (w : World) (hr0_2 : Kd.C k60 w A0_2 l0_2.length l0_2) (hc0_2 : l0_2.length ≤ c0_2) (hr0_3 : Kd.C k60 w A0_3 l0_3.length l0_3) (hc0_3 : l0_3.length ≤ c0_3) (hr0_4 : Kd.C (Kd.int .i64) w A0_4 l0_4.length l0_4) (hc0_4 : l0_4.length ≤ c0_4) (h : impl_OpDo.f k a0_0 a0_1 l0_2 l0_3 l0_4 a1_0 a1_1 a1_2 = some (r1, r2, r3, r4, r5, r6, r7, r8, r9)) :
  Calls Tryz.prog 19 #[.agg #[.int .i64 a0_0, .int .i64 a0_1, .slice A0_2 l0_2.length c0_2, .slice A0_3 l0_3.length c0_3, .slice A0_4 l0_4.length c0_4], .agg #[.int .i64 a1_0, .string a1_1, .string a1_2]] w fun e w' => ∃ v2_ v3_ v4_ : Value, e = .returned (.tuple #[.agg #[.int .i64 r1, .int .i64 r2, v2_, v3_, v4_], .agg #[.bool r6, .string r7, .string r8], .bool r9]) ∧ Mem w [] w' [rowR k60 60 v2_ r3, rowR k60 60 v3_ r4, rowR (Kd.int .i64) 3 v4_ r5] := by
 have hu26 := Tryz.underlying26
 have hu52 := Tryz.underlying52
 have hu54 := Tryz.underlying54
 have HR0_2 := Aside0.mk hr0_2
 have HC0_2 := Aside0.mk hc0_2
 clear hr0_2 hc0_2
 have HR0_3 := Aside0.mk hr0_3
 have HC0_3 := Aside0.mk hc0_3
 clear hr0_3 hc0_3
 have HR0_4 := Aside0.mk hr0_4
 have HC0_4 := Aside0.mk hc0_4
 clear hr0_4 hc0_4
 have HM := Mem.nil w
 have H := h
 clear h
 unfold impl_OpDo.f at H
 go_enter Tryz.func19, Tryz.ntmps19
 have HC7 := Aside0.mk H
 clear H
 go_upto_region 1 with (first | ((with_reducible refine gN 2 rfl ?_); refine pB 2 26 [.int .i64 a0_0, .int .i64 a0_1, .slice A0_2 l0_2.length c0_2, .slice A0_3 l0_3.length c0_3, .slice A0_4 l0_4.length c0_4] HM rfl ?_; clear HM; intro gb1004 w3 HM) | ((with_reducible refine gN 3 rfl ?_); refine pB 3 52 [.int .i64 a1_0, .string a1_1, .string a1_2] HM rfl ?_; clear HM; intro gb1005 w4 HM) | ((with_reducible refine gN 4 rfl ?_); refine pB 4 26 [.int .i64 0, .int .i64 0, .slice none 0 0, .slice none 0 0, .slice none 0 0] HM rfl ?_; clear HM; intro gb1006 w5 HM) | ((with_reducible refine gN 5 rfl ?_); refine pB 5 54 [.bool false, .string (⟨#[]⟩ : ByteArray), .string (⟨#[]⟩ : ByteArray)] HM rfl ?_; clear HM; intro gb1007 w6 HM))
 replace HM := nzM HM
 try simp only [Act.put, List.setIfInBounds_toArray, List.set_cons_zero, List.set_cons_succ]
 go_cut [23] (fun v23 wc => ∃ (kq : Nat) (x23_6 : Bool), v23 = .bool x23_6 ∧ Aside0 (impl_OpDo.j0 kq x23_6 a0_0 a0_1 l0_2 l0_3 l0_4 a1_0 a1_1 a1_2 = some (r1, r2, r3, r4, r5, r6, r7, r8, r9)) ∧ Aside0 (kq ≤ k) ∧ Mem w [] wc [box 26 gb1004 [.int .i64 a0_0, .int .i64 a0_1, .slice A0_2 l0_2.length c0_2, .slice A0_3 l0_3.length c0_3, .slice A0_4 l0_4.length c0_4], box 52 gb1005 [.int .i64 a1_0, .string a1_1, .string a1_2], box 26 gb1006 [.int .i64 0, .int .i64 0, .slice none 0 0, .slice none 0 0, .slice none 0 0], box 54 gb1007 [.bool false, .string (⟨#[]⟩ : ByteArray), .string (⟨#[]⟩ : ByteArray)]])
 case first =>
  have H := HC7.out
  clear HC7
  replace H := BN H; obtain ⟨t1008, A9, H⟩ := H
  replace H := IB H
  rcases H with ⟨c11, H⟩ | ⟨c11, H⟩
  ·subst c11
   replace H := BN H; obtain ⟨t1009, A13, H⟩ := H
   have H' := Aside0.mk H
   clear H
   obtain ⟨_,_,_,_,_,_,_,_,_,_⟩ := bk5 (HM.bx 0 rfl)
   go_wp2_with (first | ((with_reducible refine gC 11 rfl ?_); refine pC (some 17) rfl #[.agg #[.int .i64 a0_0, .int .i64 a0_1, .slice A0_2 l0_2.length c0_2, .slice A0_3 l0_3.length c0_3, .slice A0_4 l0_4.length c0_4]] rfl Tryz.func11 (impl_ThreeOk.calls k a0_0 a0_1 _ _ l0_2 _ _ l0_3 _ _ l0_4 true _ (HM.came HR0_2.out) HC0_2.out (HM.came HR0_3.out) HC0_3.out (HM.came HR0_4.out) HC0_4.out A9.out) ?_; rintro e w10 ⟨rfl, hR⟩; refine ⟨_, rfl, ?_⟩; replace HM := HM.call hR; clear hR; obtain ⟨_,_,_,_,_,_⟩ := bk3 (HM.bx 1 rfl)) | ((with_reducible refine gC 38 rfl ?_); refine pC (some 21) rfl #[.agg #[.int .i64 a1_0, .string a1_1, .string a1_2]] rfl Tryz.func38 (impl_OpOk.calls k a1_0 a1_1 a1_2 t1009 _ A13.out) ?_; rintro e w14 ⟨rfl, hR⟩; refine ⟨_, rfl, ?_⟩; replace HM := HM.call hR; clear hR))
   go_meet
   case rel => exact ⟨_, (!t1009), RS, H', ⟨by first | omega | exact Nat.le_refl _⟩, (MD HM).pick [0, 1, 2, 3]⟩
  ·subst c11
   have H' := Aside0.mk H
   clear H
   obtain ⟨_,_,_,_,_,_,_,_,_,_⟩ := bk5 (HM.bx 0 rfl)
   go_wp2_with (first | ((with_reducible refine gC 11 rfl ?_); refine pC (some 17) rfl #[.agg #[.int .i64 a0_0, .int .i64 a0_1, .slice A0_2 l0_2.length c0_2, .slice A0_3 l0_3.length c0_3, .slice A0_4 l0_4.length c0_4]] rfl Tryz.func11 (impl_ThreeOk.calls k a0_0 a0_1 _ _ l0_2 _ _ l0_3 _ _ l0_4 false _ (HM.came HR0_2.out) HC0_2.out (HM.came HR0_3.out) HC0_3.out (HM.came HR0_4.out) HC0_4.out A9.out) ?_; rintro e w10 ⟨rfl, hR⟩; refine ⟨_, rfl, ?_⟩; replace HM := HM.call hR; clear hR))
   go_meet
   case rel => exact ⟨_, (true), RS, H', ⟨by first | omega | exact Nat.le_refl _⟩, (MD HM).pick [0, 1, 2, 3]⟩
 case rest =>
  clear HC7 HM
  obtain ⟨kq, x23_6, rfl, HA, HJ6, HM⟩ := hcut
  cases kq with
  | zero => exact absurd HA.out (by simp [impl_OpDo.j0])
  | succ kj6 =>
   have H := HA.out
   clear HA
   simp only [impl_OpDo.j0] at H
   go_upto_if 23 with (fail)
   replace H := IB H
   rcases H with ⟨c15, H⟩ | ⟨c15, H⟩
   ·subst c15
    simp only [Option.some.injEq, Prod.mk.injEq] at H
    obtain ⟨rfl, rfl, rfl, rfl, rfl, rfl, rfl, rfl, rfl⟩ := H
    go_wp2_with (first | ((with_reducible refine gS 4 rfl ?_); refine pS 2 4 0 [.int .i64 0, .int .i64 0, .slice none 0 0, .slice none 0 0, .slice none 0 0] HM rfl rfl ?_; clear HM; intro w16 HM) | ((with_reducible refine gS 5 rfl ?_); refine pS 3 5 0 [.bool false, .string (⟨#[]⟩ : ByteArray), .string (⟨#[]⟩ : ByteArray)] HM rfl rfl ?_; clear HM; intro w17 HM; replace HM := HM.nl k60 60; replace HM := HM.nl k60 60; replace HM := HM.nl (Kd.int .i64) 3))
    refine bodyPost_ret (results_list (rs := [.cell 4 26, .cell 5 54, .tmp 6]) rfl (by simp) (.cell gb1006 26 #[.int .i64 0, .int .i64 0, .slice none 0 0, .slice none 0 0, .slice none 0 0] (0, 0) _ rfl (HM.bx 2 rfl) Tryz.underlying26 rfl (by kernel_rfl) (.cell gb1007 54 #[.bool false, .string (⟨#[]⟩ : ByteArray), .string (⟨#[]⟩ : ByteArray)] (0, 0) _ rfl (HM.bx 3 rfl) Tryz.underlying54 rfl (by kernel_rfl) (.tmp .nil)))) rfl ?_
    exact ⟨_, _, _, ER, (MD HM).pick [4, 5, 6]⟩
   ·subst c15
    obtain ⟨_,_,_,_,_,_⟩ := bk3 (HM.bx 1 rfl)
    go_upto_if 28 with (fail)
    replace H := IT H; rcases H with ⟨c19, H⟩ | ⟨c19, H⟩
    ·obtain ⟨c19b0, c19b1⟩ := BE c19
     clear c19
     first|rw [c19b0]|(simp only [i64_w, i32_w]; rw [c19b0])|skip
     replace H := BN H; obtain ⟨⟨t1010, t1011, t1012, t1015, t1018, t1021, t1022⟩, A21, H⟩ := H
     simp only [Option.some.injEq, Prod.mk.injEq] at H
     obtain ⟨rfl, rfl, rfl, rfl, rfl, rfl, rfl, rfl, rfl⟩ := H
     obtain ⟨_,_,_,_,_,_,_,_,_,_⟩ := bk5 (HM.bx 0 rfl)
     go_wp2_with (first | ((with_reducible refine gC 39 rfl ?_); refine pC (some 34) rfl #[.agg #[.int .i64 a0_0, .int .i64 a0_1, .slice A0_2 l0_2.length c0_2, .slice A0_3 l0_3.length c0_3, .slice A0_4 l0_4.length c0_4], .string a1_1] rfl Tryz.func39 (impl_Get.calls kj6 a0_0 a0_1 _ _ l0_2 _ _ l0_3 _ _ l0_4 a1_1 t1010 t1011 t1012 t1015 t1018 t1021 t1022 _ (HM.came HR0_2.out) HC0_2.out (HM.came HR0_3.out) HC0_3.out (HM.came HR0_4.out) HC0_4.out A21.out) ?_; rintro e w22 ⟨v1013, v1016, v1019, rfl, hR⟩; refine ⟨_, rfl, ?_⟩; replace HM := HM.call hR; clear hR) | ((with_reducible refine gN 7 rfl ?_); refine pB 7 26 [.int .i64 0, .int .i64 0, .slice none 0 0, .slice none 0 0, .slice none 0 0] HM rfl ?_; clear HM; intro gb1023 w23 HM; obtain ⟨Xo24, ko24, rfl⟩ := HM.rdR 4 rfl; obtain ⟨Xo25, ko25, rfl⟩ := HM.rdR 5 rfl; obtain ⟨Xo26, ko26, rfl⟩ := HM.rdR 6 rfl) | ((with_reducible refine gS 7 rfl ?_); refine pS 7 7 0 [.int .i64 t1010, .int .i64 t1011, .slice Xo24 t1012.length ko24, .slice Xo25 t1015.length ko25, .slice Xo26 t1018.length ko26] HM rfl rfl ?_; clear HM; intro w27 HM; obtain ⟨_,_,_,_,_,_,_,_,_,_⟩ := bk5 (HM.bx 7 rfl)) | ((with_reducible refine gS 4 rfl ?_); refine pS 2 4 0 [.int .i64 t1010, .int .i64 t1011, .slice Xo24 t1012.length ko24, .slice Xo25 t1015.length ko25, .slice Xo26 t1018.length ko26] HM rfl rfl ?_; clear HM; intro w29 HM) | ((with_reducible refine gS 5 rfl ?_); refine pS 3 5 0 [.bool t1022, .string t1021, .string (⟨#[]⟩ : ByteArray)] HM rfl rfl ?_; clear HM; intro w30 HM))
     refine bodyPost_ret (results_list (rs := [.cell 4 26, .cell 5 54, .tmp 6]) rfl (by simp) (.cell gb1006 26 #[.int .i64 t1010, .int .i64 t1011, .slice Xo24 t1012.length ko24, .slice Xo25 t1015.length ko25, .slice Xo26 t1018.length ko26] (0, 0) _ rfl (HM.bx 2 rfl) Tryz.underlying26 rfl (by kernel_rfl) (.cell gb1007 54 #[.bool t1022, .string t1021, .string (⟨#[]⟩ : ByteArray)] (0, 0) _ rfl (HM.bx 3 rfl) Tryz.underlying54 rfl (by kernel_rfl) (.tmp .nil)))) rfl ?_
     exact ⟨_, _, _, ER, (MD HM).pick [4, 5, 6]⟩
    ·have c19b0 : (a1_0 == 1) = false := beq_eq_false_iff_ne.mpr c19
     have c19b1 : (a1_0 != 1) = true := bne_iff_ne.mpr c19
     first|rw [c19b0]|(simp only [i64_w, i32_w]; rw [c19b0])|skip
     go_upto_if 42 with (fail)
     replace H := IT H; rcases H with ⟨c31, H⟩ | ⟨c31, H⟩
     ·have c31b0 : (a1_0 == 2) = true := beq_iff_eq.mpr c31
      have c31b1 : (a1_0 != 2) = false := bne_eq_false_iff_eq.mpr c31
      clear c31
      first|rw [c31b0]|(simp only [i64_w, i32_w]; rw [c31b0])|skip
      replace H := BN H; obtain ⟨⟨t1024, t1025, t1026, t1029, t1032, t1035, t1038⟩, A33, H⟩ := H
      obtain ⟨_,_,_,_,_,_,_,_,_,_⟩ := bk5 (HM.bx 0 rfl)
      go_upto_if 57 with (first | ((with_reducible refine gC 40 rfl ?_); refine pC (some 50) rfl #[.agg #[.int .i64 a0_0, .int .i64 a0_1, .slice A0_2 l0_2.length c0_2, .slice A0_3 l0_3.length c0_3, .slice A0_4 l0_4.length c0_4], .string a1_1, .string a1_2] rfl Tryz.func40 (impl_Put.calls kj6 a0_0 a0_1 _ _ l0_2 _ _ l0_3 _ _ l0_4 a1_1 a1_2 t1024 t1025 t1026 t1029 t1032 t1035 t1038 _ (HM.came HR0_2.out) HC0_2.out (HM.came HR0_3.out) HC0_3.out (HM.came HR0_4.out) HC0_4.out A33.out) ?_; rintro e w34 ⟨v1027, v1030, v1033, v1036, rfl, hR⟩; refine ⟨_, rfl, ?_⟩; replace HM := HM.call hR; clear hR) | ((with_reducible refine gN 10 rfl ?_); refine pB 10 26 [.int .i64 0, .int .i64 0, .slice none 0 0, .slice none 0 0, .slice none 0 0] HM rfl ?_; clear HM; intro gb1039 w35 HM; obtain ⟨Xo36, ko36, rfl⟩ := HM.rdR 4 rfl; obtain ⟨Xo37, ko37, rfl⟩ := HM.rdR 5 rfl; obtain ⟨Xo38, ko38, rfl⟩ := HM.rdR 6 rfl) | ((with_reducible refine gS 10 rfl ?_); refine pS 8 10 0 [.int .i64 t1024, .int .i64 t1025, .slice Xo36 t1026.length ko36, .slice Xo37 t1029.length ko37, .slice Xo38 t1032.length ko38] HM rfl rfl ?_; clear HM; intro w39 HM) | ((with_reducible refine gN 13 rfl ?_); refine pB 13 54 [.bool false, .string (⟨#[]⟩ : ByteArray), .string (⟨#[]⟩ : ByteArray)] HM rfl ?_; clear HM; intro gb1040 w40 HM) | ((with_reducible refine gS 13 rfl ?_); refine pS 9 13 0 [.bool true, .string (⟨#[]⟩ : ByteArray), .string (⟨#[]⟩ : ByteArray)] HM rfl rfl ?_; clear HM; intro w41 HM; obtain ⟨Xo42, ko42, rfl⟩ := HM.rdR 7 rfl))
      replace HM := nzM HM
      replace H := IT H; rcases H with ⟨c43, H⟩ | ⟨c43, H⟩
      ·replace c43 : (t1035.length : Int) > 0 := c43
       have c43b0 : decide (0 < (t1035.length : Int)) = true := decide_eq_true c43
       have c43b1 : decide (0 < t1035.length) = true := decide_eq_true (by omega)
       have c43b9 : decide (0 < t1035.length) = true := decide_eq_true (by omega)
       clear c43
       first|rw [c43b0]|rw [c43b9]|(simp only [i64_w, i32_w]; rw [c43b0])|skip
       replace H := GD H; obtain ⟨c44, H⟩ := H
       replace c44 : 0 < (t1035.length : Int) := c44
       have c44b0 : decide (0 < (t1035.length : Int)) = true := decide_eq_true c44
       have c44b1 : decide (0 < t1035.length) = true := decide_eq_true (by omega)
       have c44b9 : decide (0 < t1035.length) = true := decide_eq_true (by omega)
       clear c44
       have p1041 : 0 ≤ (0 : Int) := (by omega)
       have q1041 : (0 : Int) < (t1035.length : Int) := of_decide_eq_true AS
       obtain ⟨ad1041, e1041, hx1041_0⟩ := Kd.at_string (HM.CR 7 rfl).2.2 0 p1041 q1041
       cases e1041
       have qi1041 : (0 < t1035.length) = True := eq_true (by omega)
       (try rw [show ((0 : Int)).toNat = 0 from rfl] at hx1041_0)
       (try rw [Addr.add_zero'] at hx1041_0)
       replace p1041 := eq_true p1041
       replace q1041 := eq_true q1041
       try go_wp2_with (first | ((with_reducible refine gS 61 rfl ?_); refine pS 9 61 2 [.string (rdOf ByteArray.empty t1035 0)] HM rfl rfl ?_; clear HM; intro w45 HM))
       refine RGN 5 [0, 1, 2, 3, 4] (fun a0 b a w' => a = putSel a0 b [(0, 62, .agg #[.int .i64 t1024, .int .i64 t1025, .slice Xo36 t1026.length ko36, .slice Xo37 t1029.length ko37, .slice Xo38 t1032.length ko38]), (1, 63, .agg #[.bool true, .string (⟨#[]⟩ : ByteArray), .string (rdOf ByteArray.empty t1035 0)]), (4, 6, .bool true)] ∧ Mem w [] w' [box 26 gb1004 [.int .i64 a0_0, .int .i64 a0_1, .slice A0_2 l0_2.length c0_2, .slice A0_3 l0_3.length c0_3, .slice A0_4 l0_4.length c0_4], box 52 gb1005 [.int .i64 a1_0, .string a1_1, .string a1_2], sel (b 2) (box 26 gb1006 [.int .i64 t1024, .int .i64 t1025, .slice Xo36 t1026.length ko36, .slice Xo37 t1029.length ko37, .slice Xo38 t1032.length ko38]) (box 26 gb1006 [.int .i64 0, .int .i64 0, .slice none 0 0, .slice none 0 0, .slice none 0 0]), sel (b 3) (box 54 gb1007 [.bool true, .string (⟨#[]⟩ : ByteArray), .string (rdOf ByteArray.empty t1035 0)]) (box 54 gb1007 [.bool false, .string (⟨#[]⟩ : ByteArray), .string (⟨#[]⟩ : ByteArray)]), rowR k60 60 (.slice Xo36 t1026.length ko36) t1026, rowR k60 60 (.slice Xo37 t1029.length ko37) t1029, rowR (Kd.int .i64) 3 (.slice Xo38 t1032.length ko38) t1032, rowR Kd.string 9 (.slice (some ad1041) t1035.length ko42) t1035, box 26 gb1039 [.int .i64 t1024, .int .i64 t1025, .slice Xo36 t1026.length ko36, .slice Xo37 t1029.length ko37, .slice Xo38 t1032.length ko38], box 54 gb1040 [.bool true, .string (⟨#[]⟩ : ByteArray), .string (rdOf ByteArray.empty t1035 0)]]) impl_OpDo.tab12 impl_OpDo.bits12 ?_ ?_ ?_
       ·exact ⟨PS0' rfl _, (HM.drew).pick [0, 1, 2, 3, 4, 5, 6, 7, 8, 9]⟩
       ·clear HM
        refine SY ?_ ?_
        ·intro b a w ha HM hb hon hoff K hK
         obtain ⟨_,_,_,_,_,_,_,_,_,_⟩ := bk5 (HM.bx 8 rfl)
         have e10 := PG ha 10
         exact VL (.agg #[.int .i64 t1024, .int .i64 t1025, .slice Xo36 t1026.length ko36, .slice Xo37 t1029.length ko37, .slice Xo38 t1032.length ko38]) (hK.out _ _ ⟨PUT ha 0 hb, HM⟩)
        refine SY ?_ ?_
        ·intro b a w ha HM hb hon hoff K hK
         obtain ⟨_,_,_,_,_,_⟩ := bk3 (HM.bx 9 rfl)
         have e13 := PG ha 13
         exact VL (.agg #[.bool true, .string (⟨#[]⟩ : ByteArray), .string (rdOf ByteArray.empty t1035 0)]) (hK.out _ _ ⟨PUT ha 1 hb, HM⟩)
        refine SY ?_ ?_
        ·intro b a w ha HM hb hon hoff K hK
         replace HM := HM.sF 2 rfl hb
         have e4 := PG ha 4
         have e62 := PE ha 0 hon
         refine ST (eS 2 4 0 [.int .i64 t1024, .int .i64 t1025, .slice Xo36 t1026.length ko36, .slice Xo37 t1029.length ko37, .slice Xo38 t1032.length ko38] HM rfl rfl ?_ (hp := (eval_of e4)) (hx := (by rw [eval_of e62]; rfl)))
         clear HM
         intro w52 HM
         exact hK.out _ _ ⟨PUS ha, (HM).pick [0, 1, 2, 3, 4, 5, 6, 7, 8, 9]⟩
        refine SY ?_ ?_
        ·intro b a w ha HM hb hon hoff K hK
         replace HM := HM.sF 3 rfl hb
         have e5 := PG ha 5
         have e63 := PE ha 1 hon
         refine ST (eS 3 5 0 [.bool true, .string (⟨#[]⟩ : ByteArray), .string (rdOf ByteArray.empty t1035 0)] HM rfl rfl ?_ (hp := (eval_of e5)) (hx := (by rw [eval_of e63]; rfl)))
         clear HM
         intro w53 HM
         exact hK.out _ _ ⟨PUS ha, (HM).pick [0, 1, 2, 3, 4, 5, 6, 7, 8, 9]⟩
        refine SY ?_ ?_
        ·intro b a w ha HM hb hon hoff K hK
         exact VL (.bool true) (hK.out _ _ ⟨PUT ha 2 hb, HM⟩)
        exact steps_nil
       rintro _ w54 ⟨rfl, HM⟩
       replace HM := HM.sT 2 rfl rfl
       replace HM := HM.sT 3 rfl rfl
       simp only [putSel, if_true, Act.put, List.setIfInBounds_toArray, List.set_cons_zero, List.set_cons_succ, gt_iff_lt, ge_iff_le]
       simp only [Option.some.injEq, Prod.mk.injEq] at H
       obtain ⟨rfl, rfl, rfl, rfl, rfl, rfl, rfl, rfl, rfl⟩ := H
       go_wp2
       refine bodyPost_ret (results_list (rs := [.cell 4 26, .cell 5 54, .tmp 6]) rfl (by simp) (.cell gb1006 26 #[.int .i64 t1024, .int .i64 t1025, .slice Xo36 t1026.length ko36, .slice Xo37 t1029.length ko37, .slice Xo38 t1032.length ko38] (0, 0) _ rfl (HM.bx 2 rfl) Tryz.underlying26 rfl (by kernel_rfl) (.cell gb1007 54 #[.bool true, .string (⟨#[]⟩ : ByteArray), .string (rdOf ByteArray.empty t1035 0)] (0, 0) _ rfl (HM.bx 3 rfl) Tryz.underlying54 rfl (by kernel_rfl) (.tmp .nil)))) rfl ?_
       exact ⟨_, _, _, ER, (MD HM).pick [4, 5, 6]⟩
      ·replace c43 : ¬ ((t1035.length : Int) > 0) := c43
       have c43b0 : decide (0 < (t1035.length : Int)) = false := decide_eq_false c43
       have c43b1 : decide (0 < t1035.length) = false := decide_eq_false (by omega)
       have c43b9 : decide (0 < t1035.length) = false := decide_eq_false (by omega)
       clear c43
       first|rw [c43b0]|rw [c43b9]|(simp only [i64_w, i32_w]; rw [c43b0])|skip
       try go_wp2
       refine RGN 5 [0, 1, 2, 3, 4] (fun a0 b a w' => a = putSel a0 b [(0, 62, .agg #[.int .i64 t1024, .int .i64 t1025, .slice Xo36 t1026.length ko36, .slice Xo37 t1029.length ko37, .slice Xo38 t1032.length ko38]), (1, 63, .agg #[.bool true, .string (⟨#[]⟩ : ByteArray), .string (⟨#[]⟩ : ByteArray)]), (4, 6, .bool true)] ∧ Mem w [] w' [box 26 gb1004 [.int .i64 a0_0, .int .i64 a0_1, .slice A0_2 l0_2.length c0_2, .slice A0_3 l0_3.length c0_3, .slice A0_4 l0_4.length c0_4], box 52 gb1005 [.int .i64 a1_0, .string a1_1, .string a1_2], sel (b 2) (box 26 gb1006 [.int .i64 t1024, .int .i64 t1025, .slice Xo36 t1026.length ko36, .slice Xo37 t1029.length ko37, .slice Xo38 t1032.length ko38]) (box 26 gb1006 [.int .i64 0, .int .i64 0, .slice none 0 0, .slice none 0 0, .slice none 0 0]), sel (b 3) (box 54 gb1007 [.bool true, .string (⟨#[]⟩ : ByteArray), .string (⟨#[]⟩ : ByteArray)]) (box 54 gb1007 [.bool false, .string (⟨#[]⟩ : ByteArray), .string (⟨#[]⟩ : ByteArray)]), rowR k60 60 (.slice Xo36 t1026.length ko36) t1026, rowR k60 60 (.slice Xo37 t1029.length ko37) t1029, rowR (Kd.int .i64) 3 (.slice Xo38 t1032.length ko38) t1032, rowR Kd.string 9 (.slice Xo42 t1035.length ko42) t1035, box 26 gb1039 [.int .i64 t1024, .int .i64 t1025, .slice Xo36 t1026.length ko36, .slice Xo37 t1029.length ko37, .slice Xo38 t1032.length ko38], box 54 gb1040 [.bool true, .string (⟨#[]⟩ : ByteArray), .string (⟨#[]⟩ : ByteArray)]]) impl_OpDo.tab12 impl_OpDo.bits12 ?_ ?_ ?_
       ·exact ⟨PS0' rfl _, (HM.drew).pick [0, 1, 2, 3, 4, 5, 6, 7, 8, 9]⟩
       ·clear HM
        refine SY ?_ ?_
        ·intro b a w ha HM hb hon hoff K hK
         obtain ⟨_,_,_,_,_,_,_,_,_,_⟩ := bk5 (HM.bx 8 rfl)
         have e10 := PG ha 10
         exact VL (.agg #[.int .i64 t1024, .int .i64 t1025, .slice Xo36 t1026.length ko36, .slice Xo37 t1029.length ko37, .slice Xo38 t1032.length ko38]) (hK.out _ _ ⟨PUT ha 0 hb, HM⟩)
        refine SY ?_ ?_
        ·intro b a w ha HM hb hon hoff K hK
         obtain ⟨_,_,_,_,_,_⟩ := bk3 (HM.bx 9 rfl)
         have e13 := PG ha 13
         exact VL (.agg #[.bool true, .string (⟨#[]⟩ : ByteArray), .string (⟨#[]⟩ : ByteArray)]) (hK.out _ _ ⟨PUT ha 1 hb, HM⟩)
        refine SY ?_ ?_
        ·intro b a w ha HM hb hon hoff K hK
         replace HM := HM.sF 2 rfl hb
         have e4 := PG ha 4
         have e62 := PE ha 0 hon
         refine ST (eS 2 4 0 [.int .i64 t1024, .int .i64 t1025, .slice Xo36 t1026.length ko36, .slice Xo37 t1029.length ko37, .slice Xo38 t1032.length ko38] HM rfl rfl ?_ (hp := (eval_of e4)) (hx := (by rw [eval_of e62]; rfl)))
         clear HM
         intro w61 HM
         exact hK.out _ _ ⟨PUS ha, (HM).pick [0, 1, 2, 3, 4, 5, 6, 7, 8, 9]⟩
        refine SY ?_ ?_
        ·intro b a w ha HM hb hon hoff K hK
         replace HM := HM.sF 3 rfl hb
         have e5 := PG ha 5
         have e63 := PE ha 1 hon
         refine ST (eS 3 5 0 [.bool true, .string (⟨#[]⟩ : ByteArray), .string (⟨#[]⟩ : ByteArray)] HM rfl rfl ?_ (hp := (eval_of e5)) (hx := (by rw [eval_of e63]; rfl)))
         clear HM
         intro w62 HM
         exact hK.out _ _ ⟨PUS ha, (HM).pick [0, 1, 2, 3, 4, 5, 6, 7, 8, 9]⟩
        refine SY ?_ ?_
        ·intro b a w ha HM hb hon hoff K hK
         exact VL (.bool true) (hK.out _ _ ⟨PUT ha 2 hb, HM⟩)
        exact steps_nil
       rintro _ w63 ⟨rfl, HM⟩
       replace HM := HM.sT 2 rfl rfl
       replace HM := HM.sT 3 rfl rfl
       simp only [putSel, if_true, Act.put, List.setIfInBounds_toArray, List.set_cons_zero, List.set_cons_succ, gt_iff_lt, ge_iff_le]
       simp only [Option.some.injEq, Prod.mk.injEq] at H
       obtain ⟨rfl, rfl, rfl, rfl, rfl, rfl, rfl, rfl, rfl⟩ := H
       go_wp2
       refine bodyPost_ret (results_list (rs := [.cell 4 26, .cell 5 54, .tmp 6]) rfl (by simp) (.cell gb1006 26 #[.int .i64 t1024, .int .i64 t1025, .slice Xo36 t1026.length ko36, .slice Xo37 t1029.length ko37, .slice Xo38 t1032.length ko38] (0, 0) _ rfl (HM.bx 2 rfl) Tryz.underlying26 rfl (by kernel_rfl) (.cell gb1007 54 #[.bool true, .string (⟨#[]⟩ : ByteArray), .string (⟨#[]⟩ : ByteArray)] (0, 0) _ rfl (HM.bx 3 rfl) Tryz.underlying54 rfl (by kernel_rfl) (.tmp .nil)))) rfl ?_
       exact ⟨_, _, _, ER, (MD HM).pick [4, 5, 6]⟩
     ·have c31b0 : (a1_0 == 2) = false := beq_eq_false_iff_ne.mpr c31
      have c31b1 : (a1_0 != 2) = true := bne_iff_ne.mpr c31
      first|rw [c31b0]|(simp only [i64_w, i32_w]; rw [c31b0])|skip
      replace H := BN H; obtain ⟨⟨t1042, t1043, t1044, t1047, t1050, t1053⟩, A65, H⟩ := H
      simp only [Option.some.injEq, Prod.mk.injEq] at H
      obtain ⟨rfl, rfl, rfl, rfl, rfl, rfl, rfl, rfl, rfl⟩ := H
      obtain ⟨_,_,_,_,_,_,_,_,_,_⟩ := bk5 (HM.bx 0 rfl)
      go_wp2_with (first | ((with_reducible refine gC 41 rfl ?_); refine pC (some 68) rfl #[.agg #[.int .i64 a0_0, .int .i64 a0_1, .slice A0_2 l0_2.length c0_2, .slice A0_3 l0_3.length c0_3, .slice A0_4 l0_4.length c0_4], .string a1_1] rfl Tryz.func41 (impl_Drop.calls kj6 a0_0 a0_1 _ _ l0_2 _ _ l0_3 _ _ l0_4 a1_1 t1042 t1043 t1044 t1047 t1050 t1053 _ (HM.came HR0_2.out) HC0_2.out (HM.came HR0_3.out) HC0_3.out (HM.came HR0_4.out) HC0_4.out A65.out) ?_; rintro e w66 ⟨v1045, v1048, v1051, rfl, hR⟩; refine ⟨_, rfl, ?_⟩; replace HM := HM.call hR; clear hR) | ((with_reducible refine gN 14 rfl ?_); refine pB 14 26 [.int .i64 0, .int .i64 0, .slice none 0 0, .slice none 0 0, .slice none 0 0] HM rfl ?_; clear HM; intro gb1054 w67 HM; obtain ⟨Xo68, ko68, rfl⟩ := HM.rdR 4 rfl; obtain ⟨Xo69, ko69, rfl⟩ := HM.rdR 5 rfl; obtain ⟨Xo70, ko70, rfl⟩ := HM.rdR 6 rfl) | ((with_reducible refine gS 14 rfl ?_); refine pS 7 14 0 [.int .i64 t1042, .int .i64 t1043, .slice Xo68 t1044.length ko68, .slice Xo69 t1047.length ko69, .slice Xo70 t1050.length ko70] HM rfl rfl ?_; clear HM; intro w71 HM; obtain ⟨_,_,_,_,_,_,_,_,_,_⟩ := bk5 (HM.bx 7 rfl)) | ((with_reducible refine gS 4 rfl ?_); refine pS 2 4 0 [.int .i64 t1042, .int .i64 t1043, .slice Xo68 t1044.length ko68, .slice Xo69 t1047.length ko69, .slice Xo70 t1050.length ko70] HM rfl rfl ?_; clear HM; intro w73 HM) | ((with_reducible refine gS 5 rfl ?_); refine pS 3 5 0 [.bool t1053, .string (⟨#[]⟩ : ByteArray), .string (⟨#[]⟩ : ByteArray)] HM rfl rfl ?_; clear HM; intro w74 HM))
      refine bodyPost_ret (results_list (rs := [.cell 4 26, .cell 5 54, .tmp 6]) rfl (by simp) (.cell gb1006 26 #[.int .i64 t1042, .int .i64 t1043, .slice Xo68 t1044.length ko68, .slice Xo69 t1047.length ko69, .slice Xo70 t1050.length ko70] (0, 0) _ rfl (HM.bx 2 rfl) Tryz.underlying26 rfl (by kernel_rfl) (.cell gb1007 54 #[.bool t1053, .string (⟨#[]⟩ : ByteArray), .string (⟨#[]⟩ : ByteArray)] (0, 0) _ rfl (HM.bx 3 rfl) Tryz.underlying54 rfl (by kernel_rfl) (.tmp .nil)))) rfl ?_
      exact ⟨_, _, _, ER, (MD HM).pick [4, 5, 6]⟩
def impl_OpsDo.l0 : Nat → List (S54) → List (S52) → Int → Int → Int → Int → List (S60) → List (S60) → List Int → Option (Int × Int × (List (S60)) × (List (S60)) × List Int × (List (S54)))
 | 0, _, _, _, _, _, _, _, _, _ => none
 | k + 1, x7, x20, x21, x22, x1073000, x1073001, x1073002, x1073003, x1073004 => if x22 < x21 then (if 0 ≤ x22 then (if x22 < (x20.length : Int) then ((impl_OpDo.f k x1073000 x1073001 x1073002 x1073003 x1073004 ((rd_T52 x20 x22).f0) ((rd_T52 x20 x22).f1) ((rd_T52 x20 x22).f2)).bind fun bt1078 => (if bt1078.2.2.2.2.2.2.2.2 = true then (if x7.length < 3518437208883 then (impl_OpsDo.l0 k (x7 ++ [(⟨bt1078.2.2.2.2.2.1, bt1078.2.2.2.2.2.2.1, bt1078.2.2.2.2.2.2.2.1⟩ : S54)]) x20 x21 (wrap64 (x22 + 1)) bt1078.1 bt1078.2.1 bt1078.2.2.1 bt1078.2.2.2.1 bt1078.2.2.2.2.1) else (none)) else (some (x1073000, x1073001, x1073002, x1073003, x1073004, x7)))) else (none)) else (none)) else (some (x1073000, x1073001, x1073002, x1073003, x1073004, x7))
def impl_OpsDo.f (k : Nat) (a0_0 : Int) (a0_1 : Int) (l0_2 : List (S60)) (l0_3 : List (S60)) (l0_4 : List Int) (l1 : List (S52)) : Option (Int × Int × (List (S60)) × (List (S60)) × List Int × (List (S54))) := (impl_ThreeOk.f k a0_0 a0_1 l0_2 l0_3 l0_4).bind fun t1060 => (if t1060 = true then ((impl_copyThree.f a0_0 a0_1 l0_2 l0_3 l0_4).bind fun bt1061 => (impl_OpsDo.l0 k (([] : List (S54))) l1 (l1.length : Int) 0 bt1061.1 bt1061.2.1 bt1061.2.2.1 bt1061.2.2.2.1 bt1061.2.2.2.2)) else (some (0, 0, ([] : List (S60)), ([] : List (S60)), ([] : List Int), ([] : List (S54)))))
theorem impl_OpsDo.calls (k : Nat) (a0_0 : Int) (a0_1 : Int) (A0_2 : Option Addr) (c0_2 : Nat) (l0_2 : List (S60)) (A0_3 : Option Addr) (c0_3 : Nat) (l0_3 : List (S60)) (A0_4 : Option Addr) (c0_4 : Nat) (l0_4 : List Int) (A1 : Option Addr) (c1 : Nat) (l1 : List (S52)) (r1 : Int) (r2 : Int) (r3 : List (S60)) (r4 : List (S60)) (r5 : List Int) (r6 : List (S54)) (w : World) (hr0_2 : Kd.C k60 w A0_2 l0_2.length l0_2) (hc0_2 : l0_2.length ≤ c0_2) (hr0_3 : Kd.C k60 w A0_3 l0_3.length l0_3) (hc0_3 : l0_3.length ≤ c0_3) (hr0_4 : Kd.C (Kd.int .i64) w A0_4 l0_4.length l0_4) (hc0_4 : l0_4.length ≤ c0_4) (hr1 : Kd.C k52 w A1 l1.length l1) (hc1 : l1.length ≤ c1) (h : impl_OpsDo.f k a0_0 a0_1 l0_2 l0_3 l0_4 l1 = some (r1, r2, r3, r4, r5, r6)) :
  Calls Tryz.prog 7 #[.agg #[.int .i64 a0_0, .int .i64 a0_1, .slice A0_2 l0_2.length c0_2, .slice A0_3 l0_3.length c0_3, .slice A0_4 l0_4.length c0_4], .slice A1 l1.length c1] w fun e w' => ∃ v2_ v3_ v4_ v5_ : Value, e = .returned (.tuple #[.agg #[.int .i64 r1, .int .i64 r2, v2_, v3_, v4_], v5_]) ∧ Mem w [] w' [rowR k60 60 v2_ r3, rowR k60 60 v3_ r4, rowR (Kd.int .i64) 3 v4_ r5, rowR k54 54 v5_ r6] := by
 have hu26 := Tryz.underlying26
 have hu52 := Tryz.underlying52
 have hu54 := Tryz.underlying54
 have HR0_2 := Aside0.mk hr0_2
 have HC0_2 := Aside0.mk hc0_2
 clear hr0_2 hc0_2
 have HR0_3 := Aside0.mk hr0_3
 have HC0_3 := Aside0.mk hc0_3
 clear hr0_3 hc0_3
 have HR0_4 := Aside0.mk hr0_4
 have HC0_4 := Aside0.mk hc0_4
 clear hr0_4 hc0_4
 have HR1 := Aside0.mk hr1
 have HC1 := Aside0.mk hc1
 clear hr1 hc1
 have HM := Mem.nil w
 have H := h
 clear h
 unfold impl_OpsDo.f at H
 go_enter Tryz.func7, Tryz.ntmps7
 replace H := BN H; obtain ⟨t1060, A6, H⟩ := H
 go_upto_if 15 with (first | ((with_reducible refine gN 2 rfl ?_); refine pB 2 26 [.int .i64 a0_0, .int .i64 a0_1, .slice A0_2 l0_2.length c0_2, .slice A0_3 l0_3.length c0_3, .slice A0_4 l0_4.length c0_4] HM rfl ?_; clear HM; intro gb1058 w3 HM) | ((with_reducible refine gN 4 rfl ?_); refine pB 4 26 [.int .i64 0, .int .i64 0, .slice none 0 0, .slice none 0 0, .slice none 0 0] HM rfl ?_; clear HM; intro gb1059 w4 HM; obtain ⟨_,_,_,_,_,_,_,_,_,_⟩ := bk5 (HM.bx 0 rfl)) | ((with_reducible refine gC 11 rfl ?_); refine pC (some 14) rfl #[.agg #[.int .i64 a0_0, .int .i64 a0_1, .slice A0_2 l0_2.length c0_2, .slice A0_3 l0_3.length c0_3, .slice A0_4 l0_4.length c0_4]] rfl Tryz.func11 (impl_ThreeOk.calls k a0_0 a0_1 _ _ l0_2 _ _ l0_3 _ _ l0_4 t1060 _ (HM.came HR0_2.out) HC0_2.out (HM.came HR0_3.out) HC0_3.out (HM.came HR0_4.out) HC0_4.out A6.out) ?_; rintro e w7 ⟨rfl, hR⟩; refine ⟨_, rfl, ?_⟩; replace HM := HM.call hR; clear hR))
 replace HM := nzM HM
 replace H := IB H
 rcases H with ⟨c8, H⟩ | ⟨c8, H⟩
 ·subst c8
  replace H := BN H; obtain ⟨⟨t1061, t1062, t1063, t1066, t1069⟩, A10, H⟩ := H
  have H' := Aside0.mk H
  clear H
  obtain ⟨_,_,_,_,_,_,_,_,_,_⟩ := bk5 (HM.bx 0 rfl)
  go_wp2_with (first | ((with_reducible refine gC 15 rfl ?_); refine pC (some 18) rfl #[.agg #[.int .i64 a0_0, .int .i64 a0_1, .slice A0_2 l0_2.length c0_2, .slice A0_3 l0_3.length c0_3, .slice A0_4 l0_4.length c0_4]] rfl Tryz.func15 (impl_copyThree.calls a0_0 a0_1 _ _ l0_2 _ _ l0_3 _ _ l0_4 t1061 t1062 t1063 t1066 t1069 _ (HM.came HR0_2.out) HC0_2.out (HM.came HR0_3.out) HC0_3.out (HM.came HR0_4.out) HC0_4.out A10.out) ?_; rintro e w11 ⟨v1064, v1067, v1070, rfl, hR⟩; refine ⟨_, rfl, ?_⟩; replace HM := HM.call hR; clear hR) | ((with_reducible refine gN 6 rfl ?_); refine pB 6 26 [.int .i64 0, .int .i64 0, .slice none 0 0, .slice none 0 0, .slice none 0 0] HM rfl ?_; clear HM; intro gb1072 w12 HM; obtain ⟨Xo13, ko13, rfl⟩ := HM.rdR 2 rfl; obtain ⟨Xo14, ko14, rfl⟩ := HM.rdR 3 rfl; obtain ⟨Xo15, ko15, rfl⟩ := HM.rdR 4 rfl) | ((with_reducible refine gS 6 rfl ?_); refine pS 5 6 0 [.int .i64 t1061, .int .i64 t1062, .slice Xo13 t1063.length ko13, .slice Xo14 t1066.length ko14, .slice Xo15 t1069.length ko15] HM rfl rfl ?_; clear HM; intro w16 HM) | ((with_reducible refine gN 19 rfl ?_); refine pL 19 k54 54 ([] : List (S54)) [] (Reps.none _ _) HM rfl ?_; clear HM; intro v1074 w17 HM))
  go_loopg [7, 22] k (fun kq v7 v22 w' => ∃ (x7_1 : List (S54)) (x22_1 : Int) (x1073000_1 : Int) (x1073001_1 : Int) (x1073002_1 : List (S60)) (x1073003_1 : List (S60)) (x1073004_1 : List Int) (u1073002 : Value) (u1073003 : Value) (u1073004 : Value), v22 = .int .i64 x22_1 ∧ Aside0 (impl_OpsDo.l0 kq x7_1 l1 (l1.length : Int) x22_1 x1073000_1 x1073001_1 x1073002_1 x1073003_1 x1073004_1 = some (r1, r2, r3, r4, r5, r6)) ∧ Aside0 (kq ≤ k) ∧ Mem w [] w' [rowR k54 54 v7 x7_1, rowR k60 60 u1073002 x1073002_1, rowR k60 60 u1073003 x1073003_1, rowR (Kd.int .i64) 3 u1073004 x1073004_1, box 26 gb1058 [.int .i64 a0_0, .int .i64 a0_1, .slice A0_2 l0_2.length c0_2, .slice A0_3 l0_3.length c0_3, .slice A0_4 l0_4.length c0_4], box 26 gb1059 [.int .i64 0, .int .i64 0, .slice none 0 0, .slice none 0 0, .slice none 0 0], box 26 gb1072 [.int .i64 x1073000_1, .int .i64 x1073001_1, u1073002, u1073003, u1073004]])
  case atStart => exact ⟨((([] : List (S54)))), (0), (t1061), (t1062), (t1063), (t1066), (t1069), (.slice Xo13 t1063.length ko13), (.slice Xo14 t1066.length ko14), (.slice Xo15 t1069.length ko15), RS, H', ⟨Nat.le_refl _⟩, (MD HM).pick [6, 2, 3, 4, 0, 1, 5]⟩
  case round =>
   clear H' HM
   obtain ⟨x7_1, x22_1, x1073000_1, x1073001_1, x1073002_1, x1073003_1, x1073004_1, u1073002, u1073003, u1073004, rfl, HA, HK1, HM⟩ := hrel
   cases gk with
   | zero => exact absurd HA.out (by simp [impl_OpsDo.l0])
   | succ k1 =>
    have H := HA.out
    clear HA
    simp only [impl_OpsDo.l0] at H
    go_upto_if 23 with (fail)
    replace H := IT H; rcases H with ⟨c18, H⟩ | ⟨c18, H⟩
    ·have c18b0 : decide (x22_1 < (l1.length : Int)) = true := decide_eq_true c18
     clear c18
     first|rw [c18b0]|(simp only [i64_w, i32_w]; rw [c18b0])|skip
     replace H := GD H; obtain ⟨c19, H⟩ := H
     have c19b0 : decide (0 ≤ x22_1) = true := decide_eq_true c19
     clear c19
     replace H := GD H; obtain ⟨c20, H⟩ := H
     have c20b0 : decide (x22_1 < (l1.length : Int)) = true := decide_eq_true c20
     clear c20
     replace H := BN H; obtain ⟨⟨t1078, t1079, t1080, t1083, t1086, t1089, t1090, t1091, t1092⟩, A25, H⟩ := H
     have p1076 : 0 ≤ (x22_1 : Int) := of_decide_eq_true AS
     have q1076 : (x22_1 : Int) < (l1.length : Int) := of_decide_eq_true AS
     obtain ⟨ad1076, e1076, hx1076_0, hx1076_1, hx1076_2⟩ := at_T52 (HM.came HR1.out) x22_1 p1076 q1076
     cases e1076
     replace p1076 := eq_true p1076
     replace q1076 := eq_true q1076
     go_upto_if 34 with (first | ((with_reducible refine gN 9 rfl ?_); refine pB 9 52 [.int .i64 0, .string (⟨#[]⟩ : ByteArray), .string (⟨#[]⟩ : ByteArray)] HM rfl ?_; clear HM; intro gb1077 w21 HM) | ((with_reducible refine gS 9 rfl ?_); refine pS 7 9 0 [.int .i64 ((rd_T52 l1 x22_1).f0), .string ((rd_T52 l1 x22_1).f1), .string ((rd_T52 l1 x22_1).f2)] HM rfl rfl ?_; clear HM; intro w22 HM; obtain ⟨_,_,_,_,_,_,_,_,_,_⟩ := bk5 (HM.bx 6 rfl); obtain ⟨_,_,_,_,_,_⟩ := bk3 (HM.bx 7 rfl); obtain ⟨Xo27, ko27, rfl⟩ := HM.rdR 1 rfl; obtain ⟨Xo28, ko28, rfl⟩ := HM.rdR 2 rfl; obtain ⟨Xo29, ko29, rfl⟩ := HM.rdR 3 rfl) | ((with_reducible refine gC 19 rfl ?_); refine pC (some 29) rfl #[.agg #[.int .i64 x1073000_1, .int .i64 x1073001_1, .slice Xo27 x1073002_1.length ko27, .slice Xo28 x1073003_1.length ko28, .slice Xo29 x1073004_1.length ko29], .agg #[.int .i64 ((rd_T52 l1 x22_1).f0), .string ((rd_T52 l1 x22_1).f1), .string ((rd_T52 l1 x22_1).f2)]] rfl Tryz.func19 (impl_OpDo.calls k1 x1073000_1 x1073001_1 _ _ x1073002_1 _ _ x1073003_1 _ _ x1073004_1 ((rd_T52 l1 x22_1).f0) ((rd_T52 l1 x22_1).f1) ((rd_T52 l1 x22_1).f2) t1078 t1079 t1080 t1083 t1086 t1089 t1090 t1091 t1092 _ (HM.CR 1 rfl).2.2 (HM.CR 1 rfl).2.1 (HM.CR 2 rfl).2.2 (HM.CR 2 rfl).2.1 (HM.CR 3 rfl).2.2 (HM.CR 3 rfl).2.1 A25.out) ?_; rintro e w26 ⟨v1081, v1084, v1087, rfl, hR⟩; refine ⟨_, rfl, ?_⟩; replace HM := HM.call hR; clear hR) | ((with_reducible refine gN 10 rfl ?_); refine pB 10 26 [.int .i64 0, .int .i64 0, .slice none 0 0, .slice none 0 0, .slice none 0 0] HM rfl ?_; clear HM; intro gb1093 w30 HM) | ((with_reducible refine gN 11 rfl ?_); refine pB 11 54 [.bool false, .string (⟨#[]⟩ : ByteArray), .string (⟨#[]⟩ : ByteArray)] HM rfl ?_; clear HM; intro gb1094 w31 HM; obtain ⟨Xo32, ko32, rfl⟩ := HM.rdR 8 rfl; obtain ⟨Xo33, ko33, rfl⟩ := HM.rdR 9 rfl; obtain ⟨Xo34, ko34, rfl⟩ := HM.rdR 10 rfl) | ((with_reducible refine gS 10 rfl ?_); refine pS 11 10 0 [.int .i64 t1078, .int .i64 t1079, .slice Xo32 t1080.length ko32, .slice Xo33 t1083.length ko33, .slice Xo34 t1086.length ko34] HM rfl rfl ?_; clear HM; intro w35 HM) | ((with_reducible refine gS 11 rfl ?_); refine pS 12 11 0 [.bool t1089, .string t1090, .string t1091] HM rfl rfl ?_; clear HM; intro w36 HM))
     replace HM := nzM HM
     replace H := IB H
     rcases H with ⟨c37, H⟩ | ⟨c37, H⟩
     ·subst c37
      replace H := GD H; obtain ⟨c41, H⟩ := H
      have LMc41 := Aside0.mk c41
      clear c41
      have H' := Aside0.mk H
      clear H
      obtain ⟨_,_,_,_,_,_,_,_,_,_⟩ := bk5 (HM.bx 11 rfl)
      go_wp2_with (first | ((with_reducible refine gS 6 rfl ?_); refine pS 6 6 0 [.int .i64 t1078, .int .i64 t1079, .slice Xo32 t1080.length ko32, .slice Xo33 t1083.length ko33, .slice Xo34 t1086.length ko34] HM rfl rfl ?_; clear HM; intro w39 HM; obtain ⟨_,_,_,_,_,_⟩ := bk3 (HM.bx 12 rfl)) | ((with_reducible refine gN 38 rfl ?_); refine pL 38 k54 54 [(⟨t1089, t1090, t1091⟩ : S54)] [.bool t1089, .string t1090, .string t1091] (Reps.c3 (show Kd.M k54 _ _ _ (⟨t1089, t1090, t1091⟩ : S54) [.bool t1089, .string t1090, .string t1091] from (k54_mkM _ _ _ (⟨t1089, t1090, t1091⟩ : S54))) (Reps.none _ _)) HM rfl ?_; clear HM; intro v43 w42 HM; obtain ⟨Xv43, kv43, rfl⟩ := HM.rdR 13 rfl) | ((with_reducible refine gate_builtin (b := .append) (xs := #[.tmp 36, .tmp 38]) rfl ?_); refine pA 0 (.tmp 36) (.tmp 38) 31 54 k54 u7 x7_1 [(⟨t1089, t1090, t1091⟩ : S54)] Xv43 ([(⟨t1089, t1090, t1091⟩ : S54)].length) kv43 HM rfl Tryz.underlying31 info54 rfl (HM.CR 13 rfl).2.2 (by have h_ := LMc41.out; simp only [List.length_singleton]; omega) ?_; clear HM; intro v1096 w44 HM))
      go_roundg k1
      case measure => have := HK1.out; omega
      case rel => exact ⟨((x7_1 ++ [(⟨t1089, t1090, t1091⟩ : S54)])), (wrap64 (x22_1 + 1)), (t1078), (t1079), (t1080), (t1083), (t1086), (.slice Xo32 t1080.length ko32), (.slice Xo33 t1083.length ko33), (.slice Xo34 t1086.length ko34), RS, H', ⟨by have := HK1.out; omega⟩, (MD HM).pick [0, 8, 9, 10, 4, 5, 6]⟩
     ·subst c37
      simp only [Option.some.injEq, Prod.mk.injEq] at H
      obtain ⟨rfl, rfl, rfl, rfl, rfl, rfl⟩ := H
      obtain ⟨_,_,_,_,_,_,_,_,_,_⟩ := bk5 (HM.bx 6 rfl)
      go_wp2_with (first | ((with_reducible refine gS 4 rfl ?_); refine pS 5 4 0 [.int .i64 x1073000_1, .int .i64 x1073001_1, .slice Xo27 x1073002_1.length ko27, .slice Xo28 x1073003_1.length ko28, .slice Xo29 x1073004_1.length ko29] HM rfl rfl ?_; clear HM; intro w46 HM))
      refine bodyPost_ret (results_ct rfl _ _ gb1059 26 #[.int .i64 x1073000_1, .int .i64 x1073001_1, .slice Xo27 x1073002_1.length ko27, .slice Xo28 x1073003_1.length ko28, .slice Xo29 x1073004_1.length ko29] (0, 0) _ rfl (HM.bx 5 rfl) Tryz.underlying26 rfl (by kernel_rfl)) rfl ?_
      exact ⟨_, _, _, _, ER, (MD HM).pick [1, 2, 3, 0]⟩
    ·have c18b0 : decide (x22_1 < (l1.length : Int)) = false := decide_eq_false c18
     clear c18
     first|rw [c18b0]|(simp only [i64_w, i32_w]; rw [c18b0])|skip
     simp only [Option.some.injEq, Prod.mk.injEq] at H
     obtain ⟨rfl, rfl, rfl, rfl, rfl, rfl⟩ := H
     obtain ⟨_,_,_,_,_,_,_,_,_,_⟩ := bk5 (HM.bx 6 rfl)
     obtain ⟨Xo48, ko48, rfl⟩ := HM.rdR 1 rfl
     obtain ⟨Xo49, ko49, rfl⟩ := HM.rdR 2 rfl
     obtain ⟨Xo50, ko50, rfl⟩ := HM.rdR 3 rfl
     go_wp2_with (first | ((with_reducible refine gS 4 rfl ?_); refine pS 5 4 0 [.int .i64 x1073000_1, .int .i64 x1073001_1, .slice Xo48 x1073002_1.length ko48, .slice Xo49 x1073003_1.length ko49, .slice Xo50 x1073004_1.length ko50] HM rfl rfl ?_; clear HM; intro w51 HM))
     refine bodyPost_ret (results_ct rfl _ _ gb1059 26 #[.int .i64 x1073000_1, .int .i64 x1073001_1, .slice Xo48 x1073002_1.length ko48, .slice Xo49 x1073003_1.length ko49, .slice Xo50 x1073004_1.length ko50] (0, 0) _ rfl (HM.bx 5 rfl) Tryz.underlying26 rfl (by kernel_rfl)) rfl ?_
     exact ⟨_, _, _, _, ER, (MD HM).pick [1, 2, 3, 0]⟩
 ·subst c8
  simp only [Option.some.injEq, Prod.mk.injEq] at H
  obtain ⟨rfl, rfl, rfl, rfl, rfl, rfl⟩ := H
  go_wp2_with (first | ((with_reducible refine gS 4 rfl ?_); refine pS 1 4 0 [.int .i64 0, .int .i64 0, .slice none 0 0, .slice none 0 0, .slice none 0 0] HM rfl rfl ?_; clear HM; intro w52 HM; replace HM := HM.nl k60 60; replace HM := HM.nl k60 60; replace HM := HM.nl (Kd.int .i64) 3; replace HM := HM.nl k54 54))
  refine bodyPost_ret (results_ct rfl _ _ gb1059 26 #[.int .i64 0, .int .i64 0, .slice none 0 0, .slice none 0 0, .slice none 0 0] (0, 0) _ rfl (HM.bx 1 rfl) Tryz.underlying26 rfl (by kernel_rfl)) rfl ?_
  exact ⟨_, _, _, _, ER, (MD HM).pick [2, 3, 4, 5]⟩
end Go.Proofs.YtnlnifpehndacaaGreat.G

namespace Go.Proofs.YtnlnifpehndacaaGreat.G
open Go.RowKit Go.Proofs.YtnlnifpehndacaaGreatW.PrintWords Go.Proofs.YtnlnifpehndacaaGreatW.PrintLast Go.Proofs.YtnlnifpehndacaaGreatW.PrintMore Go.Proofs.YtnlnifpehndacaaGreat.Sh
attribute [local go_sem] max2_int min2_int max_two min_two max_three min_three max_four min_four
set_option linter.unusedVariables false
set_option linter.unusedSimpArgs false
attribute [local go_sem high] eqA60
def slices_Equal_impl_Item_impl_Item.l0 : Nat → List (S60) → List (S60) → Int → Int → Option (Bool)
 | 0, _, _, _, _ => none
 | k + 1, x0, x1, x12, x13 => if x13 < x12 then (if 0 ≤ x13 then (if x13 < (x0.length : Int) then (if x13 < (x1.length : Int) then (if (!((((rd_T60 x0 x13).f0).toList) == (((rd_T60 x1 x13).f0).toList)) || (!((((rd_T60 x0 x13).f1).toList) == (((rd_T60 x1 x13).f1).toList)) || (!(((rd_T60 x0 x13).f2) == ((rd_T60 x1 x13).f2))))) = true then (some false) else (slices_Equal_impl_Item_impl_Item.l0 k x0 x1 x12 (wrap64 (x13 + 1)))) else (none)) else (none)) else (none)) else (some true)
def slices_Equal_impl_Item_impl_Item.f (k : Nat) (l0 : List (S60)) (l1 : List (S60)) : Option (Bool) := if (l0.length : Int) = (l1.length : Int) then (slices_Equal_impl_Item_impl_Item.l0 k l0 l1 (l0.length : Int) 0) else (some false)
theorem slices_Equal_impl_Item_impl_Item.calls (k : Nat) (A0 : Option Addr) (c0 : Nat) (l0 : List (S60)) (A1 : Option Addr) (c1 : Nat) (l1 : List (S60)) (r : Bool) (w : World) (hr0 : Kd.C k60 w A0 l0.length l0) (hc0 : l0.length ≤ c0) (hr1 : Kd.C k60 w A1 l1.length l1) (hc1 : l1.length ≤ c1) (h : slices_Equal_impl_Item_impl_Item.f k l0 l1 = some r) :
  Calls Tryz.prog 21 #[.slice A0 l0.length c0, .slice A1 l1.length c1] w fun e w' => e = .returned (.bool r) ∧ Drawn0 w w' := by
 have hu60 := Tryz.underlying60
 have HR0 := Aside0.mk hr0
 have HC0 := Aside0.mk hc0
 clear hr0 hc0
 have HR1 := Aside0.mk hr1
 have HC1 := Aside0.mk hc1
 clear hr1 hc1
 have H : (if (l0.length : Int) = (l1.length : Int) then (slices_Equal_impl_Item_impl_Item.l0 k l0 l1 (l0.length : Int) 0) else (some false)) = some r := h
 clear h
 by_cases c3 : (l0.length : Int) = (l1.length : Int)
 ·rw [if_pos c3] at H
  have c3b0 : ((l0.length : Int) == (l1.length : Int)) = true := beq_iff_eq.mpr c3
  have c3b1 : ((l0.length : Int) != (l1.length : Int)) = false := bne_eq_false_iff_eq.mpr c3
  have c3b2 : (l0.length == l1.length) = true := by first | simpa using c3 | (simp at c3 ⊢; omega)
  clear c3
  have H' := Aside0.mk H
  clear H
  go_enter Tryz.func21, Tryz.ntmps21
  go_wp2
  repeat (go_quiet (fail); try go_wp2)
  go_loopg [13] k (fun kq v13 w' => ∃ (x13_1 : Int), v13 = .int .i64 x13_1 ∧ Aside0 (slices_Equal_impl_Item_impl_Item.l0 kq l0 l1 (l0.length : Int) x13_1 = some r) ∧ Aside0 (kq ≤ k) ∧ Drawn0 w w')
  case atStart => exact ⟨(0), RS, H', ⟨Nat.le_refl _⟩, DR⟩
  case round =>
   clear H'
   try clear c1
   try clear c2
   try clear p2
   try clear c3
   try clear c3b0
   try clear c3b1
   try clear c3b2
   obtain ⟨x13_1, rfl, HA, HK1, ⟨m1, rfl⟩⟩ := hrel
   cases gk with
   | zero => exact absurd HA.out (by simp [slices_Equal_impl_Item_impl_Item.l0])
   | succ k1 =>
    have H := HA.out
    clear HA
    simp only [slices_Equal_impl_Item_impl_Item.l0] at H
    by_cases c4 : x13_1 < (l0.length : Int)
    ·rw [if_pos c4] at H
     have c4b0 : decide (x13_1 < (l0.length : Int)) = true := decide_eq_true c4
     clear c4
     by_cases c5 : 0 ≤ x13_1
     ·rw [if_pos c5] at H
      have c5b0 : decide (0 ≤ x13_1) = true := decide_eq_true c5
      clear c5
      by_cases c6 : x13_1 < (l0.length : Int)
      ·rw [if_pos c6] at H
       have c6b0 : decide (x13_1 < (l0.length : Int)) = true := decide_eq_true c6
       clear c6
       by_cases c7 : x13_1 < (l1.length : Int)
       ·rw [if_pos c7] at H
        have c7b0 : decide (x13_1 < (l1.length : Int)) = true := decide_eq_true c7
        clear c7
        by_cases c8 : (!((((rd_T60 l0 x13_1).f0).toList) == (((rd_T60 l1 x13_1).f0).toList)) || (!((((rd_T60 l0 x13_1).f1).toList) == (((rd_T60 l1 x13_1).f1).toList)) || (!(((rd_T60 l0 x13_1).f2) == ((rd_T60 l1 x13_1).f2))))) = true
        ·rw [if_pos c8] at H
         have c8b0 : (!((((rd_T60 l0 x13_1).f0).toList) == (((rd_T60 l1 x13_1).f0).toList)) || (!((((rd_T60 l0 x13_1).f1).toList) == (((rd_T60 l1 x13_1).f1).toList)) || (!(((rd_T60 l0 x13_1).f2) == ((rd_T60 l1 x13_1).f2))))) = true := c8
         clear c8
         obtain rfl := Option.some.inj H
         have p1138 : 0 ≤ (x13_1 : Int) := of_decide_eq_true AS
         have q1138 : x13_1 < (l0.length : Int) := of_decide_eq_true AS
         obtain ⟨ad1138, e1138, hx1138_0, hx1138_1, hx1138_2⟩ := at_T60 HR0.out x13_1 p1138 q1138
         cases e1138
         replace p1138 := eq_true p1138
         replace q1138 := eq_true q1138
         have p1139 : 0 ≤ (x13_1 : Int) := of_decide_eq_true AS
         have q1139 : x13_1 < (l1.length : Int) := of_decide_eq_true AS
         obtain ⟨ad1139, e1139, hx1139_0, hx1139_1, hx1139_2⟩ := at_T60 HR1.out x13_1 p1139 q1139
         cases e1139
         replace p1139 := eq_true p1139
         replace q1139 := eq_true q1139
         go_wp2
         repeat (go_quiet (fail); try go_wp2)
         go_ret
         exact ⟨by first | rfl | (simp; done) | (simp [*]; done), DR⟩
        ·rw [if_neg c8] at H
         have c8b0 : (!((((rd_T60 l0 x13_1).f0).toList) == (((rd_T60 l1 x13_1).f0).toList)) || (!((((rd_T60 l0 x13_1).f1).toList) == (((rd_T60 l1 x13_1).f1).toList)) || (!(((rd_T60 l0 x13_1).f2) == ((rd_T60 l1 x13_1).f2))))) = false := by simpa using c8
         clear c8
         have H' := Aside0.mk H
         clear H
         have p1138 : 0 ≤ (x13_1 : Int) := of_decide_eq_true AS
         have q1138 : x13_1 < (l0.length : Int) := of_decide_eq_true AS
         obtain ⟨ad1138, e1138, hx1138_0, hx1138_1, hx1138_2⟩ := at_T60 HR0.out x13_1 p1138 q1138
         cases e1138
         replace p1138 := eq_true p1138
         replace q1138 := eq_true q1138
         have p1139 : 0 ≤ (x13_1 : Int) := of_decide_eq_true AS
         have q1139 : x13_1 < (l1.length : Int) := of_decide_eq_true AS
         obtain ⟨ad1139, e1139, hx1139_0, hx1139_1, hx1139_2⟩ := at_T60 HR1.out x13_1 p1139 q1139
         cases e1139
         replace p1139 := eq_true p1139
         replace q1139 := eq_true q1139
         go_wp2
         repeat (go_quiet (fail); try go_wp2)
         go_roundg k1
         case measure => have := HK1.out; omega
         case rel => exact ⟨(wrap64 (x13_1 + 1)), RS, H', ⟨by have := HK1.out; omega⟩, DR⟩
       ·rw [if_neg c7] at H
        exact absurd H (by simp)
      ·rw [if_neg c6] at H
       exact absurd H (by simp)
     ·rw [if_neg c5] at H
      exact absurd H (by simp)
    ·rw [if_neg c4] at H
     have c4b0 : decide (x13_1 < (l0.length : Int)) = false := decide_eq_false c4
     clear c4
     obtain rfl := Option.some.inj H
     go_wp2
     repeat (go_quiet (fail); try go_wp2)
     go_ret
     exact ⟨by first | rfl | (simp; done) | (simp [*]; done), DR⟩
 ·rw [if_neg c3] at H
  have c3b0 : ((l0.length : Int) == (l1.length : Int)) = false := beq_eq_false_iff_ne.mpr c3
  have c3b1 : ((l0.length : Int) != (l1.length : Int)) = true := bne_iff_ne.mpr c3
  have c3b2 : (l0.length == l1.length) = false := by first | simpa using c3 | (simp at c3 ⊢; omega)
  obtain rfl := Option.some.inj H
  go_enter Tryz.func21, Tryz.ntmps21
  go_wp2
  repeat (go_quiet (fail); try go_wp2)
  go_ret
  exact ⟨by first | rfl | (simp; done) | (simp [*]; done), DR⟩
end Go.Proofs.YtnlnifpehndacaaGreat.G

namespace Go.Proofs.YtnlnifpehndacaaGreat.G
open Go.RowKit Go.Proofs.YtnlnifpehndacaaGreatW.PrintWords Go.Proofs.YtnlnifpehndacaaGreatW.PrintLast Go.Proofs.YtnlnifpehndacaaGreatW.PrintMore Go.Proofs.YtnlnifpehndacaaGreat.Sh
attribute [local go_sem] max2_int min2_int max_two min_two max_three min_three max_four min_four
set_option linter.unusedVariables false
set_option linter.unusedSimpArgs false
def slices_Equal_int_int.l0 : Nat → List Int → List Int → Int → Int → Option (Bool)
 | 0, _, _, _, _ => none
 | k + 1, x0, x1, x12, x13 => if x13 < x12 then (if 0 ≤ x13 then (if x13 < (x0.length : Int) then (if x13 < (x1.length : Int) then (if (rd x0 x13) = (rd x1 x13) then (slices_Equal_int_int.l0 k x0 x1 x12 (wrap64 (x13 + 1))) else (some false)) else (none)) else (none)) else (none)) else (some true)
def slices_Equal_int_int.f (k : Nat) (l0 : List Int) (l1 : List Int) : Option (Bool) := if (l0.length : Int) = (l1.length : Int) then (slices_Equal_int_int.l0 k l0 l1 (l0.length : Int) 0) else (some false)
theorem slices_Equal_int_int.calls (k : Nat) (A0 : Option Addr) (c0 : Nat) (l0 : List Int) (A1 : Option Addr) (c1 : Nat) (l1 : List Int) (r : Bool) (w : World) (hr0 : Kd.C (Kd.int .i64) w A0 l0.length l0) (hc0 : l0.length ≤ c0) (hr1 : Kd.C (Kd.int .i64) w A1 l1.length l1) (hc1 : l1.length ≤ c1) (h : slices_Equal_int_int.f k l0 l1 = some r) :
  Calls Tryz.prog 22 #[.slice A0 l0.length c0, .slice A1 l1.length c1] w fun e w' => e = .returned (.bool r) ∧ Drawn0 w w' := by
 have HR0 := Aside0.mk hr0
 have HC0 := Aside0.mk hc0
 clear hr0 hc0
 have HR1 := Aside0.mk hr1
 have HC1 := Aside0.mk hc1
 clear hr1 hc1
 have H : (if (l0.length : Int) = (l1.length : Int) then (slices_Equal_int_int.l0 k l0 l1 (l0.length : Int) 0) else (some false)) = some r := h
 clear h
 by_cases c3 : (l0.length : Int) = (l1.length : Int)
 ·rw [if_pos c3] at H
  have c3b0 : ((l0.length : Int) == (l1.length : Int)) = true := beq_iff_eq.mpr c3
  have c3b1 : ((l0.length : Int) != (l1.length : Int)) = false := bne_eq_false_iff_eq.mpr c3
  have c3b2 : (l0.length == l1.length) = true := by first | simpa using c3 | (simp at c3 ⊢; omega)
  clear c3
  have H' := Aside0.mk H
  clear H
  go_enter Tryz.func22, Tryz.ntmps22
  go_wp2
  repeat (go_quiet (fail); try go_wp2)
  go_loopg [13] k (fun kq v13 w' => ∃ (x13_1 : Int), v13 = .int .i64 x13_1 ∧ Aside0 (slices_Equal_int_int.l0 kq l0 l1 (l0.length : Int) x13_1 = some r) ∧ Aside0 (kq ≤ k) ∧ Drawn0 w w')
  case atStart => exact ⟨(0), RS, H', ⟨Nat.le_refl _⟩, DR⟩
  case round =>
   clear H'
   try clear c1
   try clear c2
   try clear p2
   try clear c3
   try clear c3b0
   try clear c3b1
   try clear c3b2
   obtain ⟨x13_1, rfl, HA, HK1, ⟨m1, rfl⟩⟩ := hrel
   cases gk with
   | zero => exact absurd HA.out (by simp [slices_Equal_int_int.l0])
   | succ k1 =>
    have H := HA.out
    clear HA
    simp only [slices_Equal_int_int.l0] at H
    by_cases c4 : x13_1 < (l0.length : Int)
    ·rw [if_pos c4] at H
     have c4b0 : decide (x13_1 < (l0.length : Int)) = true := decide_eq_true c4
     clear c4
     by_cases c5 : 0 ≤ x13_1
     ·rw [if_pos c5] at H
      have c5b0 : decide (0 ≤ x13_1) = true := decide_eq_true c5
      clear c5
      by_cases c6 : x13_1 < (l0.length : Int)
      ·rw [if_pos c6] at H
       have c6b0 : decide (x13_1 < (l0.length : Int)) = true := decide_eq_true c6
       clear c6
       by_cases c7 : x13_1 < (l1.length : Int)
       ·rw [if_pos c7] at H
        have c7b0 : decide (x13_1 < (l1.length : Int)) = true := decide_eq_true c7
        clear c7
        by_cases c8 : (rd l0 x13_1) = (rd l1 x13_1)
        ·rw [if_pos c8] at H
         have c8b0 : ((rd l0 x13_1) == (rd l1 x13_1)) = true := beq_iff_eq.mpr c8
         have c8b1 : ((rd l0 x13_1) != (rd l1 x13_1)) = false := bne_eq_false_iff_eq.mpr c8
         clear c8
         have H' := Aside0.mk H
         clear H
         have p1142 : 0 ≤ (x13_1 : Int) := of_decide_eq_true AS
         have q1142 : x13_1 < (l0.length : Int) := of_decide_eq_true AS
         obtain ⟨ad1142, e1142, hx1142_0⟩ := Kd.at_int HR0.out x13_1 p1142 q1142
         cases e1142
         replace p1142 := eq_true p1142
         replace q1142 := eq_true q1142
         have p1143 : 0 ≤ (x13_1 : Int) := of_decide_eq_true AS
         have q1143 : x13_1 < (l1.length : Int) := of_decide_eq_true AS
         obtain ⟨ad1143, e1143, hx1143_0⟩ := Kd.at_int HR1.out x13_1 p1143 q1143
         cases e1143
         replace p1143 := eq_true p1143
         replace q1143 := eq_true q1143
         go_wp2
         repeat (go_quiet (fail); try go_wp2)
         go_roundg k1
         case measure => have := HK1.out; omega
         case rel => exact ⟨(wrap64 (x13_1 + 1)), RS, H', ⟨by have := HK1.out; omega⟩, DR⟩
        ·rw [if_neg c8] at H
         have c8b0 : ((rd l0 x13_1) == (rd l1 x13_1)) = false := beq_eq_false_iff_ne.mpr c8
         have c8b1 : ((rd l0 x13_1) != (rd l1 x13_1)) = true := bne_iff_ne.mpr c8
         obtain rfl := Option.some.inj H
         have p1142 : 0 ≤ (x13_1 : Int) := of_decide_eq_true AS
         have q1142 : x13_1 < (l0.length : Int) := of_decide_eq_true AS
         obtain ⟨ad1142, e1142, hx1142_0⟩ := Kd.at_int HR0.out x13_1 p1142 q1142
         cases e1142
         replace p1142 := eq_true p1142
         replace q1142 := eq_true q1142
         have p1143 : 0 ≤ (x13_1 : Int) := of_decide_eq_true AS
         have q1143 : x13_1 < (l1.length : Int) := of_decide_eq_true AS
         obtain ⟨ad1143, e1143, hx1143_0⟩ := Kd.at_int HR1.out x13_1 p1143 q1143
         cases e1143
         replace p1143 := eq_true p1143
         replace q1143 := eq_true q1143
         go_wp2
         repeat (go_quiet (fail); try go_wp2)
         go_ret
         exact ⟨by first | rfl | (simp; done) | (simp [*]; done), DR⟩
       ·rw [if_neg c7] at H
        exact absurd H (by simp)
      ·rw [if_neg c6] at H
       exact absurd H (by simp)
     ·rw [if_neg c5] at H
      exact absurd H (by simp)
    ·rw [if_neg c4] at H
     have c4b0 : decide (x13_1 < (l0.length : Int)) = false := decide_eq_false c4
     clear c4
     obtain rfl := Option.some.inj H
     go_wp2
     repeat (go_quiet (fail); try go_wp2)
     go_ret
     exact ⟨by first | rfl | (simp; done) | (simp [*]; done), DR⟩
 ·rw [if_neg c3] at H
  have c3b0 : ((l0.length : Int) == (l1.length : Int)) = false := beq_eq_false_iff_ne.mpr c3
  have c3b1 : ((l0.length : Int) != (l1.length : Int)) = true := bne_iff_ne.mpr c3
  have c3b2 : (l0.length == l1.length) = false := by first | simpa using c3 | (simp at c3 ⊢; omega)
  obtain rfl := Option.some.inj H
  go_enter Tryz.func22, Tryz.ntmps22
  go_wp2
  repeat (go_quiet (fail); try go_wp2)
  go_ret
  exact ⟨by first | rfl | (simp; done) | (simp [*]; done), DR⟩
end Go.Proofs.YtnlnifpehndacaaGreat.G
