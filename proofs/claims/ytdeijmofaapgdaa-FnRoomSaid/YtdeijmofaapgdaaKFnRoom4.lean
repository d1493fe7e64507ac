/- Part 4 of the claim FnRoom, merged by pack.py (this session's program) out of: the print's words, cut to what is needed; texts that gen.py printed (it runs the kit's print in place); texts of this session. -/
import Derived.Test.YtdeijmofaapgdaaKFnRoom1
import Derived.Test.YtdeijmofaapgdaaKFnRoom2
import Derived.Test.YtdeijmofaapgdaaKFnRoom3
namespace Go.Proofs.Ytdeijmofaapgdaa.Mm
end Go.Proofs.Ytdeijmofaapgdaa.Mm
namespace Go.Proofs.Ytdeijmofaapgdaa.Sh
end Go.Proofs.Ytdeijmofaapgdaa.Sh
namespace Go.Proofs.Ytdeijmofaapgdaa.G
open Go.RowKit Go.Proofs.YtdeijmofaapgdaaW.PrintWords Go.Proofs.YtdeijmofaapgdaaW.PrintLast Go.Proofs.YtdeijmofaapgdaaW.PrintMore Go.Proofs.Ytdeijmofaapgdaa.Sh
attribute [local go_sem] max2_int min2_int max_two min_two max_three min_three max_four min_four
set_option linter.unusedVariables false
set_option linter.unusedSimpArgs false
open Go.Proofs.Ytdeijmofaapgdaa.Mm
def spec_Evict.j0 : Nat → Bool → Int → Int → List (S95) → List (S95) → List Int → Option (Int × Int × (List (S95)) × (List (S95)) × List Int × ByteArray × Bool)
 | 0, _, _, _, _, _, _ => none
 | k + 1, x23, x301000, x301001, x301002, x301003, x301004 => if x23 = true then ((spec_EvictSmall.f k x301000 x301001 x301002 x301003 x301004).bind fun bt303 => (if bt303.2.2.2.2.2.2 = true then (some (bt303.1, bt303.2.1, bt303.2.2.1, bt303.2.2.2.1, bt303.2.2.2.2.1, bt303.2.2.2.2.2.1, true)) else ((spec_EvictMain.f k bt303.1 bt303.2.1 bt303.2.2.1 bt303.2.2.2.1 bt303.2.2.2.2.1).bind fun bt317 => (some (bt317.1, bt317.2.1, bt317.2.2.1, bt317.2.2.2.1, bt317.2.2.2.2.1, bt317.2.2.2.2.2.1, bt317.2.2.2.2.2.2))))) else ((spec_EvictMain.f k x301000 x301001 x301002 x301003 x301004).bind fun bt330 => (some (bt330.1, bt330.2.1, bt330.2.2.1, bt330.2.2.2.1, bt330.2.2.2.2.1, bt330.2.2.2.2.2.1, bt330.2.2.2.2.2.2)))
def spec_Evict.f (k : Nat) (a0_0 : Int) (a0_1 : Int) (l0_2 : List (S95)) (l0_3 : List (S95)) (l0_4 : List Int) : Option (Int × Int × (List (S95)) × (List (S95)) × List Int × ByteArray × Bool) := (spec_ThreeOk.f k a0_0 a0_1 l0_2 l0_3 l0_4).bind fun t302 => (if t302 = true then (if (l0_2.length : Int) ≥ a0_1 then (spec_Evict.j0 k true a0_0 a0_1 l0_2 l0_3 l0_4) else (spec_Evict.j0 k ((l0_3.length : Int) == 0) a0_0 a0_1 l0_2 l0_3 l0_4)) else (some (0, 0, ([] : List (S95)), ([] : List (S95)), ([] : List Int), (⟨#[]⟩ : ByteArray), false)))
theorem spec_Evict.mono_l : ∀ k, (∀ y0 y1 y2 y3 y4 y5, LeO (spec_Evict.j0 k y0 y1 y2 y3 y4 y5) (spec_Evict.j0 (k + 1) y0 y1 y2 y3 y4 y5))
 | 0 => fun _ _ _ _ _ _ r h => by simp [spec_Evict.j0] at h
 | k + 1 => by
  have ih0 := spec_Evict.mono_l k
  ·intro y0 y1 y2 y3 y4 y5
   unfold spec_Evict.j0
   repeat' first | (with_reducible first | exact ih0 _ _ _ _ _ _ | exact spec_EvictMain.mono _ _ _ _ _ _ | exact spec_EvictSmall.mono _ _ _ _ _ _ | exact spec_ThreeOk.mono _ _ _ _ _ _ | exact LeO.refl _ | exact LeO.none _ | refine LeO.ite ?_ ?_ | refine LeO.bind ?_ (fun _ => ?_)) | exact ih0 _ _ _ _ _ _ | exact spec_EvictMain.mono _ _ _ _ _ _ | exact spec_EvictSmall.mono _ _ _ _ _ _ | exact spec_ThreeOk.mono _ _ _ _ _ _ | exact LeO.none _ | refine LeO.ite ?_ ?_ | refine LeO.bind ?_ (fun _ => ?_)
theorem spec_Evict.mono : ∀ a0 a1 a2 a3 a4 k, LeO (spec_Evict.f k a0 a1 a2 a3 a4) (spec_Evict.f (k + 1) a0 a1 a2 a3 a4) := by
 intro a0 a1 a2 a3 a4 k
 have ih0 := spec_Evict.mono_l k
 unfold spec_Evict.f
 repeat' first | (with_reducible first | exact ih0 _ _ _ _ _ _ | exact spec_EvictMain.mono _ _ _ _ _ _ | exact spec_EvictSmall.mono _ _ _ _ _ _ | exact spec_ThreeOk.mono _ _ _ _ _ _ | exact LeO.refl _ | exact LeO.none _ | refine LeO.ite ?_ ?_ | refine LeO.bind ?_ (fun _ => ?_)) | exact ih0 _ _ _ _ _ _ | exact spec_EvictMain.mono _ _ _ _ _ _ | exact spec_EvictSmall.mono _ _ _ _ _ _ | exact spec_ThreeOk.mono _ _ _ _ _ _ | exact LeO.none _ | refine LeO.ite ?_ ?_ | refine LeO.bind ?_ (fun _ => ?_)
set_option maxHeartbeats 8000000 in
set_option maxRecDepth 100000 in
theorem spec_Evict.calls (k : Nat) (a0_0 : Int) (a0_1 : Int) (A0_2 : Option Addr) (c0_2 : Nat) (l0_2 : List (S95)) (A0_3 : Option Addr) (c0_3 : Nat) (l0_3 : List (S95)) (A0_4 : Option Addr) (c0_4 : Nat) (l0_4 : List Int) (r1 : Int) (r2 : Int) (r3 : List (S95)) (r4 : List (S95)) (r5 : List Int) (r6 : ByteArray) (r7 : Bool) (w : World) (hr0_2 : Kd.C k95 w A0_2 l0_2.length l0_2) (hc0_2 : l0_2.length ≤ c0_2) (hr0_3 : Kd.C k95 w A0_3 l0_3.length l0_3) (hc0_3 : l0_3.length ≤ c0_3) (hr0_4 : Kd.C (Kd.int .i64) w A0_4 l0_4.length l0_4) (hc0_4 : l0_4.length ≤ c0_4) (h : spec_Evict.f k a0_0 a0_1 l0_2 l0_3 l0_4 = some (r1, r2, r3, r4, r5, r6, r7)) :
  Calls Try.prog 70 #[.agg #[.int .i64 a0_0, .int .i64 a0_1, .slice A0_2 l0_2.length c0_2, .slice A0_3 l0_3.length c0_3, .slice A0_4 l0_4.length c0_4]] w fun e w' => ∃ v2_ v3_ v4_ : Value, e = .returned (.tuple #[.agg #[.int .i64 r1, .int .i64 r2, v2_, v3_, v4_], .string r6, .bool r7]) ∧ Mem w [] w' [rowR k95 95 v2_ r3, rowR k95 95 v3_ r4, row (Kd.int .i64) 3 v4_ r5] := by
 have hu32 := Try.underlying32
 have HR0_2 := Aside0.mk hr0_2
 have HC0_2 := Aside0.mk hc0_2
 clear hr0_2 hc0_2
 have HR0_3 := Aside0.mk hr0_3
 have HC0_3 := Aside0.mk hc0_3
 clear hr0_3 hc0_3
 have HR0_4 := Aside0.mk hr0_4
 have HC0_4 := Aside0.mk hc0_4
 clear hr0_4 hc0_4
 have HM := Mem.nil w
 have H := h
 clear h
 unfold spec_Evict.f at H
 go_enter Try.func70, Try.ntmps70
 replace H := BN H; obtain ⟨t302, A5, H⟩ := H
 go_upto_if 10 with (first | ((with_reducible refine gate_dst (N := 1) rfl ?_); refine pB 1 32 [.int .i64 a0_0, .int .i64 a0_1, .slice A0_2 l0_2.length c0_2, .slice A0_3 l0_3.length c0_3, .slice A0_4 l0_4.length c0_4] HM rfl ?_; clear HM; intro gb300 w2 HM) | ((with_reducible refine gate_dst (N := 2) rfl ?_); refine pB 2 32 [.int .i64 0, .int .i64 0, .slice none 0 0, .slice none 0 0, .slice none 0 0] HM rfl ?_; clear HM; intro gb301 w3 HM; obtain ⟨hcz4_0, hcz4_1, hcz4_2, hcz4_3, hcz4_4, hfz4_0, hfz4_1, hfz4_2, hfz4_3, hfz4_4⟩ := bk5 (HM.bx 0 rfl)) | ((with_reducible refine gate_callee (f := 32) rfl ?_); refine pC (some 9) rfl #[.agg #[.int .i64 a0_0, .int .i64 a0_1, .slice A0_2 l0_2.length c0_2, .slice A0_3 l0_3.length c0_3, .slice A0_4 l0_4.length c0_4]] rfl Try.func32 (spec_ThreeOk.calls k a0_0 a0_1 _ _ l0_2 _ _ l0_3 _ _ l0_4 t302 _ (HM.came HR0_2.out) HC0_2.out (HM.came HR0_3.out) HC0_3.out (HM.came HR0_4.out) HC0_4.out A5.out) ?_; rintro e w6 ⟨rfl, hR⟩; refine ⟨_, rfl, ?_⟩; replace HM := HM.call hR; clear hR))
 replace HM := nzM HM
 replace H := IB H
 rcases H with ⟨c7, H⟩ | ⟨c7, H⟩
 ·subst c7
  have HC8 := Aside0.mk H
  clear H
  go_upto_region 3 with (fail)
  go_cut [23] (fun v23 wc => ∃ (kq : Nat) (x23_7 : Bool), v23 = .bool x23_7 ∧ Aside0 (spec_Evict.j0 kq x23_7 a0_0 a0_1 l0_2 l0_3 l0_4 = some (r1, r2, r3, r4, r5, r6, r7)) ∧ Aside0 (kq ≤ k) ∧ Mem w [] wc [box 32 gb300 [.int .i64 a0_0, .int .i64 a0_1, .slice A0_2 l0_2.length c0_2, .slice A0_3 l0_3.length c0_3, .slice A0_4 l0_4.length c0_4], box 32 gb301 [.int .i64 0, .int .i64 0, .slice none 0 0, .slice none 0 0, .slice none 0 0]])
  case first =>
   have H := HC8.out
   clear HC8
   replace H := IT H; rcases H with ⟨c10, H⟩ | ⟨c10, H⟩
   ·have c10b0 : decide (a0_1 ≤ (l0_2.length : Int)) = true := decide_eq_true c10
    clear c10
    have H' := Aside0.mk H
    clear H
    obtain ⟨hcz9_0, hcz9_1, hcz9_2, hcz9_3, hcz9_4, hfz9_0, hfz9_1, hfz9_2, hfz9_3, hfz9_4⟩ := bk5 (HM.bx 0 rfl)
    go_wp2
    go_meet
    case rel => exact ⟨_, (true), RS, H', ⟨by first | omega | exact Nat.le_refl _⟩, (MD HM).pick [0, 1]⟩
   ·have c10b0 : decide (a0_1 ≤ (l0_2.length : Int)) = false := decide_eq_false c10
    clear c10
    have H' := Aside0.mk H
    clear H
    obtain ⟨hcz9_0, hcz9_1, hcz9_2, hcz9_3, hcz9_4, hfz9_0, hfz9_1, hfz9_2, hfz9_3, hfz9_4⟩ := bk5 (HM.bx 0 rfl)
    go_wp2
    go_meet
    case rel => exact ⟨_, (((l0_3.length : Int) == 0)), RS, H', ⟨by first | omega | exact Nat.le_refl _⟩, (MD HM).pick [0, 1]⟩
  case rest =>
   clear HC8 HM
   obtain ⟨kq, x23_7, rfl, HA, HJ7, HM⟩ := hcut
   cases kq with
   | zero => exact absurd HA.out (by simp [spec_Evict.j0])
   | succ kj7 =>
    have H := HA.out
    clear HA
    simp only [spec_Evict.j0] at H
    go_upto_if 23 with (fail)
    replace H := IB H
    rcases H with ⟨c11, H⟩ | ⟨c11, H⟩
    ·subst c11
     replace H := BN H; obtain ⟨⟨t303, t304, t305, t308, t311, t314, t315⟩, A13, H⟩ := H
     obtain ⟨hcz12_0, hcz12_1, hcz12_2, hcz12_3, hcz12_4, hfz12_0, hfz12_1, hfz12_2, hfz12_3, hfz12_4⟩ := bk5 (HM.bx 0 rfl)
     go_upto_if 30 with (first | ((with_reducible refine gate_callee (f := 92) rfl ?_); refine pC (some 26) rfl #[.agg #[.int .i64 a0_0, .int .i64 a0_1, .slice A0_2 l0_2.length c0_2, .slice A0_3 l0_3.length c0_3, .slice A0_4 l0_4.length c0_4]] rfl Try.func92 (spec_EvictSmall.calls kj7 a0_0 a0_1 _ _ l0_2 _ _ l0_3 _ _ l0_4 t303 t304 t305 t308 t311 t314 t315 _ (HM.came HR0_2.out) HC0_2.out (HM.came HR0_3.out) HC0_3.out (HM.came HR0_4.out) HC0_4.out A13.out) ?_; rintro e w14 ⟨v306, v309, v312, rfl, hR⟩; refine ⟨_, rfl, ?_⟩; replace HM := HM.call hR; clear hR) | ((with_reducible refine gate_dst (N := 5) rfl ?_); refine pB 5 32 [.int .i64 0, .int .i64 0, .slice none 0 0, .slice none 0 0, .slice none 0 0] HM rfl ?_; clear HM; intro gb316 w15 HM; obtain ⟨Xo16, ko16, eo16⟩ := HM.rdR 2 rfl; subst eo16; obtain ⟨Xo17, ko17, eo17⟩ := HM.rdR 3 rfl; subst eo17; obtain ⟨Xo18, ko18, eo18⟩ := HM.rd 4 rfl; subst eo18) | ((with_reducible refine gate_st (p := 5) rfl ?_); refine pS 5 5 0 [.int .i64 t303, .int .i64 t304, .slice Xo16 t305.length ko16, .slice Xo17 t308.length ko17, .slice Xo18 t311.length ko18] HM rfl rfl ?_; clear HM; intro w19 HM))
     replace HM := nzM HM
     replace H := IB H
     rcases H with ⟨c20, H⟩ | ⟨c20, H⟩
     ·subst c20
      simp only [Option.some.injEq, Prod.mk.injEq] at H
      obtain ⟨rfl, rfl, rfl, rfl, rfl, rfl, rfl⟩ := H
      obtain ⟨hcz21_0, hcz21_1, hcz21_2, hcz21_3, hcz21_4, hfz21_0, hfz21_1, hfz21_2, hfz21_3, hfz21_4⟩ := bk5 (HM.bx 5 rfl)
      go_wp2_with (first | ((with_reducible refine gate_st (p := 2) rfl ?_); refine pS 1 2 0 [.int .i64 t303, .int .i64 t304, .slice Xo16 t305.length ko16, .slice Xo17 t308.length ko17, .slice Xo18 t311.length ko18] HM rfl rfl ?_; clear HM; intro w22 HM))
      refine bodyPost_ret (results_ctt rfl _ _ gb301 32 #[.int .i64 t303, .int .i64 t304, .slice Xo16 t305.length ko16, .slice Xo17 t308.length ko17, .slice Xo18 t311.length ko18] (0, 0) _ rfl (HM.bx 1 rfl) Try.underlying32 rfl (by kernel_rfl)) rfl ?_
      exact ⟨_, _, _, ER, (MD HM).pick [2, 3, 4]⟩
     ·subst c20
      replace H := BN H; obtain ⟨⟨t317, t318, t319, t322, t325, t328, t329⟩, A24, H⟩ := H
      simp only [Option.some.injEq, Prod.mk.injEq] at H
      obtain ⟨rfl, rfl, rfl, rfl, rfl, rfl, rfl⟩ := H
      obtain ⟨hcz23_0, hcz23_1, hcz23_2, hcz23_3, hcz23_4, hfz23_0, hfz23_1, hfz23_2, hfz23_3, hfz23_4⟩ := bk5 (HM.bx 5 rfl)
      go_wp2_with (first | ((with_reducible refine gate_callee (f := 93) rfl ?_); refine pC (some 34) rfl #[.agg #[.int .i64 t303, .int .i64 t304, .slice Xo16 t305.length ko16, .slice Xo17 t308.length ko17, .slice Xo18 t311.length ko18]] rfl Try.func93 (spec_EvictMain.calls kj7 t303 t304 _ _ t305 _ _ t308 _ _ t311 t317 t318 t319 t322 t325 t328 t329 _ (HM.CR 2 rfl).2.2 (HM.CR 2 rfl).2.1 (HM.CR 3 rfl).2.2 (HM.CR 3 rfl).2.1 (HM.C 4 rfl).2.2 (HM.C 4 rfl).2.1 A24.out) ?_; rintro e w25 ⟨v320, v323, v326, rfl, hR⟩; refine ⟨_, rfl, ?_⟩; replace HM := HM.call hR; clear hR; obtain ⟨Xo26, ko26, eo26⟩ := HM.rdR 6 rfl; subst eo26; obtain ⟨Xo27, ko27, eo27⟩ := HM.rdR 7 rfl; subst eo27; obtain ⟨Xo28, ko28, eo28⟩ := HM.rdR 8 rfl; subst eo28) | ((with_reducible refine gate_st (p := 2) rfl ?_); refine pS 1 2 0 [.int .i64 t317, .int .i64 t318, .slice Xo26 t319.length ko26, .slice Xo27 t322.length ko27, .slice Xo28 t325.length ko28] HM rfl rfl ?_; clear HM; intro w29 HM; replace HM := HM.toQ 8 rfl))
      refine bodyPost_ret (results_ctt rfl _ _ gb301 32 #[.int .i64 t317, .int .i64 t318, .slice Xo26 t319.length ko26, .slice Xo27 t322.length ko27, .slice Xo28 t325.length ko28] (0, 0) _ rfl (HM.bx 1 rfl) Try.underlying32 rfl (by kernel_rfl)) rfl ?_
      exact ⟨_, _, _, ER, (MD HM).pick [6, 7, 8]⟩
    ·subst c11
     replace H := BN H; obtain ⟨⟨t330, t331, t332, t335, t338, t341, t342⟩, A31, H⟩ := H
     simp only [Option.some.injEq, Prod.mk.injEq] at H
     obtain ⟨rfl, rfl, rfl, rfl, rfl, rfl, rfl⟩ := H
     obtain ⟨hcz30_0, hcz30_1, hcz30_2, hcz30_3, hcz30_4, hfz30_0, hfz30_1, hfz30_2, hfz30_3, hfz30_4⟩ := bk5 (HM.bx 0 rfl)
     go_wp2_with (first | ((with_reducible refine gate_callee (f := 93) rfl ?_); refine pC (some 39) rfl #[.agg #[.int .i64 a0_0, .int .i64 a0_1, .slice A0_2 l0_2.length c0_2, .slice A0_3 l0_3.length c0_3, .slice A0_4 l0_4.length c0_4]] rfl Try.func93 (spec_EvictMain.calls kj7 a0_0 a0_1 _ _ l0_2 _ _ l0_3 _ _ l0_4 t330 t331 t332 t335 t338 t341 t342 _ (HM.came HR0_2.out) HC0_2.out (HM.came HR0_3.out) HC0_3.out (HM.came HR0_4.out) HC0_4.out A31.out) ?_; rintro e w32 ⟨v333, v336, v339, rfl, hR⟩; refine ⟨_, rfl, ?_⟩; replace HM := HM.call hR; clear hR; obtain ⟨Xo33, ko33, eo33⟩ := HM.rdR 2 rfl; subst eo33; obtain ⟨Xo34, ko34, eo34⟩ := HM.rdR 3 rfl; subst eo34; obtain ⟨Xo35, ko35, eo35⟩ := HM.rdR 4 rfl; subst eo35) | ((with_reducible refine gate_st (p := 2) rfl ?_); refine pS 1 2 0 [.int .i64 t330, .int .i64 t331, .slice Xo33 t332.length ko33, .slice Xo34 t335.length ko34, .slice Xo35 t338.length ko35] HM rfl rfl ?_; clear HM; intro w36 HM; replace HM := HM.toQ 4 rfl))
     refine bodyPost_ret (results_ctt rfl _ _ gb301 32 #[.int .i64 t330, .int .i64 t331, .slice Xo33 t332.length ko33, .slice Xo34 t335.length ko34, .slice Xo35 t338.length ko35] (0, 0) _ rfl (HM.bx 1 rfl) Try.underlying32 rfl (by kernel_rfl)) rfl ?_
     exact ⟨_, _, _, ER, (MD HM).pick [2, 3, 4]⟩
 ·subst c7
  simp only [Option.some.injEq, Prod.mk.injEq] at H
  obtain ⟨rfl, rfl, rfl, rfl, rfl, rfl, rfl⟩ := H
  go_wp2_with (first | ((with_reducible refine gate_st (p := 2) rfl ?_); refine pS 1 2 0 [.int .i64 0, .int .i64 0, .slice none 0 0, .slice none 0 0, .slice none 0 0] HM rfl rfl ?_; clear HM; intro w37 HM; replace HM := HM.nl k95 95; replace HM := HM.nl k95 95; replace HM := HM.nl (Kd.int .i64) 3; replace HM := HM.toQ 4 rfl))
  refine bodyPost_ret (results_ctt rfl _ _ gb301 32 #[.int .i64 0, .int .i64 0, .slice none 0 0, .slice none 0 0, .slice none 0 0] (0, 0) _ rfl (HM.bx 1 rfl) Try.underlying32 rfl (by kernel_rfl)) rfl ?_
  exact ⟨_, _, _, ER, (MD HM).pick [2, 3, 4]⟩
mutual
def spec_Put.j0 : Nat → ByteArray → ByteArray → Bool → Int → Int → List (S95) → List (S95) → List Int → Option (Int × Int × (List (S95)) × (List (S95)) × List Int × List ByteArray × Bool)
 | 0, _, _, _, _, _, _, _, _ => none
 | k + 1, x1, x2, x26, x347000, x347001, x347002, x347003, x347004 => if x26 = true then (some (0, 0, ([] : List (S95)), ([] : List (S95)), ([] : List Int), ([] : List ByteArray), false)) else ((spec_l10Copy.f x347000 x347001 x347002 x347003 x347004).bind fun bt350 => ((spec_l10Touch.f k bt350.1 bt350.2.1 bt350.2.2.1 bt350.2.2.2.1 bt350.2.2.2.2 x1 true x2).bind fun bt361 => (if bt361.2.2.2.2.2.2 = true then (some (bt361.1, bt361.2.1, bt361.2.2.1, bt361.2.2.2.1, bt361.2.2.2.2.1, ([] : List ByteArray), true)) else (spec_Put.l0 k x1 x2 (([] : List ByteArray)) bt361.1 bt361.2.1 bt361.2.2.1 bt361.2.2.2.1 bt361.2.2.2.2.1))))
def spec_Put.l0 : Nat → ByteArray → ByteArray → List ByteArray → Int → Int → List (S95) → List (S95) → List Int → Option (Int × Int × (List (S95)) × (List (S95)) × List Int × List ByteArray × Bool)
 | 0, _, _, _, _, _, _, _, _ => none
 | k + 1, x1, x2, x12, x375000, x375001, x375002, x375003, x375004 => if (wrap64 ((x375002.length : Int) + (x375003.length : Int))) ≥ x375000 then ((spec_Evict.f k x375000 x375001 x375002 x375003 x375004).bind fun bt378 => (if x12.length < 8796093022208 then (spec_Put.l0 k x1 x2 (x12 ++ [bt378.2.2.2.2.2.1]) bt378.1 bt378.2.1 bt378.2.2.1 bt378.2.2.2.1 bt378.2.2.2.2.1) else (none))) else ((spec_Hash.f k x1).bind fun t396 => ((spec_l03Has.f k x375004 t396).bind fun t397 => (if t397 = true then ((spec_Hash.f k x1).bind fun t398 => ((spec_l08But.f k x375004 t398).bind fun t399 => (if x375003.length < 3518437208883 then (some (x375000, x375001, x375002, (x375003 ++ [(⟨x1, x2, 0⟩ : S95)]), t399, x12, true)) else (none)))) else (if x375002.length < 3518437208883 then (some (x375000, x375001, (x375002 ++ [(⟨x1, x2, 0⟩ : S95)]), x375003, x375004, x12, true)) else (none)))))
end
def spec_Put.f (k : Nat) (a0_0 : Int) (a0_1 : Int) (l0_2 : List (S95)) (l0_3 : List (S95)) (l0_4 : List Int) (a1 : ByteArray) (a2 : ByteArray) : Option (Int × Int × (List (S95)) × (List (S95)) × List Int × List ByteArray × Bool) := (spec_ThreeOk.f k a0_0 a0_1 l0_2 l0_3 l0_4).bind fun t348 => (if t348 = true then ((spec_ItemOk.f k a1 a2 0).bind fun t349 => (spec_Put.j0 k a1 a2 (!t349) a0_0 a0_1 l0_2 l0_3 l0_4)) else (spec_Put.j0 k a1 a2 true a0_0 a0_1 l0_2 l0_3 l0_4))
theorem spec_Put.mono_l : ∀ k, (∀ y0 y1 y2 y3 y4 y5 y6 y7, LeO (spec_Put.j0 k y0 y1 y2 y3 y4 y5 y6 y7) (spec_Put.j0 (k + 1) y0 y1 y2 y3 y4 y5 y6 y7)) ∧ (∀ y0 y1 y2 y3 y4 y5 y6 y7, LeO (spec_Put.l0 k y0 y1 y2 y3 y4 y5 y6 y7) (spec_Put.l0 (k + 1) y0 y1 y2 y3 y4 y5 y6 y7))
 | 0 => ⟨fun _ _ _ _ _ _ _ _ r h => by simp [spec_Put.j0] at h, fun _ _ _ _ _ _ _ _ r h => by simp [spec_Put.l0] at h⟩
 | k + 1 => by
  obtain ⟨ih0, ih1⟩ := spec_Put.mono_l k
  refine ⟨?_, ?_⟩
  ·intro y0 y1 y2 y3 y4 y5 y6 y7
   unfold spec_Put.j0
   repeat' first | (with_reducible first | exact ih0 _ _ _ _ _ _ _ _ | exact ih1 _ _ _ _ _ _ _ _ | exact spec_Evict.mono _ _ _ _ _ _ | exact spec_Hash.mono _ _ | exact spec_ItemOk.mono _ _ _ _ | exact spec_ThreeOk.mono _ _ _ _ _ _ | exact spec_l03Has.mono _ _ _ | exact spec_l08But.mono _ _ _ | exact spec_l10Touch.mono _ _ _ _ _ _ _ _ _ | exact LeO.refl _ | exact LeO.none _ | refine LeO.ite ?_ ?_ | refine LeO.bind ?_ (fun _ => ?_)) | exact ih0 _ _ _ _ _ _ _ _ | exact ih1 _ _ _ _ _ _ _ _ | exact spec_Evict.mono _ _ _ _ _ _ | exact spec_Hash.mono _ _ | exact spec_ItemOk.mono _ _ _ _ | exact spec_ThreeOk.mono _ _ _ _ _ _ | exact spec_l03Has.mono _ _ _ | exact spec_l08But.mono _ _ _ | exact spec_l10Touch.mono _ _ _ _ _ _ _ _ _ | exact LeO.none _ | refine LeO.ite ?_ ?_ | refine LeO.bind ?_ (fun _ => ?_)
  ·intro y0 y1 y2 y3 y4 y5 y6 y7
   unfold spec_Put.l0
   repeat' first | (with_reducible first | exact ih0 _ _ _ _ _ _ _ _ | exact ih1 _ _ _ _ _ _ _ _ | exact spec_Evict.mono _ _ _ _ _ _ | exact spec_Hash.mono _ _ | exact spec_ItemOk.mono _ _ _ _ | exact spec_ThreeOk.mono _ _ _ _ _ _ | exact spec_l03Has.mono _ _ _ | exact spec_l08But.mono _ _ _ | exact spec_l10Touch.mono _ _ _ _ _ _ _ _ _ | exact LeO.refl _ | exact LeO.none _ | refine LeO.ite ?_ ?_ | refine LeO.bind ?_ (fun _ => ?_)) | exact ih0 _ _ _ _ _ _ _ _ | exact ih1 _ _ _ _ _ _ _ _ | exact spec_Evict.mono _ _ _ _ _ _ | exact spec_Hash.mono _ _ | exact spec_ItemOk.mono _ _ _ _ | exact spec_ThreeOk.mono _ _ _ _ _ _ | exact spec_l03Has.mono _ _ _ | exact spec_l08But.mono _ _ _ | exact spec_l10Touch.mono _ _ _ _ _ _ _ _ _ | exact LeO.none _ | refine LeO.ite ?_ ?_ | refine LeO.bind ?_ (fun _ => ?_)
theorem spec_Put.mono : ∀ a0 a1 a2 a3 a4 a5 a6 k, LeO (spec_Put.f k a0 a1 a2 a3 a4 a5 a6) (spec_Put.f (k + 1) a0 a1 a2 a3 a4 a5 a6) := by
 intro a0 a1 a2 a3 a4 a5 a6 k
 obtain ⟨ih0, ih1⟩ := spec_Put.mono_l k
 unfold spec_Put.f
 repeat' first | (with_reducible first | exact ih0 _ _ _ _ _ _ _ _ | exact ih1 _ _ _ _ _ _ _ _ | exact spec_Evict.mono _ _ _ _ _ _ | exact spec_Hash.mono _ _ | exact spec_ItemOk.mono _ _ _ _ | exact spec_ThreeOk.mono _ _ _ _ _ _ | exact spec_l03Has.mono _ _ _ | exact spec_l08But.mono _ _ _ | exact spec_l10Touch.mono _ _ _ _ _ _ _ _ _ | exact LeO.refl _ | exact LeO.none _ | refine LeO.ite ?_ ?_ | refine LeO.bind ?_ (fun _ => ?_)) | exact ih0 _ _ _ _ _ _ _ _ | exact ih1 _ _ _ _ _ _ _ _ | exact spec_Evict.mono _ _ _ _ _ _ | exact spec_Hash.mono _ _ | exact spec_ItemOk.mono _ _ _ _ | exact spec_ThreeOk.mono _ _ _ _ _ _ | exact spec_l03Has.mono _ _ _ | exact spec_l08But.mono _ _ _ | exact spec_l10Touch.mono _ _ _ _ _ _ _ _ _ | exact LeO.none _ | refine LeO.ite ?_ ?_ | refine LeO.bind ?_ (fun _ => ?_)
def spec_Put.T12 : Bool × List (List Nat × List Nat) := (true, [([], []), ([0], [0]), ([], []), ([2], [2]), ([1, 3, 3], [1, 3])])
def spec_Put.B12 : List Nat := [0, 1, 0, 4, 15]
theorem spec_Put.tab12 : rtab .any (opsOf Try.f35 12) = spec_Put.T12 := by kernel_rfl
theorem spec_Put.bits12 : waitsOk spec_Put.T12.2 spec_Put.B12 = true := by kernel_rfl
def spec_Put.T13 : Bool × List (List Nat × List Nat) := (true, [([], []), ([0], [0]), ([], []), ([2], [2]), ([1, 3, 3], [1, 3]), ([0, 1, 2, 3, 4], []), ([5, 4, 4, 0, 1, 2, 3, 4], [4, 5])])
def spec_Put.B13 : List Nat := [0, 1, 0, 4, 15, 31, 63]
theorem spec_Put.tab13 : rtab .any (opsOf Try.f35 13) = spec_Put.T13 := by kernel_rfl
theorem spec_Put.bits13 : waitsOk spec_Put.T13.2 spec_Put.B13 = true := by kernel_rfl
set_option maxHeartbeats 8000000 in
set_option maxRecDepth 100000 in
theorem spec_Put.calls (k : Nat) (a0_0 : Int) (a0_1 : Int) (A0_2 : Option Addr) (c0_2 : Nat) (l0_2 : List (S95)) (A0_3 : Option Addr) (c0_3 : Nat) (l0_3 : List (S95)) (A0_4 : Option Addr) (c0_4 : Nat) (l0_4 : List Int) (a1 : ByteArray) (a2 : ByteArray) (r1 : Int) (r2 : Int) (r3 : List (S95)) (r4 : List (S95)) (r5 : List Int) (r6 : List ByteArray) (r7 : Bool) (w : World) (hr0_2 : Kd.C k95 w A0_2 l0_2.length l0_2) (hc0_2 : l0_2.length ≤ c0_2) (hr0_3 : Kd.C k95 w A0_3 l0_3.length l0_3) (hc0_3 : l0_3.length ≤ c0_3) (hr0_4 : Kd.C (Kd.int .i64) w A0_4 l0_4.length l0_4) (hc0_4 : l0_4.length ≤ c0_4) (h : spec_Put.f k a0_0 a0_1 l0_2 l0_3 l0_4 a1 a2 = some (r1, r2, r3, r4, r5, r6, r7)) :
  Calls Try.prog 35 #[.agg #[.int .i64 a0_0, .int .i64 a0_1, .slice A0_2 l0_2.length c0_2, .slice A0_3 l0_3.length c0_3, .slice A0_4 l0_4.length c0_4], .string a1, .string a2] w fun e w' => ∃ v2_ v3_ v4_ v5_ : Value, e = .returned (.tuple #[.agg #[.int .i64 r1, .int .i64 r2, v2_, v3_, v4_], v5_, .bool r7]) ∧ Mem w [] w' [rowR k95 95 v2_ r3, rowR k95 95 v3_ r4, row (Kd.int .i64) 3 v4_ r5, rowR Kd.string 9 v5_ r6] := by
 have hu32 := Try.underlying32
 have hu95 := Try.underlying95
 have HR0_2 := Aside0.mk hr0_2
 have HC0_2 := Aside0.mk hc0_2
 clear hr0_2 hc0_2
 have HR0_3 := Aside0.mk hr0_3
 have HC0_3 := Aside0.mk hc0_3
 clear hr0_3 hc0_3
 have HR0_4 := Aside0.mk hr0_4
 have HC0_4 := Aside0.mk hc0_4
 clear hr0_4 hc0_4
 have HM := Mem.nil w
 have H := h
 clear h
 unfold spec_Put.f at H
 go_enter Try.func35, Try.ntmps35
 have HC6 := Aside0.mk H
 clear H
 go_upto_region 1 with (first | ((with_reducible refine gate_dst (N := 3) rfl ?_); refine pB 3 32 [.int .i64 a0_0, .int .i64 a0_1, .slice A0_2 l0_2.length c0_2, .slice A0_3 l0_3.length c0_3, .slice A0_4 l0_4.length c0_4] HM rfl ?_; clear HM; intro gb346 w4 HM) | ((with_reducible refine gate_dst (N := 6) rfl ?_); refine pB 6 32 [.int .i64 0, .int .i64 0, .slice none 0 0, .slice none 0 0, .slice none 0 0] HM rfl ?_; clear HM; intro gb347 w5 HM))
 replace HM := nzM HM
 go_cut [26] (fun v26 wc => ∃ (kq : Nat) (x26_5 : Bool), v26 = .bool x26_5 ∧ Aside0 (spec_Put.j0 kq a1 a2 x26_5 a0_0 a0_1 l0_2 l0_3 l0_4 = some (r1, r2, r3, r4, r5, r6, r7)) ∧ Aside0 (kq ≤ k) ∧ Mem w [] wc [box 32 gb346 [.int .i64 a0_0, .int .i64 a0_1, .slice A0_2 l0_2.length c0_2, .slice A0_3 l0_3.length c0_3, .slice A0_4 l0_4.length c0_4], box 32 gb347 [.int .i64 0, .int .i64 0, .slice none 0 0, .slice none 0 0, .slice none 0 0]])
 case first =>
  have H := HC6.out
  clear HC6
  replace H := BN H; obtain ⟨t348, A8, H⟩ := H
  replace H := IB H
  rcases H with ⟨c10, H⟩ | ⟨c10, H⟩
  ·subst c10
   replace H := BN H; obtain ⟨t349, A11, H⟩ := H
   have H' := Aside0.mk H
   clear H
   obtain ⟨hcz7_0, hcz7_1, hcz7_2, hcz7_3, hcz7_4, hfz7_0, hfz7_1, hfz7_2, hfz7_3, hfz7_4⟩ := bk5 (HM.bx 0 rfl)
   go_wp2_with (first | ((with_reducible refine gate_callee (f := 32) rfl ?_); refine pC (some 18) rfl #[.agg #[.int .i64 a0_0, .int .i64 a0_1, .slice A0_2 l0_2.length c0_2, .slice A0_3 l0_3.length c0_3, .slice A0_4 l0_4.length c0_4]] rfl Try.func32 (spec_ThreeOk.calls k a0_0 a0_1 _ _ l0_2 _ _ l0_3 _ _ l0_4 true _ (HM.came HR0_2.out) HC0_2.out (HM.came HR0_3.out) HC0_3.out (HM.came HR0_4.out) HC0_4.out A8.out) ?_; rintro e w9 ⟨rfl, hR⟩; refine ⟨_, rfl, ?_⟩; replace HM := HM.call hR; clear hR) | ((with_reducible refine gate_callee (f := 65) rfl ?_); refine pC (some 24) rfl #[.agg #[.string a1, .string a2, .int .i64 0]] rfl Try.func65 (spec_ItemOk.calls k a1 a2 0 t349 _ A11.out) ?_; rintro e w12 ⟨rfl, hR⟩; refine ⟨_, rfl, ?_⟩; replace HM := HM.call hR; clear hR))
   go_meet
   case rel => exact ⟨_, (!t349), RS, H', ⟨by first | omega | exact Nat.le_refl _⟩, (MD HM).pick [0, 1]⟩
  ·subst c10
   have H' := Aside0.mk H
   clear H
   obtain ⟨hcz7_0, hcz7_1, hcz7_2, hcz7_3, hcz7_4, hfz7_0, hfz7_1, hfz7_2, hfz7_3, hfz7_4⟩ := bk5 (HM.bx 0 rfl)
   go_wp2_with (first | ((with_reducible refine gate_callee (f := 32) rfl ?_); refine pC (some 18) rfl #[.agg #[.int .i64 a0_0, .int .i64 a0_1, .slice A0_2 l0_2.length c0_2, .slice A0_3 l0_3.length c0_3, .slice A0_4 l0_4.length c0_4]] rfl Try.func32 (spec_ThreeOk.calls k a0_0 a0_1 _ _ l0_2 _ _ l0_3 _ _ l0_4 false _ (HM.came HR0_2.out) HC0_2.out (HM.came HR0_3.out) HC0_3.out (HM.came HR0_4.out) HC0_4.out A8.out) ?_; rintro e w9 ⟨rfl, hR⟩; refine ⟨_, rfl, ?_⟩; replace HM := HM.call hR; clear hR))
   go_meet
   case rel => exact ⟨_, (true), RS, H', ⟨by first | omega | exact Nat.le_refl _⟩, (MD HM).pick [0, 1]⟩
 case rest =>
  clear HC6 HM
  obtain ⟨kq, x26_5, rfl, HA, HJ5, HM⟩ := hcut
  cases kq with
  | zero => exact absurd HA.out (by simp [spec_Put.j0])
  | succ kj5 =>
   have H := HA.out
   clear HA
   simp only [spec_Put.j0] at H
   go_upto_if 26 with (fail)
   replace H := IB H
   rcases H with ⟨c13, H⟩ | ⟨c13, H⟩
   ·subst c13
    simp only [Option.some.injEq, Prod.mk.injEq] at H
    obtain ⟨rfl, rfl, rfl, rfl, rfl, rfl, rfl⟩ := H
    go_wp2_with (first | ((with_reducible refine gate_st (p := 6) rfl ?_); refine pS 1 6 0 [.int .i64 0, .int .i64 0, .slice none 0 0, .slice none 0 0, .slice none 0 0] HM rfl rfl ?_; clear HM; intro w14 HM; replace HM := HM.nl k95 95; replace HM := HM.nl k95 95; replace HM := HM.nl (Kd.int .i64) 3; replace HM := HM.toQ 4 rfl; replace HM := HM.nl Kd.string 9))
    refine bodyPost_ret (results_ctt rfl _ _ gb347 32 #[.int .i64 0, .int .i64 0, .slice none 0 0, .slice none 0 0, .slice none 0 0] (0, 0) _ rfl (HM.bx 1 rfl) Try.underlying32 rfl (by kernel_rfl)) rfl ?_
    exact ⟨_, _, _, _, ER, (MD HM).pick [2, 3, 4, 5]⟩
   ·subst c13
    replace H := BN H; obtain ⟨⟨t350, t351, t352, t355, t358⟩, A16, H⟩ := H
    replace H := BN H; obtain ⟨⟨t361, t362, t363, t366, t369, t372, t373⟩, A18, H⟩ := H
    obtain ⟨hcz15_0, hcz15_1, hcz15_2, hcz15_3, hcz15_4, hfz15_0, hfz15_1, hfz15_2, hfz15_3, hfz15_4⟩ := bk5 (HM.bx 0 rfl)
    go_upto_if 37 with (first | ((with_reducible refine gate_callee (f := 48) rfl ?_); refine pC (some 30) rfl #[.agg #[.int .i64 a0_0, .int .i64 a0_1, .slice A0_2 l0_2.length c0_2, .slice A0_3 l0_3.length c0_3, .slice A0_4 l0_4.length c0_4]] rfl Try.func48 (spec_l10Copy.calls a0_0 a0_1 _ _ l0_2 _ _ l0_3 _ _ l0_4 t350 t351 t352 t355 t358 _ (HM.came HR0_2.out) HC0_2.out (HM.came HR0_3.out) HC0_3.out (HM.came HR0_4.out) HC0_4.out A16.out) ?_; rintro e w17 ⟨v353, v356, v359, rfl, hR⟩; refine ⟨_, rfl, ?_⟩; replace HM := HM.call hR; clear hR) | ((with_reducible refine gate_callee (f := 69) rfl ?_); refine pC (some 33) rfl #[.agg #[.int .i64 t350, .int .i64 t351, v353, v356, v359], .string a1, .bool true, .string a2] rfl Try.func69 (spec_l10Touch.calls kj5 t350 t351 v353 t352 v356 t355 v359 t358 a1 true a2 t361 t362 t363 t366 t369 t372 t373 _ _ _ (HM.focus [0, 1] [2, 3, 4]) A18.out) ?_; rintro e w19 ⟨v364, v367, v370, rfl, hR⟩; refine ⟨_, rfl, ?_⟩; replace HM := nzM hR.unfocus; clear hR) | ((with_reducible refine gate_dst (N := 9) rfl ?_); refine pB 9 32 [.int .i64 0, .int .i64 0, .slice none 0 0, .slice none 0 0, .slice none 0 0] HM rfl ?_; clear HM; intro gb374 w20 HM; obtain ⟨Xo21, ko21, eo21⟩ := HM.rdR 2 rfl; subst eo21; obtain ⟨Xo22, ko22, eo22⟩ := HM.rdR 3 rfl; subst eo22; obtain ⟨Xo23, ko23, eo23⟩ := HM.rdR 4 rfl; subst eo23) | ((with_reducible refine gate_st (p := 9) rfl ?_); refine pS 5 9 0 [.int .i64 t361, .int .i64 t362, .slice Xo21 t363.length ko21, .slice Xo22 t366.length ko22, .slice Xo23 t369.length ko23] HM rfl rfl ?_; clear HM; intro w24 HM))
    replace HM := nzM HM
    replace H := IB H
    rcases H with ⟨c25, H⟩ | ⟨c25, H⟩
    ·subst c25
     simp only [Option.some.injEq, Prod.mk.injEq] at H
     obtain ⟨rfl, rfl, rfl, rfl, rfl, rfl, rfl⟩ := H
     obtain ⟨hcz26_0, hcz26_1, hcz26_2, hcz26_3, hcz26_4, hfz26_0, hfz26_1, hfz26_2, hfz26_3, hfz26_4⟩ := bk5 (HM.bx 5 rfl)
     go_wp2_with (first | ((with_reducible refine gate_st (p := 6) rfl ?_); refine pS 1 6 0 [.int .i64 t361, .int .i64 t362, .slice Xo21 t363.length ko21, .slice Xo22 t366.length ko22, .slice Xo23 t369.length ko23] HM rfl rfl ?_; clear HM; intro w27 HM; replace HM := HM.toQ 4 rfl; replace HM := HM.nl Kd.string 9))
     refine bodyPost_ret (results_ctt rfl _ _ gb347 32 #[.int .i64 t361, .int .i64 t362, .slice Xo21 t363.length ko21, .slice Xo22 t366.length ko22, .slice Xo23 t369.length ko23] (0, 0) _ rfl (HM.bx 1 rfl) Try.underlying32 rfl (by kernel_rfl)) rfl ?_
     exact ⟨_, _, _, _, ER, (MD HM).pick [2, 3, 4, 6]⟩
    ·subst c25
     have H' := Aside0.mk H
     clear H
     go_wp2_with (first | ((with_reducible refine gate_dst (N := 39) rfl ?_); refine pL 39 Kd.string 9 ([] : List ByteArray) [] (Reps.none _ _) HM rfl ?_; clear HM; intro v376 w28 HM; replace HM := HM.toQ 4 rfl))
     go_loopg [12] kj5 (fun kq v12 w' => ∃ (x12_2 : List ByteArray) (x375000_2 : Int) (x375001_2 : Int) (x375002_2 : List (S95)) (x375003_2 : List (S95)) (x375004_2 : List Int) (u375002 : Value) (u375003 : Value) (u375004 : Value), Aside0 (spec_Put.l0 kq a1 a2 x12_2 x375000_2 x375001_2 x375002_2 x375003_2 x375004_2 = some (r1, r2, r3, r4, r5, r6, r7)) ∧ Aside0 (kq ≤ kj5) ∧ Mem w [] w' [rowR Kd.string 9 v12 x12_2, rowR k95 95 u375002 x375002_2, rowR k95 95 u375003 x375003_2, row (Kd.int .i64) 3 u375004 x375004_2, box 32 gb346 [.int .i64 a0_0, .int .i64 a0_1, .slice A0_2 l0_2.length c0_2, .slice A0_3 l0_3.length c0_3, .slice A0_4 l0_4.length c0_4], box 32 gb347 [.int .i64 0, .int .i64 0, .slice none 0 0, .slice none 0 0, .slice none 0 0], box 32 gb374 [.int .i64 x375000_2, .int .i64 x375001_2, u375002, u375003, u375004]])
     case atStart => exact ⟨((([] : List ByteArray))), (t361), (t362), (t363), (t366), (t369), (.slice Xo21 t363.length ko21), (.slice Xo22 t366.length ko22), (.slice Xo23 t369.length ko23), H', ⟨Nat.le_refl _⟩, (MD HM).pick [6, 2, 3, 4, 0, 1, 5]⟩
     case round =>
      clear H' HM
      obtain ⟨x12_2, x375000_2, x375001_2, x375002_2, x375003_2, x375004_2, u375002, u375003, u375004, HA, HK2, HM⟩ := hrel
      cases gk with
      | zero => exact absurd HA.out (by simp [spec_Put.l0])
      | succ k2 =>
       have H := HA.out
       clear HA
       simp only [spec_Put.l0] at H
       obtain ⟨hcz29_0, hcz29_1, hcz29_2, hcz29_3, hcz29_4, hfz29_0, hfz29_1, hfz29_2, hfz29_3, hfz29_4⟩ := bk5 (HM.bx 6 rfl)
       obtain ⟨Xo30, ko30, eo30⟩ := HM.rdR 1 rfl
       subst eo30
       obtain ⟨Xo31, ko31, eo31⟩ := HM.rdR 2 rfl
       subst eo31
       go_upto_if 49 with (fail)
       replace H := IT H; rcases H with ⟨c32, H⟩ | ⟨c32, H⟩
       ·have c32b0 : decide (x375000_2 ≤ (wrap64 ((x375002_2.length : Int) + (x375003_2.length : Int)))) = true := decide_eq_true c32
        clear c32
        (first | rw [c32b0] | (simp only [i64_w, i32_w]; rw [c32b0]) | skip)
        replace H := BN H; obtain ⟨⟨t378, t379, t380, t383, t386, t389, t390⟩, A33, H⟩ := H
        replace H := GD H; obtain ⟨c43, H⟩ := H
        have LMc43 := Aside0.mk c43
        clear c43
        have H' := Aside0.mk H
        clear H
        obtain ⟨Xo35, ko35, eo35⟩ := HM.rd 3 rfl
        subst eo35
        go_wp2_with (first | ((with_reducible refine gate_callee (f := 70) rfl ?_); refine pC (some 52) rfl #[.agg #[.int .i64 x375000_2, .int .i64 x375001_2, .slice Xo30 x375002_2.length ko30, .slice Xo31 x375003_2.length ko31, .slice Xo35 x375004_2.length ko35]] rfl Try.func70 (spec_Evict.calls k2 x375000_2 x375001_2 _ _ x375002_2 _ _ x375003_2 _ _ x375004_2 t378 t379 t380 t383 t386 t389 t390 _ (HM.CR 1 rfl).2.2 (HM.CR 1 rfl).2.1 (HM.CR 2 rfl).2.2 (HM.CR 2 rfl).2.1 (HM.C 3 rfl).2.2 (HM.C 3 rfl).2.1 A33.out) ?_; rintro e w34 ⟨v381, v384, v387, rfl, hR⟩; refine ⟨_, rfl, ?_⟩; replace HM := HM.call hR; clear hR) | ((with_reducible refine gate_dst (N := 13) rfl ?_); refine pB 13 32 [.int .i64 0, .int .i64 0, .slice none 0 0, .slice none 0 0, .slice none 0 0] HM rfl ?_; clear HM; intro gb391 w36 HM; obtain ⟨Xo37, ko37, eo37⟩ := HM.rdR 7 rfl; subst eo37; obtain ⟨Xo38, ko38, eo38⟩ := HM.rdR 8 rfl; subst eo38; obtain ⟨Xo39, ko39, eo39⟩ := HM.rd 9 rfl; subst eo39) | ((with_reducible refine gate_st (p := 13) rfl ?_); refine pS 10 13 0 [.int .i64 t378, .int .i64 t379, .slice Xo37 t380.length ko37, .slice Xo38 t383.length ko38, .slice Xo39 t386.length ko39] HM rfl rfl ?_; clear HM; intro w40 HM; obtain ⟨hcz41_0, hcz41_1, hcz41_2, hcz41_3, hcz41_4, hfz41_0, hfz41_1, hfz41_2, hfz41_3, hfz41_4⟩ := bk5 (HM.bx 10 rfl)) | ((with_reducible refine gate_st (p := 9) rfl ?_); refine pS 6 9 0 [.int .i64 t378, .int .i64 t379, .slice Xo37 t380.length ko37, .slice Xo38 t383.length ko38, .slice Xo39 t386.length ko39] HM rfl rfl ?_; clear HM; intro w42 HM) | ((with_reducible refine gate_dst (N := 59) rfl ?_); refine pL 59 Kd.string 9 [t389] [.string t389] (Reps.one (show Kd.M Kd.string _ _ _ t389 [.string t389] from rfl) (Reps.none _ _)) HM rfl ?_; clear HM; intro v45 w44 HM; obtain ⟨Xv45, kv45, ev45⟩ := HM.rdR 11 rfl; subst ev45) | ((with_reducible refine gate_builtin (b := .append) (xs := #[.tmp 57, .tmp 59]) rfl ?_); refine pA 0 (.tmp 57) (.tmp 59) 67 9 Kd.string u12 x12_2 [t389] Xv45 ([t389].length) kv45 HM rfl Try.underlying67 info9 rfl (HM.CR 11 rfl).2.2 (by have h_ := LMc43.out; simp only [List.length_singleton]; omega) ?_; clear HM; intro v393 w46 HM))
        go_roundg k2
        case measure => have := HJ5.out; have := HK2.out; omega
        case rel => exact ⟨((x12_2 ++ [t389])), (t378), (t379), (t380), (t383), (t386), (.slice Xo37 t380.length ko37), (.slice Xo38 t383.length ko38), (.slice Xo39 t386.length ko39), H', ⟨by have := HJ5.out; have := HK2.out; omega⟩, (MD HM).pick [0, 7, 8, 9, 4, 5, 6]⟩
       ·have c32b0 : decide (x375000_2 ≤ (wrap64 ((x375002_2.length : Int) + (x375003_2.length : Int)))) = false := decide_eq_false c32
        clear c32
        (first | rw [c32b0] | (simp only [i64_w, i32_w]; rw [c32b0]) | skip)
        try go_wp2_with (first | ((with_reducible refine gate_dst (N := 16) rfl ?_); refine pB 16 95 [.string (⟨#[]⟩ : ByteArray), .string (⟨#[]⟩ : ByteArray), .int .i64 0] HM rfl ?_; clear HM; intro gb395 w47 HM) | ((with_reducible refine gate_st (p := 16) rfl ?_); refine pS 7 16 0 [.string a1, .string a2, .int .i64 0] HM rfl rfl ?_; clear HM; intro w48 HM))
        replace H := BN H; obtain ⟨t396, A49, H⟩ := H
        replace H := BN H; obtain ⟨t397, A50, H⟩ := H
        obtain ⟨Xo55, ko55, eo55⟩ := HM.rd 3 rfl
        subst eo55
        refine RGN 5 [0, 1, 2, 3, 4] (fun a0 b a w' => a = putSel a0 b [(0, 64, .pointer (some ⟨gb374, 4, none⟩)), (1, 65, .slice Xo55 x375004_2.length ko55), (2, 66, .string a1), (3, 67, .int .i64 t396), (4, 68, .bool t397)] ∧ Mem w [] w' [rowR Kd.string 9 u12 x12_2, rowR k95 95 (.slice Xo30 x375002_2.length ko30) x375002_2, rowR k95 95 (.slice Xo31 x375003_2.length ko31) x375003_2, row (Kd.int .i64) 3 (.slice Xo55 x375004_2.length ko55) x375004_2, box 32 gb346 [.int .i64 a0_0, .int .i64 a0_1, .slice A0_2 l0_2.length c0_2, .slice A0_3 l0_3.length c0_3, .slice A0_4 l0_4.length c0_4], box 32 gb347 [.int .i64 0, .int .i64 0, .slice none 0 0, .slice none 0 0, .slice none 0 0], box 32 gb374 [.int .i64 x375000_2, .int .i64 x375001_2, .slice Xo30 x375002_2.length ko30, .slice Xo31 x375003_2.length ko31, .slice Xo55 x375004_2.length ko55], box 95 gb395 [.string a1, .string a2, .int .i64 0]]) spec_Put.tab12 spec_Put.bits12 ?_ ?_ ?_
        ·exact ⟨PS0' rfl _, (HM.drew).pick [0, 1, 2, 3, 4, 5, 6, 7]⟩
        ·clear HM
         refine steps_cons ?_ ?_
         ·rintro b a w ⟨ha, HM⟩ hb hon hoff
          refine ⟨_, rfl, fun K hK => ?_⟩
          have e9 := POF ha 9
          replace ha := Aside0.mk ha
          exact VL (.pointer (some ⟨gb374, 4, none⟩)) (hK.out _ _ ⟨PUT ha 0 hb, HM⟩)
         refine steps_cons ?_ ?_
         ·rintro b a w ⟨ha, HM⟩ hb hon hoff
          refine ⟨_, rfl, fun K hK => ?_⟩
          obtain ⟨hcz56_0, hcz56_1, hcz56_2, hcz56_3, hcz56_4, hfz56_0, hfz56_1, hfz56_2, hfz56_3, hfz56_4⟩ := bk5 (HM.bx 6 rfl)
          have e64 := PON ha 0 (hon 0 (by kernel_rfl))
          replace ha := Aside0.mk ha
          exact VL (.slice Xo55 x375004_2.length ko55) (hK.out _ _ ⟨PUT ha 1 hb, HM⟩)
         refine steps_cons ?_ ?_
         ·rintro b a w ⟨ha, HM⟩ hb hon hoff
          refine ⟨_, rfl, fun K hK => ?_⟩
          have e1 := POF ha 1
          replace ha := Aside0.mk ha
          exact VL (.string a1) (hK.out _ _ ⟨PUT ha 2 hb, HM⟩)
         refine steps_cons ?_ ?_
         ·rintro b a w ⟨ha, HM⟩ hb hon hoff
          refine ⟨_, rfl, fun K hK => ?_⟩
          have e66 := PON ha 2 (hon 2 (by kernel_rfl))
          replace ha := Aside0.mk ha
          refine ST (eC (some 67) rfl #[.string a1] rfl Try.func71 (spec_Hash.calls k2 a1 t396 _ A49.out) ?_ (hargs := by (simp only [List.map_toArray, List.map_cons, List.map_nil, evc, eval_of e66]) <;> rfl))
          rintro e w57 ⟨rfl, hd⟩
          refine ⟨_, rfl, ?_⟩
          replace HM := HM.drawn hd
          clear hd
          exact hK.out _ _ ⟨PUT ha 3 hb, (HM).pick [0, 1, 2, 3, 4, 5, 6, 7]⟩
         refine steps_cons ?_ ?_
         ·rintro b a w ⟨ha, HM⟩ hb hon hoff
          refine ⟨_, rfl, fun K hK => ?_⟩
          have e65 := PON ha 1 (hon 1 (by kernel_rfl))
          have e67 := PON ha 3 (hon 3 (by kernel_rfl))
          replace ha := Aside0.mk ha
          refine ST (eC (some 68) rfl #[.slice Xo55 x375004_2.length ko55, .int .i64 t396] rfl Try.func68 (spec_l03Has.calls k2 _ _ x375004_2 t396 t397 _ (HM.C 3 rfl).2.2 (HM.C 3 rfl).2.1 A50.out) ?_ (hargs := by (simp only [List.map_toArray, List.map_cons, List.map_nil, evc, eval_of e65, eval_of e67]) <;> rfl))
          rintro e w58 ⟨rfl, hd⟩
          refine ⟨_, rfl, ?_⟩
          replace HM := HM.drawn hd
          clear hd
          exact hK.out _ _ ⟨PUT ha 4 hb, (HM).pick [0, 1, 2, 3, 4, 5, 6, 7]⟩
         exact steps_nil
        rintro _ w59 ⟨rfl, HM⟩
        simp only [putSel, if_true, Act.put, List.setIfInBounds_toArray, List.set_cons_zero, List.set_cons_succ, gt_iff_lt, ge_iff_le]
        go_upto_if 68 with (fail)
        replace H := IB H
        rcases H with ⟨c60, H⟩ | ⟨c60, H⟩
        ·subst c60
         try go_wp2
         replace H := BN H; obtain ⟨t398, A61, H⟩ := H
         replace H := BN H; obtain ⟨t399, A62, H⟩ := H
         refine RGN 7 [0, 1, 2, 3, 4, 5, 6] (fun a0 b a w' => ∃ (v400 : Value), a = putSel a0 b [(0, 69, .pointer (some ⟨gb374, 4, none⟩)), (1, 70, .slice Xo55 x375004_2.length ko55), (2, 71, .string a1), (3, 72, .int .i64 t398), (4, 73, v400), (5, 74, .pointer (some ⟨gb374, 4, none⟩))] ∧ Mem w [] w' [rowR Kd.string 9 u12 x12_2, rowR k95 95 (.slice Xo30 x375002_2.length ko30) x375002_2, rowR k95 95 (.slice Xo31 x375003_2.length ko31) x375003_2, row (Kd.int .i64) 3 (.slice Xo55 x375004_2.length ko55) x375004_2, box 32 gb346 [.int .i64 a0_0, .int .i64 a0_1, .slice A0_2 l0_2.length c0_2, .slice A0_3 l0_3.length c0_3, .slice A0_4 l0_4.length c0_4], box 32 gb347 [.int .i64 0, .int .i64 0, .slice none 0 0, .slice none 0 0, .slice none 0 0], sel (b 6) (box 32 gb374 [.int .i64 x375000_2, .int .i64 x375001_2, .slice Xo30 x375002_2.length ko30, .slice Xo31 x375003_2.length ko31, v400]) (box 32 gb374 [.int .i64 x375000_2, .int .i64 x375001_2, .slice Xo30 x375002_2.length ko30, .slice Xo31 x375003_2.length ko31, .slice Xo55 x375004_2.length ko55]), box 95 gb395 [.string a1, .string a2, .int .i64 0], sel (b 4) (rowR (Kd.int .i64) 3 v400 t399) (emp)]) spec_Put.tab13 spec_Put.bits13 ?_ ?_ ?_
         ·exact ⟨.bool false, PS0' rfl _, (HM.drew.ems 1).pick [0, 1, 2, 3, 4, 5, 6, 7, 8]⟩
         ·clear HM
          refine steps_cons ?_ ?_
          ·rintro b a w ⟨v400, ha, HM⟩ hb hon hoff
           refine ⟨_, rfl, fun K hK => ?_⟩
           have e9 := POF ha 9
           replace ha := Aside0.mk ha
           exact VL (.pointer (some ⟨gb374, 4, none⟩)) (hK.out _ _ ⟨v400, PUT ha 0 hb, HM⟩)
          refine steps_cons ?_ ?_
          ·rintro b a w ⟨v400, ha, HM⟩ hb hon hoff
           refine ⟨_, rfl, fun K hK => ?_⟩
           have HZ := HM
           replace HM := HM.sF 6 rfl (hoff 6 (by kernel_rfl))
           obtain ⟨hcz68_0, hcz68_1, hcz68_2, hcz68_3, hcz68_4, hfz68_0, hfz68_1, hfz68_2, hfz68_3, hfz68_4⟩ := bk5 (HM.bx 6 rfl)
           have e69 := PON ha 0 (hon 0 (by kernel_rfl))
           replace ha := Aside0.mk ha
           exact VL (.slice Xo55 x375004_2.length ko55) (hK.out _ _ ⟨v400, PUT ha 1 hb, HZ⟩)
          refine steps_cons ?_ ?_
          ·rintro b a w ⟨v400, ha, HM⟩ hb hon hoff
           refine ⟨_, rfl, fun K hK => ?_⟩
           have e1 := POF ha 1
           replace ha := Aside0.mk ha
           exact VL (.string a1) (hK.out _ _ ⟨v400, PUT ha 2 hb, HM⟩)
          refine steps_cons ?_ ?_
          ·rintro b a w ⟨v400, ha, HM⟩ hb hon hoff
           refine ⟨_, rfl, fun K hK => ?_⟩
           have e71 := PON ha 2 (hon 2 (by kernel_rfl))
           replace ha := Aside0.mk ha
           refine ST (eC (some 72) rfl #[.string a1] rfl Try.func71 (spec_Hash.calls k2 a1 t398 _ A61.out) ?_ (hargs := by (simp only [List.map_toArray, List.map_cons, List.map_nil, evc, eval_of e71]) <;> rfl))
           rintro e w69 ⟨rfl, hd⟩
           refine ⟨_, rfl, ?_⟩
           replace HM := HM.drawn hd
           clear hd
           exact hK.out _ _ ⟨v400, PUT ha 3 hb, (HM).pick [0, 1, 2, 3, 4, 5, 6, 7, 8]⟩
          refine steps_cons ?_ ?_
          ·rintro b a w ⟨v400, ha, HM⟩ hb hon hoff
           refine ⟨_, rfl, fun K hK => ?_⟩
           have e70 := PON ha 1 (hon 1 (by kernel_rfl))
           have e72 := PON ha 3 (hon 3 (by kernel_rfl))
           replace ha := Aside0.mk ha
           refine ST (eC (some 73) rfl #[.slice Xo55 x375004_2.length ko55, .int .i64 t398] rfl Try.func72 (spec_l08But.calls k2 _ _ x375004_2 t398 t399 _ (HM.C 3 rfl).2.2 (HM.C 3 rfl).2.1 A62.out) ?_ (hargs := by (simp only [List.map_toArray, List.map_cons, List.map_nil, evc, eval_of e70, eval_of e72]) <;> rfl))
           rintro e w70 ⟨v400, rfl, hR⟩
           refine ⟨_, rfl, ?_⟩
           replace HM := HM.call hR
           clear hR
           exact hK.out _ _ ⟨v400, PUT ha 4 hb, ((HM.sF 6 rfl (hoff 6 (by kernel_rfl))).iF 6 rfl (hoff 6 (by kernel_rfl))).pick [0, 1, 2, 3, 4, 5, 6, 7, 9]⟩
          refine steps_cons ?_ ?_
          ·rintro b a w ⟨v400, ha, HM⟩ hb hon hoff
           refine ⟨_, rfl, fun K hK => ?_⟩
           have e9 := POF ha 9
           replace ha := Aside0.mk ha
           exact VL (.pointer (some ⟨gb374, 4, none⟩)) (hK.out _ _ ⟨v400, PUT ha 5 hb, HM⟩)
          refine steps_cons ?_ ?_
          ·rintro b a w ⟨v400, ha, HM⟩ hb hon hoff
           refine ⟨_, rfl, fun K hK => ?_⟩
           replace HM := HM.sF 6 rfl hb
           replace HM := HM.sT 8 rfl (hon 4 (by kernel_rfl))
           obtain ⟨Xo71, ko71, eo71⟩ := HM.rdR 8 rfl
           subst eo71
           have e74 := PON ha 5 (hon 5 (by kernel_rfl))
           have e73 := PON ha 4 (hon 4 (by kernel_rfl))
           replace ha := Aside0.mk ha
           refine ST (eS 6 74 4 [.slice Xo71 t399.length ko71] HM rfl rfl ?_ (hp := (eval_of e74)) (hx := (by rw [eval_of e73]; rfl)))
           clear HM
           intro w72 HM
           exact hK.out _ _ ⟨.slice Xo71 t399.length ko71, PUS ha, (HM.iT 8 rfl (hon 4 (by kernel_rfl))).pick [0, 1, 2, 3, 4, 5, 6, 7, 8]⟩
          exact steps_nil
         rintro _ w73 ⟨v400, rfl, HM⟩
         replace HM := HM.sT 6 rfl rfl
         replace HM := HM.sT 8 rfl rfl
         simp only [putSel, if_true, Act.put, List.setIfInBounds_toArray, List.set_cons_zero, List.set_cons_succ, gt_iff_lt, ge_iff_le]
         replace H := GD H; obtain ⟨c76, H⟩ := H
         have LMc76 := Aside0.mk c76
         clear c76
         simp only [Option.some.injEq, Prod.mk.injEq] at H
         obtain ⟨rfl, rfl, rfl, rfl, rfl, rfl, rfl⟩ := H
         obtain ⟨hcz74_0, hcz74_1, hcz74_2, hcz74_3, hcz74_4, hfz74_0, hfz74_1, hfz74_2, hfz74_3, hfz74_4⟩ := bk5 (HM.bx 6 rfl)
         obtain ⟨hcz75_0, hcz75_1, hcz75_2, hfz75_0, hfz75_1, hfz75_2⟩ := bk3 (HM.bx 7 rfl)
         go_wp2_with (first | ((with_reducible refine gate_dst (N := 78) rfl ?_); refine pL 78 k95 95 [(⟨a1, a2, 0⟩ : S95)] [.string a1, .string a2, .int .i64 0] (Reps.c3 (show Kd.M k95 _ _ _ (⟨a1, a2, 0⟩ : S95) [.string a1, .string a2, .int .i64 0] from (k95_mkM _ _ _ (⟨a1, a2, 0⟩ : S95))) (Reps.none _ _)) HM rfl ?_; clear HM; intro v78 w77 HM; obtain ⟨Xv78, kv78, ev78⟩ := HM.rdR 9 rfl; subst ev78) | ((with_reducible refine gate_builtin (b := .append) (xs := #[.tmp 76, .tmp 78]) rfl ?_); refine pA 2 (.tmp 76) (.tmp 78) 30 95 k95 (.slice Xo31 x375003_2.length ko31) x375003_2 [(⟨a1, a2, 0⟩ : S95)] Xv78 ([(⟨a1, a2, 0⟩ : S95)].length) kv78 HM rfl Try.underlying30 info95 rfl (HM.CR 9 rfl).2.2 (by have h_ := LMc76.out; simp only [List.length_singleton]; omega) ?_; clear HM; intro v403 w79 HM; obtain ⟨Xo80, ko80, eo80⟩ := HM.rdR 2 rfl; subst eo80) | ((with_reducible refine gate_st (p := 80) rfl ?_); refine pS 6 80 3 [.slice Xo80 (x375003_2 ++ [(⟨a1, a2, 0⟩ : S95)]).length ko80] HM rfl rfl ?_; clear HM; intro w81 HM; obtain ⟨hcz82_0, hcz82_1, hcz82_2, hcz82_3, hcz82_4, hfz82_0, hfz82_1, hfz82_2, hfz82_3, hfz82_4⟩ := bk5 (HM.bx 6 rfl); obtain ⟨Xo83, ko83, eo83⟩ := HM.rdR 8 rfl; subst eo83) | ((with_reducible refine gate_st (p := 6) rfl ?_); refine pS 5 6 0 [.int .i64 x375000_2, .int .i64 x375001_2, .slice Xo30 x375002_2.length ko30, .slice Xo80 (x375003_2 ++ [(⟨a1, a2, 0⟩ : S95)]).length ko80, .slice Xo83 t399.length ko83] HM rfl rfl ?_; clear HM; intro w84 HM; replace HM := HM.toQ 8 rfl))
         refine bodyPost_ret (results_ctt rfl _ _ gb347 32 #[.int .i64 x375000_2, .int .i64 x375001_2, .slice Xo30 x375002_2.length ko30, .slice Xo80 (x375003_2 ++ [(⟨a1, a2, 0⟩ : S95)]).length ko80, .slice Xo83 t399.length ko83] (0, 0) _ rfl (HM.bx 5 rfl) Try.underlying32 rfl (by kernel_rfl)) rfl ?_
         exact ⟨_, _, _, _, ER, (MD HM).pick [1, 2, 8, 0]⟩
        ·subst c60
         replace H := GD H; obtain ⟨c87, H⟩ := H
         have LMc87 := Aside0.mk c87
         clear c87
         simp only [Option.some.injEq, Prod.mk.injEq] at H
         obtain ⟨rfl, rfl, rfl, rfl, rfl, rfl, rfl⟩ := H
         obtain ⟨hcz85_0, hcz85_1, hcz85_2, hcz85_3, hcz85_4, hfz85_0, hfz85_1, hfz85_2, hfz85_3, hfz85_4⟩ := bk5 (HM.bx 6 rfl)
         obtain ⟨hcz86_0, hcz86_1, hcz86_2, hfz86_0, hfz86_1, hfz86_2⟩ := bk3 (HM.bx 7 rfl)
         go_wp2_with (first | ((with_reducible refine gate_dst (N := 84) rfl ?_); refine pL 84 k95 95 [(⟨a1, a2, 0⟩ : S95)] [.string a1, .string a2, .int .i64 0] (Reps.c3 (show Kd.M k95 _ _ _ (⟨a1, a2, 0⟩ : S95) [.string a1, .string a2, .int .i64 0] from (k95_mkM _ _ _ (⟨a1, a2, 0⟩ : S95))) (Reps.none _ _)) HM rfl ?_; clear HM; intro v89 w88 HM; obtain ⟨Xv89, kv89, ev89⟩ := HM.rdR 8 rfl; subst ev89) | ((with_reducible refine gate_builtin (b := .append) (xs := #[.tmp 82, .tmp 84]) rfl ?_); refine pA 1 (.tmp 82) (.tmp 84) 30 95 k95 (.slice Xo30 x375002_2.length ko30) x375002_2 [(⟨a1, a2, 0⟩ : S95)] Xv89 ([(⟨a1, a2, 0⟩ : S95)].length) kv89 HM rfl Try.underlying30 info95 rfl (HM.CR 8 rfl).2.2 (by have h_ := LMc87.out; simp only [List.length_singleton]; omega) ?_; clear HM; intro v406 w90 HM; obtain ⟨Xo91, ko91, eo91⟩ := HM.rdR 1 rfl; subst eo91) | ((with_reducible refine gate_st (p := 86) rfl ?_); refine pS 6 86 2 [.slice Xo91 (x375002_2 ++ [(⟨a1, a2, 0⟩ : S95)]).length ko91] HM rfl rfl ?_; clear HM; intro w92 HM; obtain ⟨hcz93_0, hcz93_1, hcz93_2, hcz93_3, hcz93_4, hfz93_0, hfz93_1, hfz93_2, hfz93_3, hfz93_4⟩ := bk5 (HM.bx 6 rfl)) | ((with_reducible refine gate_st (p := 6) rfl ?_); refine pS 5 6 0 [.int .i64 x375000_2, .int .i64 x375001_2, .slice Xo91 (x375002_2 ++ [(⟨a1, a2, 0⟩ : S95)]).length ko91, .slice Xo31 x375003_2.length ko31, .slice Xo55 x375004_2.length ko55] HM rfl rfl ?_; clear HM; intro w94 HM))
         refine bodyPost_ret (results_ctt rfl _ _ gb347 32 #[.int .i64 x375000_2, .int .i64 x375001_2, .slice Xo91 (x375002_2 ++ [(⟨a1, a2, 0⟩ : S95)]).length ko91, .slice Xo31 x375003_2.length ko31, .slice Xo55 x375004_2.length ko55] (0, 0) _ rfl (HM.bx 5 rfl) Try.underlying32 rfl (by kernel_rfl)) rfl ?_
         exact ⟨_, _, _, _, ER, (MD HM).pick [1, 2, 3, 0]⟩
def spec_l10Without.l0 : Nat → ByteArray → List (S95) → List (S95) → Int → Int → Option ((List (S95)))
 | 0, _, _, _, _, _ => none
 | k + 1, x1, x5, x9, x10, x11 => if x11 < x10 then (if 0 ≤ x11 then (if x11 < (x9.length : Int) then (if ((rd_T95 x9 x11).f0).toList = x1.toList then (spec_l10Without.l0 k x1 x5 x9 x10 (wrap64 (x11 + 1))) else (if x5.length < 3518437208883 then (spec_l10Without.l0 k x1 (x5 ++ [(⟨(rd_T95 x9 x11).f0, (rd_T95 x9 x11).f1, (rd_T95 x9 x11).f2⟩ : S95)]) x9 x10 (wrap64 (x11 + 1))) else (none))) else (none)) else (none)) else (some x5)
def spec_l10Without.f (k : Nat) (l0 : List (S95)) (a1 : ByteArray) : Option ((List (S95))) := spec_l10Without.l0 k a1 (([] : List (S95))) l0 (l0.length : Int) 0
theorem spec_l10Without.mono_l : ∀ k, (∀ y0 y1 y2 y3 y4, LeO (spec_l10Without.l0 k y0 y1 y2 y3 y4) (spec_l10Without.l0 (k + 1) y0 y1 y2 y3 y4))
 | 0 => fun _ _ _ _ _ r h => by simp [spec_l10Without.l0] at h
 | k + 1 => by
  have ih0 := spec_l10Without.mono_l k
  ·intro y0 y1 y2 y3 y4
   unfold spec_l10Without.l0
   repeat' first | (with_reducible first | exact ih0 _ _ _ _ _ | exact LeO.refl _ | exact LeO.none _ | refine LeO.ite ?_ ?_ | refine LeO.bind ?_ (fun _ => ?_)) | exact ih0 _ _ _ _ _ | exact LeO.none _ | refine LeO.ite ?_ ?_ | refine LeO.bind ?_ (fun _ => ?_)
theorem spec_l10Without.mono : ∀ a0 a1 k, LeO (spec_l10Without.f k a0 a1) (spec_l10Without.f (k + 1) a0 a1) := by
 intro a0 a1 k
 have ih0 := spec_l10Without.mono_l k
 unfold spec_l10Without.f
 repeat' first | (with_reducible first | exact ih0 _ _ _ _ _ | exact LeO.refl _ | exact LeO.none _ | refine LeO.ite ?_ ?_ | refine LeO.bind ?_ (fun _ => ?_)) | exact ih0 _ _ _ _ _ | exact LeO.none _ | refine LeO.ite ?_ ?_ | refine LeO.bind ?_ (fun _ => ?_)
set_option maxHeartbeats 8000000 in
set_option maxRecDepth 100000 in
theorem spec_l10Without.calls (k : Nat) (A0 : Option Addr) (c0 : Nat) (l0 : List (S95)) (a1 : ByteArray) (r : List (S95)) (w : World) (hr0 : Kd.C k95 w A0 l0.length l0) (hc0 : l0.length ≤ c0) (h : spec_l10Without.f k l0 a1 = some r) :
  Calls Try.prog 73 #[.slice A0 l0.length c0, .string a1] w fun e w' => ∃ v0_ : Value, e = .returned (v0_) ∧ Mem w [] w' [rowR k95 95 v0_ r] := by
 have hu95 := Try.underlying95
 have HR0 := Aside0.mk hr0
 have HC0 := Aside0.mk hc0
 clear hr0 hc0
 have HM := Mem.nil w
 have H := h
 clear h
 unfold spec_l10Without.f at H
 go_enter Try.func73, Try.ntmps73
 have H' := Aside0.mk H
 clear H
 go_wp2_with (first | ((with_reducible refine gate_dst (N := 8) rfl ?_); refine pL 8 k95 95 ([] : List (S95)) [] (Reps.none _ _) HM rfl ?_; clear HM; intro v414 w3 HM))
 go_loopg [5, 11] k (fun kq v5 v11 w' => ∃ (x5_1 : List (S95)) (x11_1 : Int), v11 = .int .i64 x11_1 ∧ Aside0 (spec_l10Without.l0 kq a1 x5_1 l0 (l0.length : Int) x11_1 = some r) ∧ Aside0 (kq ≤ k) ∧ Mem w [] w' [rowR k95 95 v5 x5_1])
 case atStart => exact ⟨((([] : List (S95)))), (0), RS, H', ⟨Nat.le_refl _⟩, (MD HM).pick [0]⟩
 case round =>
  clear H' HM
  obtain ⟨x5_1, x11_1, rfl, HA, HK1, HM⟩ := hrel
  cases gk with
  | zero => exact absurd HA.out (by simp [spec_l10Without.l0])
  | succ k1 =>
   have H := HA.out
   clear HA
   simp only [spec_l10Without.l0] at H
   go_upto_if 12 with (fail)
   replace H := IT H; rcases H with ⟨c4, H⟩ | ⟨c4, H⟩
   ·have c4b0 : decide (x11_1 < (l0.length : Int)) = true := decide_eq_true c4
    clear c4
    (first | rw [c4b0] | (simp only [i64_w, i32_w]; rw [c4b0]) | skip)
    replace H := GD H; obtain ⟨c5, H⟩ := H
    have c5b0 : decide (0 ≤ x11_1) = true := decide_eq_true c5
    clear c5
    replace H := GD H; obtain ⟨c6, H⟩ := H
    have c6b0 : decide (x11_1 < (l0.length : Int)) = true := decide_eq_true c6
    clear c6
    have p416 : 0 ≤ (x11_1 : Int) := of_decide_eq_true AS
    have q416 : (x11_1 : Int) < (l0.length : Int) := of_decide_eq_true AS
    obtain ⟨ad416, e416, hx416_0, hx416_1, hx416_2⟩ := at_T95 (HM.came HR0.out) x11_1 p416 q416
    cases e416
    replace p416 := eq_true p416
    replace q416 := eq_true q416
    go_upto_if 18 with (first | ((with_reducible refine gate_dst (N := 7) rfl ?_); refine pB 7 95 [.string (⟨#[]⟩ : ByteArray), .string (⟨#[]⟩ : ByteArray), .int .i64 0] HM rfl ?_; clear HM; intro gb417 w7 HM) | ((with_reducible refine gate_st (p := 7) rfl ?_); refine pS 1 7 0 [.string ((rd_T95 l0 x11_1).f0), .string ((rd_T95 l0 x11_1).f1), .int .i64 ((rd_T95 l0 x11_1).f2)] HM rfl rfl ?_; clear HM; intro w8 HM; obtain ⟨hcz9_0, hcz9_1, hcz9_2, hfz9_0, hfz9_1, hfz9_2⟩ := bk3 (HM.bx 1 rfl)))
    replace HM := nzM HM
    replace H := IT H; rcases H with ⟨c10, H⟩ | ⟨c10, H⟩
    ·have c10b0 : (((rd_T95 l0 x11_1).f0).toList == a1.toList) = true := beq_iff_eq.mpr c10
     have c10b1 : (((rd_T95 l0 x11_1).f0).toList != a1.toList) = false := bne_eq_false_iff_eq.mpr c10
     clear c10
     (first | rw [c10b0] | (simp only [i64_w, i32_w]; rw [c10b0]) | skip)
     have H' := Aside0.mk H
     clear H
     go_wp2
     go_roundg k1
     case measure => have := HK1.out; omega
     case rel => exact ⟨(x5_1), (wrap64 (x11_1 + 1)), RS, H', ⟨by have := HK1.out; omega⟩, (MD HM).pick [0]⟩
    ·have c10b0 : (((rd_T95 l0 x11_1).f0).toList == a1.toList) = false := beq_eq_false_iff_ne.mpr c10
     have c10b1 : (((rd_T95 l0 x11_1).f0).toList != a1.toList) = true := bne_iff_ne.mpr c10
     (first | rw [c10b0] | (simp only [i64_w, i32_w]; rw [c10b0]) | skip)
     replace H := GD H; obtain ⟨c11, H⟩ := H
     have LMc11 := Aside0.mk c11
     clear c11
     have H' := Aside0.mk H
     clear H
     go_wp2_with (first | ((with_reducible refine gate_dst (N := 21) rfl ?_); refine pL 21 k95 95 [(⟨(rd_T95 l0 x11_1).f0, (rd_T95 l0 x11_1).f1, (rd_T95 l0 x11_1).f2⟩ : S95)] [.string ((rd_T95 l0 x11_1).f0), .string ((rd_T95 l0 x11_1).f1), .int .i64 ((rd_T95 l0 x11_1).f2)] (Reps.c3 (show Kd.M k95 _ _ _ (⟨(rd_T95 l0 x11_1).f0, (rd_T95 l0 x11_1).f1, (rd_T95 l0 x11_1).f2⟩ : S95) [.string ((rd_T95 l0 x11_1).f0), .string ((rd_T95 l0 x11_1).f1), .int .i64 ((rd_T95 l0 x11_1).f2)] from (k95_mkM _ _ _ (⟨(rd_T95 l0 x11_1).f0, (rd_T95 l0 x11_1).f1, (rd_T95 l0 x11_1).f2⟩ : S95))) (Reps.none _ _)) HM rfl ?_; clear HM; intro v13 w12 HM; obtain ⟨Xv13, kv13, ev13⟩ := HM.rdR 2 rfl; subst ev13) | ((with_reducible refine gate_builtin (b := .append) (xs := #[.tmp 19, .tmp 21]) rfl ?_); refine pA 0 (.tmp 19) (.tmp 21) 30 95 k95 u5 x5_1 [(⟨(rd_T95 l0 x11_1).f0, (rd_T95 l0 x11_1).f1, (rd_T95 l0 x11_1).f2⟩ : S95)] Xv13 ([(⟨(rd_T95 l0 x11_1).f0, (rd_T95 l0 x11_1).f1, (rd_T95 l0 x11_1).f2⟩ : S95)].length) kv13 HM rfl Try.underlying30 info95 rfl (HM.CR 2 rfl).2.2 (by have h_ := LMc11.out; simp only [List.length_singleton]; omega) ?_; clear HM; intro v419 w14 HM))
     go_roundg k1
     case measure => have := HK1.out; omega
     case rel => exact ⟨((x5_1 ++ [(⟨(rd_T95 l0 x11_1).f0, (rd_T95 l0 x11_1).f1, (rd_T95 l0 x11_1).f2⟩ : S95)])), (wrap64 (x11_1 + 1)), RS, H', ⟨by have := HK1.out; omega⟩, (MD HM).pick [0]⟩
   ·have c4b0 : decide (x11_1 < (l0.length : Int)) = false := decide_eq_false c4
    clear c4
    (first | rw [c4b0] | (simp only [i64_w, i32_w]; rw [c4b0]) | skip)
    obtain rfl := Option.some.inj H
    go_wp2
    go_ret
    exact ⟨_, ER, (MD HM).pick [0]⟩
def spec_Drop.f (k : Nat) (a0_0 : Int) (a0_1 : Int) (l0_2 : List (S95)) (l0_3 : List (S95)) (l0_4 : List Int) (a1 : ByteArray) : Option (Int × Int × (List (S95)) × (List (S95)) × List Int × Bool) := (spec_ThreeOk.f k a0_0 a0_1 l0_2 l0_3 l0_4).bind fun t423 => (if t423 = true then ((spec_l10Copy.f a0_0 a0_1 l0_2 l0_3 l0_4).bind fun bt424 => ((spec_l10Without.f k bt424.2.2.1 a1).bind fun t436 => ((spec_l10Without.f k bt424.2.2.2.1 a1).bind fun t439 => (some (bt424.1, bt424.2.1, t436, t439, bt424.2.2.2.2, decide ((wrap64 ((t436.length : Int) + (t439.length : Int))) < (wrap64 ((l0_2.length : Int) + (l0_3.length : Int))))))))) else (some (0, 0, ([] : List (S95)), ([] : List (S95)), ([] : List Int), false)))
theorem spec_Drop.mono : ∀ a0 a1 a2 a3 a4 a5 k, LeO (spec_Drop.f k a0 a1 a2 a3 a4 a5) (spec_Drop.f (k + 1) a0 a1 a2 a3 a4 a5) := by
 intro a0 a1 a2 a3 a4 a5 k
 unfold spec_Drop.f
 repeat' first | (with_reducible first | exact spec_ThreeOk.mono _ _ _ _ _ _ | exact spec_l10Without.mono _ _ _ | exact LeO.refl _ | exact LeO.none _ | refine LeO.ite ?_ ?_ | refine LeO.bind ?_ (fun _ => ?_)) | exact spec_ThreeOk.mono _ _ _ _ _ _ | exact spec_l10Without.mono _ _ _ | exact LeO.none _ | refine LeO.ite ?_ ?_ | refine LeO.bind ?_ (fun _ => ?_)
def spec_Drop.T6 : Bool × List (List Nat × List Nat) := (true, [([], []), ([], []), ([1], [1]), ([2], [2]), ([], []), ([4], [4]), ([5], [5]), ([3, 6], [3, 6]), ([], []), ([8], [8]), ([9], [9]), ([], []), ([11], [11]), ([12], [12]), ([10, 13], [10, 13]), ([7, 14], [7, 14]), ([0, 0], [0]), ([15, 16, 0, 1, 2, 3, 4, 5, 6, 7, 8, 9, 10, 11, 12, 13, 14, 15, 16], [15])])
def spec_Drop.B6 : List Nat := [0, 0, 2, 6, 0, 16, 48, 126, 0, 256, 768, 0, 2048, 6144, 16128, 32766, 1, 131071]
theorem spec_Drop.tab6 : rtab .any (opsOf Try.f36 6) = spec_Drop.T6 := by kernel_rfl
theorem spec_Drop.bits6 : waitsOk spec_Drop.T6.2 spec_Drop.B6 = true := by kernel_rfl
set_option maxHeartbeats 8000000 in
set_option maxRecDepth 100000 in
theorem spec_Drop.calls (k : Nat) (a0_0 : Int) (a0_1 : Int) (A0_2 : Option Addr) (c0_2 : Nat) (l0_2 : List (S95)) (A0_3 : Option Addr) (c0_3 : Nat) (l0_3 : List (S95)) (A0_4 : Option Addr) (c0_4 : Nat) (l0_4 : List Int) (a1 : ByteArray) (r1 : Int) (r2 : Int) (r3 : List (S95)) (r4 : List (S95)) (r5 : List Int) (r6 : Bool) (w : World) (hr0_2 : Kd.C k95 w A0_2 l0_2.length l0_2) (hc0_2 : l0_2.length ≤ c0_2) (hr0_3 : Kd.C k95 w A0_3 l0_3.length l0_3) (hc0_3 : l0_3.length ≤ c0_3) (hr0_4 : Kd.C (Kd.int .i64) w A0_4 l0_4.length l0_4) (hc0_4 : l0_4.length ≤ c0_4) (h : spec_Drop.f k a0_0 a0_1 l0_2 l0_3 l0_4 a1 = some (r1, r2, r3, r4, r5, r6)) :
  Calls Try.prog 36 #[.agg #[.int .i64 a0_0, .int .i64 a0_1, .slice A0_2 l0_2.length c0_2, .slice A0_3 l0_3.length c0_3, .slice A0_4 l0_4.length c0_4], .string a1] w fun e w' => ∃ v2_ v3_ v4_ : Value, e = .returned (.tuple #[.agg #[.int .i64 r1, .int .i64 r2, v2_, v3_, v4_], .bool r6]) ∧ Mem w [] w' [rowR k95 95 v2_ r3, rowR k95 95 v3_ r4, rowR (Kd.int .i64) 3 v4_ r5] := by
 have hu32 := Try.underlying32
 have HR0_2 := Aside0.mk hr0_2
 have HC0_2 := Aside0.mk hc0_2
 clear hr0_2 hc0_2
 have HR0_3 := Aside0.mk hr0_3
 have HC0_3 := Aside0.mk hc0_3
 clear hr0_3 hc0_3
 have HR0_4 := Aside0.mk hr0_4
 have HC0_4 := Aside0.mk hc0_4
 clear hr0_4 hc0_4
 have HM := Mem.nil w
 have H := h
 clear h
 unfold spec_Drop.f at H
 go_enter Try.func36, Try.ntmps36
 replace H := BN H; obtain ⟨t423, A6, H⟩ := H
 go_upto_if 9 with (first | ((with_reducible refine gate_dst (N := 2) rfl ?_); refine pB 2 32 [.int .i64 a0_0, .int .i64 a0_1, .slice A0_2 l0_2.length c0_2, .slice A0_3 l0_3.length c0_3, .slice A0_4 l0_4.length c0_4] HM rfl ?_; clear HM; intro gb421 w3 HM) | ((with_reducible refine gate_dst (N := 4) rfl ?_); refine pB 4 32 [.int .i64 0, .int .i64 0, .slice none 0 0, .slice none 0 0, .slice none 0 0] HM rfl ?_; clear HM; intro gb422 w4 HM; obtain ⟨hcz5_0, hcz5_1, hcz5_2, hcz5_3, hcz5_4, hfz5_0, hfz5_1, hfz5_2, hfz5_3, hfz5_4⟩ := bk5 (HM.bx 0 rfl)) | ((with_reducible refine gate_callee (f := 32) rfl ?_); refine pC (some 8) rfl #[.agg #[.int .i64 a0_0, .int .i64 a0_1, .slice A0_2 l0_2.length c0_2, .slice A0_3 l0_3.length c0_3, .slice A0_4 l0_4.length c0_4]] rfl Try.func32 (spec_ThreeOk.calls k a0_0 a0_1 _ _ l0_2 _ _ l0_3 _ _ l0_4 t423 _ (HM.came HR0_2.out) HC0_2.out (HM.came HR0_3.out) HC0_3.out (HM.came HR0_4.out) HC0_4.out A6.out) ?_; rintro e w7 ⟨rfl, hR⟩; refine ⟨_, rfl, ?_⟩; replace HM := HM.call hR; clear hR))
 replace HM := nzM HM
 replace H := IB H
 rcases H with ⟨c8, H⟩ | ⟨c8, H⟩
 ·subst c8
  replace H := BN H; obtain ⟨⟨t424, t425, t426, t429, t432⟩, A10, H⟩ := H
  replace H := BN H; obtain ⟨t436, A18, H⟩ := H
  replace H := BN H; obtain ⟨t439, A23, H⟩ := H
  obtain ⟨hcz9_0, hcz9_1, hcz9_2, hcz9_3, hcz9_4, hfz9_0, hfz9_1, hfz9_2, hfz9_3, hfz9_4⟩ := bk5 (HM.bx 0 rfl)
  try go_wp2_with (first | ((with_reducible refine gate_callee (f := 48) rfl ?_); refine pC (some 12) rfl #[.agg #[.int .i64 a0_0, .int .i64 a0_1, .slice A0_2 l0_2.length c0_2, .slice A0_3 l0_3.length c0_3, .slice A0_4 l0_4.length c0_4]] rfl Try.func48 (spec_l10Copy.calls a0_0 a0_1 _ _ l0_2 _ _ l0_3 _ _ l0_4 t424 t425 t426 t429 t432 _ (HM.came HR0_2.out) HC0_2.out (HM.came HR0_3.out) HC0_3.out (HM.came HR0_4.out) HC0_4.out A10.out) ?_; rintro e w11 ⟨v427, v430, v433, rfl, hR⟩; refine ⟨_, rfl, ?_⟩; replace HM := HM.call hR; clear hR) | ((with_reducible refine gate_dst (N := 6) rfl ?_); refine pB 6 32 [.int .i64 0, .int .i64 0, .slice none 0 0, .slice none 0 0, .slice none 0 0] HM rfl ?_; clear HM; intro gb435 w12 HM; obtain ⟨Xo13, ko13, eo13⟩ := HM.rdR 2 rfl; subst eo13; obtain ⟨Xo14, ko14, eo14⟩ := HM.rdR 3 rfl; subst eo14; obtain ⟨Xo15, ko15, eo15⟩ := HM.rdR 4 rfl; subst eo15) | ((with_reducible refine gate_st (p := 6) rfl ?_); refine pS 5 6 0 [.int .i64 t424, .int .i64 t425, .slice Xo13 t426.length ko13, .slice Xo14 t429.length ko14, .slice Xo15 t432.length ko15] HM rfl rfl ?_; clear HM; intro w16 HM; obtain ⟨hcz17_0, hcz17_1, hcz17_2, hcz17_3, hcz17_4, hfz17_0, hfz17_1, hfz17_2, hfz17_3, hfz17_4⟩ := bk5 (HM.bx 5 rfl)) | ((with_reducible refine gate_callee (f := 73) rfl ?_); refine pC (some 16) rfl #[.slice Xo13 t426.length ko13, .string a1] rfl Try.func73 (spec_l10Without.calls k _ _ t426 a1 t436 _ (HM.CR 2 rfl).2.2 (HM.CR 2 rfl).2.1 A18.out) ?_; rintro e w19 ⟨v437, rfl, hR⟩; refine ⟨_, rfl, ?_⟩; replace HM := HM.call hR; clear hR; obtain ⟨Xo20, ko20, eo20⟩ := HM.rdR 6 rfl; subst eo20) | ((with_reducible refine gate_st (p := 17) rfl ?_); refine pS 5 17 2 [.slice Xo20 t436.length ko20] HM rfl rfl ?_; clear HM; intro w21 HM; obtain ⟨hcz22_0, hcz22_1, hcz22_2, hcz22_3, hcz22_4, hfz22_0, hfz22_1, hfz22_2, hfz22_3, hfz22_4⟩ := bk5 (HM.bx 5 rfl)) | ((with_reducible refine gate_callee (f := 73) rfl ?_); refine pC (some 21) rfl #[.slice Xo14 t429.length ko14, .string a1] rfl Try.func73 (spec_l10Without.calls k _ _ t429 a1 t439 _ (HM.CR 3 rfl).2.2 (HM.CR 3 rfl).2.1 A23.out) ?_; rintro e w24 ⟨v440, rfl, hR⟩; refine ⟨_, rfl, ?_⟩; replace HM := HM.call hR; clear hR; obtain ⟨Xo25, ko25, eo25⟩ := HM.rdR 7 rfl; subst eo25) | ((with_reducible refine gate_st (p := 22) rfl ?_); refine pS 5 22 3 [.slice Xo25 t439.length ko25] HM rfl rfl ?_; clear HM; intro w26 HM))
  refine RGN 18 [0, 1, 2, 3, 4, 5, 6, 7, 8, 9, 10, 11, 12, 13, 14, 15, 16, 17] (fun a0 b a w' => a = putSel a0 b [(0, 23, .agg #[.int .i64 t424, .int .i64 t425, .slice Xo20 t436.length ko20, .slice Xo25 t439.length ko25, .slice Xo15 t432.length ko15]), (1, 24, .pointer (some ⟨gb435, 2, none⟩)), (2, 25, .slice Xo20 t436.length ko20), (3, 26, .int .i64 (t436.length : Int)), (4, 27, .pointer (some ⟨gb435, 3, none⟩)), (5, 28, .slice Xo25 t439.length ko25), (6, 29, .int .i64 (t439.length : Int)), (7, 30, .int .i64 (wrap64 ((t436.length : Int) + (t439.length : Int)))), (8, 31, .pointer (some ⟨gb421, 2, none⟩)), (9, 32, .slice A0_2 l0_2.length c0_2), (10, 33, .int .i64 (l0_2.length : Int)), (11, 34, .pointer (some ⟨gb421, 3, none⟩)), (12, 35, .slice A0_3 l0_3.length c0_3), (13, 36, .int .i64 (l0_3.length : Int)), (14, 37, .int .i64 (wrap64 ((l0_2.length : Int) + (l0_3.length : Int)))), (15, 38, .bool (decide ((wrap64 ((t436.length : Int) + (t439.length : Int))) < (wrap64 ((l0_2.length : Int) + (l0_3.length : Int)))))), (17, 5, .bool (decide ((wrap64 ((t436.length : Int) + (t439.length : Int))) < (wrap64 ((l0_2.length : Int) + (l0_3.length : Int))))))] ∧ Mem w [] w' [box 32 gb421 [.int .i64 a0_0, .int .i64 a0_1, .slice A0_2 l0_2.length c0_2, .slice A0_3 l0_3.length c0_3, .slice A0_4 l0_4.length c0_4], sel (b 16) (box 32 gb422 [.int .i64 t424, .int .i64 t425, .slice Xo20 t436.length ko20, .slice Xo25 t439.length ko25, .slice Xo15 t432.length ko15]) (box 32 gb422 [.int .i64 0, .int .i64 0, .slice none 0 0, .slice none 0 0, .slice none 0 0]), rowR k95 95 (.slice Xo13 t426.length ko13) t426, rowR k95 95 (.slice Xo14 t429.length ko14) t429, rowR (Kd.int .i64) 3 (.slice Xo15 t432.length ko15) t432, box 32 gb435 [.int .i64 t424, .int .i64 t425, .slice Xo20 t436.length ko20, .slice Xo25 t439.length ko25, .slice Xo15 t432.length ko15], rowR k95 95 (.slice Xo20 t436.length ko20) t436, rowR k95 95 (.slice Xo25 t439.length ko25) t439]) spec_Drop.tab6 spec_Drop.bits6 ?_ ?_ ?_
  ·exact ⟨PS0' rfl _, (HM.drew).pick [0, 1, 2, 3, 4, 5, 6, 7]⟩
  ·clear HM
   refine steps_cons ?_ ?_
   ·rintro b a w ⟨ha, HM⟩ hb hon hoff
    refine ⟨_, rfl, fun K hK => ?_⟩
    obtain ⟨hcz33_0, hcz33_1, hcz33_2, hcz33_3, hcz33_4, hfz33_0, hfz33_1, hfz33_2, hfz33_3, hfz33_4⟩ := bk5 (HM.bx 5 rfl)
    have e6 := POF ha 6
    replace ha := Aside0.mk ha
    exact VL (.agg #[.int .i64 t424, .int .i64 t425, .slice Xo20 t436.length ko20, .slice Xo25 t439.length ko25, .slice Xo15 t432.length ko15]) (hK.out _ _ ⟨PUT ha 0 hb, HM⟩)
   refine steps_cons ?_ ?_
   ·rintro b a w ⟨ha, HM⟩ hb hon hoff
    refine ⟨_, rfl, fun K hK => ?_⟩
    have e6 := POF ha 6
    replace ha := Aside0.mk ha
    exact VL (.pointer (some ⟨gb435, 2, none⟩)) (hK.out _ _ ⟨PUT ha 1 hb, HM⟩)
   refine steps_cons ?_ ?_
   ·rintro b a w ⟨ha, HM⟩ hb hon hoff
    refine ⟨_, rfl, fun K hK => ?_⟩
    obtain ⟨hcz34_0, hcz34_1, hcz34_2, hcz34_3, hcz34_4, hfz34_0, hfz34_1, hfz34_2, hfz34_3, hfz34_4⟩ := bk5 (HM.bx 5 rfl)
    have e24 := PON ha 1 (hon 1 (by kernel_rfl))
    replace ha := Aside0.mk ha
    exact VL (.slice Xo20 t436.length ko20) (hK.out _ _ ⟨PUT ha 2 hb, HM⟩)
   refine steps_cons ?_ ?_
   ·rintro b a w ⟨ha, HM⟩ hb hon hoff
    refine ⟨_, rfl, fun K hK => ?_⟩
    have e25 := PON ha 2 (hon 2 (by kernel_rfl))
    replace ha := Aside0.mk ha
    exact VL (.int .i64 (t436.length : Int)) (hK.out _ _ ⟨PUT ha 3 hb, HM⟩)
   refine steps_cons ?_ ?_
   ·rintro b a w ⟨ha, HM⟩ hb hon hoff
    refine ⟨_, rfl, fun K hK => ?_⟩
    have e6 := POF ha 6
    replace ha := Aside0.mk ha
    exact VL (.pointer (some ⟨gb435, 3, none⟩)) (hK.out _ _ ⟨PUT ha 4 hb, HM⟩)
   refine steps_cons ?_ ?_
   ·rintro b a w ⟨ha, HM⟩ hb hon hoff
    refine ⟨_, rfl, fun K hK => ?_⟩
    obtain ⟨hcz35_0, hcz35_1, hcz35_2, hcz35_3, hcz35_4, hfz35_0, hfz35_1, hfz35_2, hfz35_3, hfz35_4⟩ := bk5 (HM.bx 5 rfl)
    have e27 := PON ha 4 (hon 4 (by kernel_rfl))
    replace ha := Aside0.mk ha
    exact VL (.slice Xo25 t439.length ko25) (hK.out _ _ ⟨PUT ha 5 hb, HM⟩)
   refine steps_cons ?_ ?_
   ·rintro b a w ⟨ha, HM⟩ hb hon hoff
    refine ⟨_, rfl, fun K hK => ?_⟩
    have e28 := PON ha 5 (hon 5 (by kernel_rfl))
    replace ha := Aside0.mk ha
    exact VL (.int .i64 (t439.length : Int)) (hK.out _ _ ⟨PUT ha 6 hb, HM⟩)
   refine steps_cons ?_ ?_
   ·rintro b a w ⟨ha, HM⟩ hb hon hoff
    refine ⟨_, rfl, fun K hK => ?_⟩
    have e26 := PON ha 3 (hon 3 (by kernel_rfl))
    have e29 := PON ha 6 (hon 6 (by kernel_rfl))
    replace ha := Aside0.mk ha
    exact VL (.int .i64 (wrap64 ((t436.length : Int) + (t439.length : Int)))) (hK.out _ _ ⟨PUT ha 7 hb, HM⟩)
   refine steps_cons ?_ ?_
   ·rintro b a w ⟨ha, HM⟩ hb hon hoff
    refine ⟨_, rfl, fun K hK => ?_⟩
    have e2 := POF ha 2
    replace ha := Aside0.mk ha
    exact VL (.pointer (some ⟨gb421, 2, none⟩)) (hK.out _ _ ⟨PUT ha 8 hb, HM⟩)
   refine steps_cons ?_ ?_
   ·rintro b a w ⟨ha, HM⟩ hb hon hoff
    refine ⟨_, rfl, fun K hK => ?_⟩
    obtain ⟨hcz36_0, hcz36_1, hcz36_2, hcz36_3, hcz36_4, hfz36_0, hfz36_1, hfz36_2, hfz36_3, hfz36_4⟩ := bk5 (HM.bx 0 rfl)
    have e31 := PON ha 8 (hon 8 (by kernel_rfl))
    replace ha := Aside0.mk ha
    exact VL (.slice A0_2 l0_2.length c0_2) (hK.out _ _ ⟨PUT ha 9 hb, HM⟩)
   refine steps_cons ?_ ?_
   ·rintro b a w ⟨ha, HM⟩ hb hon hoff
    refine ⟨_, rfl, fun K hK => ?_⟩
    have e32 := PON ha 9 (hon 9 (by kernel_rfl))
    replace ha := Aside0.mk ha
    exact VL (.int .i64 (l0_2.length : Int)) (hK.out _ _ ⟨PUT ha 10 hb, HM⟩)
   refine steps_cons ?_ ?_
   ·rintro b a w ⟨ha, HM⟩ hb hon hoff
    refine ⟨_, rfl, fun K hK => ?_⟩
    have e2 := POF ha 2
    replace ha := Aside0.mk ha
    exact VL (.pointer (some ⟨gb421, 3, none⟩)) (hK.out _ _ ⟨PUT ha 11 hb, HM⟩)
   refine steps_cons ?_ ?_
   ·rintro b a w ⟨ha, HM⟩ hb hon hoff
    refine ⟨_, rfl, fun K hK => ?_⟩
    obtain ⟨hcz37_0, hcz37_1, hcz37_2, hcz37_3, hcz37_4, hfz37_0, hfz37_1, hfz37_2, hfz37_3, hfz37_4⟩ := bk5 (HM.bx 0 rfl)
    have e34 := PON ha 11 (hon 11 (by kernel_rfl))
    replace ha := Aside0.mk ha
    exact VL (.slice A0_3 l0_3.length c0_3) (hK.out _ _ ⟨PUT ha 12 hb, HM⟩)
   refine steps_cons ?_ ?_
   ·rintro b a w ⟨ha, HM⟩ hb hon hoff
    refine ⟨_, rfl, fun K hK => ?_⟩
    have e35 := PON ha 12 (hon 12 (by kernel_rfl))
    replace ha := Aside0.mk ha
    exact VL (.int .i64 (l0_3.length : Int)) (hK.out _ _ ⟨PUT ha 13 hb, HM⟩)
   refine steps_cons ?_ ?_
   ·rintro b a w ⟨ha, HM⟩ hb hon hoff
    refine ⟨_, rfl, fun K hK => ?_⟩
    have e33 := PON ha 10 (hon 10 (by kernel_rfl))
    have e36 := PON ha 13 (hon 13 (by kernel_rfl))
    replace ha := Aside0.mk ha
    exact VL (.int .i64 (wrap64 ((l0_2.length : Int) + (l0_3.length : Int)))) (hK.out _ _ ⟨PUT ha 14 hb, HM⟩)
   refine steps_cons ?_ ?_
   ·rintro b a w ⟨ha, HM⟩ hb hon hoff
    refine ⟨_, rfl, fun K hK => ?_⟩
    have e30 := PON ha 7 (hon 7 (by kernel_rfl))
    have e37 := PON ha 14 (hon 14 (by kernel_rfl))
    replace ha := Aside0.mk ha
    exact VL (.bool (decide ((wrap64 ((t436.length : Int) + (t439.length : Int))) < (wrap64 ((l0_2.length : Int) + (l0_3.length : Int)))))) (hK.out _ _ ⟨PUT ha 15 hb, HM⟩)
   refine steps_cons ?_ ?_
   ·rintro b a w ⟨ha, HM⟩ hb hon hoff
    refine ⟨_, rfl, fun K hK => ?_⟩
    replace HM := HM.sF 1 rfl hb
    have e4 := POF ha 4
    have e23 := PON ha 0 (hon 0 (by kernel_rfl))
    replace ha := Aside0.mk ha
    refine ST (eS 1 4 0 [.int .i64 t424, .int .i64 t425, .slice Xo20 t436.length ko20, .slice Xo25 t439.length ko25, .slice Xo15 t432.length ko15] HM rfl rfl ?_ (hp := (eval_of e4)) (hx := (by rw [eval_of e23]; rfl)))
    clear HM
    intro w38 HM
    exact hK.out _ _ ⟨PUS ha, (HM).pick [0, 1, 2, 3, 4, 5, 6, 7]⟩
   refine steps_cons ?_ ?_
   ·rintro b a w ⟨ha, HM⟩ hb hon hoff
    refine ⟨_, rfl, fun K hK => ?_⟩
    have e38 := PON ha 15 (hon 15 (by kernel_rfl))
    replace ha := Aside0.mk ha
    exact VL (.bool (decide ((wrap64 ((t436.length : Int) + (t439.length : Int))) < (wrap64 ((l0_2.length : Int) + (l0_3.length : Int)))))) (hK.out _ _ ⟨PUT ha 16 hb, HM⟩)
   exact steps_nil
  rintro _ w39 ⟨rfl, HM⟩
  replace HM := HM.sT 1 rfl rfl
  simp only [putSel, if_true, Act.put, List.setIfInBounds_toArray, List.set_cons_zero, List.set_cons_succ, gt_iff_lt, ge_iff_le]
  simp only [Option.some.injEq, Prod.mk.injEq] at H
  obtain ⟨rfl, rfl, rfl, rfl, rfl, rfl⟩ := H
  go_wp2
  refine bodyPost_ret (results_ct rfl _ _ gb422 32 #[.int .i64 t424, .int .i64 t425, .slice Xo20 t436.length ko20, .slice Xo25 t439.length ko25, .slice Xo15 t432.length ko15] (0, 0) _ rfl (HM.bx 1 rfl) Try.underlying32 rfl (by kernel_rfl)) rfl ?_
  exact ⟨_, _, _, ER, (MD HM).pick [6, 7, 4]⟩
 ·subst c8
  simp only [Option.some.injEq, Prod.mk.injEq] at H
  obtain ⟨rfl, rfl, rfl, rfl, rfl, rfl⟩ := H
  go_wp2_with (first | ((with_reducible refine gate_st (p := 4) rfl ?_); refine pS 1 4 0 [.int .i64 0, .int .i64 0, .slice none 0 0, .slice none 0 0, .slice none 0 0] HM rfl rfl ?_; clear HM; intro w40 HM; replace HM := HM.nl k95 95; replace HM := HM.nl k95 95; replace HM := HM.nl (Kd.int .i64) 3))
  refine bodyPost_ret (results_ct rfl _ _ gb422 32 #[.int .i64 0, .int .i64 0, .slice none 0 0, .slice none 0 0, .slice none 0 0] (0, 0) _ rfl (HM.bx 1 rfl) Try.underlying32 rfl (by kernel_rfl)) rfl ?_
  exact ⟨_, _, _, ER, (MD HM).pick [2, 3, 4]⟩
def spec_l01Of.f (s0_0 : List Int) (s0_1 : Int) (s0_2 : Int) (l1 : List ByteArray) : Option (ByteArray × Int × Int) := (spec_l01Below.f s0_0 s0_1 s0_2 (l1.length : Int)).bind fun bt1277 => (if 0 ≤ bt1277.1 then (if bt1277.1 < (l1.length : Int) then (some (rdOf ByteArray.empty l1 bt1277.1, bt1277.2.1, bt1277.2.2)) else (none)) else (none))
set_option maxHeartbeats 8000000 in
set_option maxRecDepth 100000 in
theorem spec_l01Of.calls (g : Nat) (A0_0 : Option Addr) (c0_0 : Nat) (s0_0 : List Int) (s0_1 : Int) (s0_2 : Int) (A1 : Option Addr) (c1 : Nat) (l1 : List ByteArray) (r1 : ByteArray) (r2 : Int) (r3 : Int) (w0 w : World) (F : List SP) (hrs0_0 : Kd.C (Kd.int .u8) w0 A0_0 s0_0.length s0_0) (hcs0_0 : s0_0.length ≤ c0_0) (hM : Mem w0 F w [box 83 g [.slice A0_0 s0_0.length c0_0, .int .i64 s0_1, .int .i64 s0_2], row Kd.string 9 (.slice A1 l1.length c1) l1]) (h : spec_l01Of.f s0_0 s0_1 s0_2 l1 = some (r1, r2, r3)) :
  Calls Try.prog 105 #[.pointer (some ⟨g, 0, none⟩), .slice A1 l1.length c1] w fun e w' => e = .returned (.string r1) ∧ Mem w0 F w' [box 83 g [.slice A0_0 s0_0.length c0_0, .int .i64 r2, .int .i64 r3], row Kd.string 9 (.slice A1 l1.length c1) l1] := by
 have HRs0_0 := Aside0.mk hrs0_0
 have HCs0_0 := Aside0.mk hcs0_0
 clear hrs0_0 hcs0_0
 have HM := hM
 clear hM
 have H := h
 clear h
 unfold spec_l01Of.f at H
 go_enter Try.func105, Try.ntmps105
 replace H := BN H; obtain ⟨⟨t1277, t1278, t1279⟩, A3, H⟩ := H
 replace H := GD H; obtain ⟨c5, H⟩ := H
 have c5b0 : decide (0 ≤ t1277) = true := decide_eq_true c5
 clear c5
 replace H := GD H; obtain ⟨c6, H⟩ := H
 have c6b0 : decide (t1277 < (l1.length : Int)) = true := decide_eq_true c6
 clear c6
 simp only [Option.some.injEq, Prod.mk.injEq] at H
 obtain ⟨rfl, rfl, rfl⟩ := H
 go_wp2_with (first | ((with_reducible refine gate_callee (f := 84) rfl ?_); refine pC (some 9) rfl #[.pointer (some ⟨g, 0, none⟩), .int .i64 (l1.length : Int)] rfl Try.func84 (spec_l01Below.calls g A0_0 c0_0 s0_0 s0_1 s0_2 (l1.length : Int) t1277 t1278 t1279 _ _ _ HRs0_0.out HCs0_0.out (HM.focus [1] [0]) A3.out) ?_; rintro e w4 ⟨rfl, hR⟩; refine ⟨_, rfl, ?_⟩; replace HM := nzM hR.unfocus; clear hR; have p1280 : 0 ≤ (t1277 : Int) := of_decide_eq_true AS; have q1280 : (t1277 : Int) < (l1.length : Int) := of_decide_eq_true AS; obtain ⟨ad1280, e1280, hx1280_0⟩ := Kd.at_string (HM.C 0 rfl).2.2 t1277 p1280 q1280; cases e1280; replace p1280 := eq_true p1280; replace q1280 := eq_true q1280))
 go_ret
 exact ⟨ER, (MD HM).pick [1, 0]⟩
def spec_l10Key.f (s0_0 : List Int) (s0_1 : Int) (s0_2 : Int) : Option (ByteArray × Int × Int) := (spec_l01Of.f s0_0 s0_1 s0_2 (([(⟨#[97]⟩ : ByteArray), (⟨#[98]⟩ : ByteArray), (⟨#[99]⟩ : ByteArray), (⟨#[100]⟩ : ByteArray), (⟨#[101]⟩ : ByteArray), (⟨#[102]⟩ : ByteArray), (⟨#[103]⟩ : ByteArray), (⟨#[104]⟩ : ByteArray)] : List ByteArray))).bind fun bt1284 => (some (bt1284.1, bt1284.2.1, bt1284.2.2))
set_option maxHeartbeats 8000000 in
set_option maxRecDepth 100000 in
theorem spec_l10Key.calls (g : Nat) (A0_0 : Option Addr) (c0_0 : Nat) (s0_0 : List Int) (s0_1 : Int) (s0_2 : Int) (r1 : ByteArray) (r2 : Int) (r3 : Int) (w0 w : World) (F : List SP) (hrs0_0 : Kd.C (Kd.int .u8) w0 A0_0 s0_0.length s0_0) (hcs0_0 : s0_0.length ≤ c0_0) (hM : Mem w0 F w [box 83 g [.slice A0_0 s0_0.length c0_0, .int .i64 s0_1, .int .i64 s0_2]]) (h : spec_l10Key.f s0_0 s0_1 s0_2 = some (r1, r2, r3)) :
  Calls Try.prog 100 #[.pointer (some ⟨g, 0, none⟩)] w fun e w' => e = .returned (.string r1) ∧ Mem w0 F w' [box 83 g [.slice A0_0 s0_0.length c0_0, .int .i64 r2, .int .i64 r3]] := by
 have HRs0_0 := Aside0.mk hrs0_0
 have HCs0_0 := Aside0.mk hcs0_0
 clear hrs0_0 hcs0_0
 have HM := hM
 clear hM
 have H := h
 clear h
 unfold spec_l10Key.f at H
 go_enter Try.func100, Try.ntmps100
 replace H := BN H; obtain ⟨⟨t1284, t1285, t1286⟩, A3, H⟩ := H
 simp only [Option.some.injEq, Prod.mk.injEq] at H
 obtain ⟨rfl, rfl, rfl⟩ := H
 go_wp2_with (first | ((with_reducible refine gate_dst (N := 4) rfl ?_); refine pL 4 Kd.string 9 ([(⟨#[97]⟩ : ByteArray), (⟨#[98]⟩ : ByteArray), (⟨#[99]⟩ : ByteArray), (⟨#[100]⟩ : ByteArray), (⟨#[101]⟩ : ByteArray), (⟨#[102]⟩ : ByteArray), (⟨#[103]⟩ : ByteArray), (⟨#[104]⟩ : ByteArray)] : List ByteArray) [.string (⟨#[97]⟩ : ByteArray), .string (⟨#[98]⟩ : ByteArray), .string (⟨#[99]⟩ : ByteArray), .string (⟨#[100]⟩ : ByteArray), .string (⟨#[101]⟩ : ByteArray), .string (⟨#[102]⟩ : ByteArray), .string (⟨#[103]⟩ : ByteArray), .string (⟨#[104]⟩ : ByteArray)] (Reps.one (show Kd.M Kd.string _ _ _ (⟨#[97]⟩ : ByteArray) [.string (⟨#[97]⟩ : ByteArray)] from rfl) (Reps.one (show Kd.M Kd.string _ _ _ (⟨#[98]⟩ : ByteArray) [.string (⟨#[98]⟩ : ByteArray)] from rfl) (Reps.one (show Kd.M Kd.string _ _ _ (⟨#[99]⟩ : ByteArray) [.string (⟨#[99]⟩ : ByteArray)] from rfl) (Reps.one (show Kd.M Kd.string _ _ _ (⟨#[100]⟩ : ByteArray) [.string (⟨#[100]⟩ : ByteArray)] from rfl) (Reps.one (show Kd.M Kd.string _ _ _ (⟨#[101]⟩ : ByteArray) [.string (⟨#[101]⟩ : ByteArray)] from rfl) (Reps.one (show Kd.M Kd.string _ _ _ (⟨#[102]⟩ : ByteArray) [.string (⟨#[102]⟩ : ByteArray)] from rfl) (Reps.one (show Kd.M Kd.string _ _ _ (⟨#[103]⟩ : ByteArray) [.string (⟨#[103]⟩ : ByteArray)] from rfl) (Reps.one (show Kd.M Kd.string _ _ _ (⟨#[104]⟩ : ByteArray) [.string (⟨#[104]⟩ : ByteArray)] from rfl) (Reps.none _ _))))))))) HM rfl ?_; clear HM; intro v1282 w2 HM; obtain ⟨Xo5, ko5, eo5⟩ := HM.rdR 1 rfl; subst eo5; replace HM := HM.toQ 1 rfl) | ((with_reducible refine gate_callee (f := 105) rfl ?_); refine pC (some 5) rfl #[.pointer (some ⟨g, 0, none⟩), .slice Xo5 (([(⟨#[97]⟩ : ByteArray), (⟨#[98]⟩ : ByteArray), (⟨#[99]⟩ : ByteArray), (⟨#[100]⟩ : ByteArray), (⟨#[101]⟩ : ByteArray), (⟨#[102]⟩ : ByteArray), (⟨#[103]⟩ : ByteArray), (⟨#[104]⟩ : ByteArray)] : List ByteArray)).length ko5] rfl Try.func105 (spec_l01Of.calls g A0_0 c0_0 s0_0 s0_1 s0_2 Xo5 ko5 (([(⟨#[97]⟩ : ByteArray), (⟨#[98]⟩ : ByteArray), (⟨#[99]⟩ : ByteArray), (⟨#[100]⟩ : ByteArray), (⟨#[101]⟩ : ByteArray), (⟨#[102]⟩ : ByteArray), (⟨#[103]⟩ : ByteArray), (⟨#[104]⟩ : ByteArray)] : List ByteArray)) t1284 t1285 t1286 _ _ _ HRs0_0.out HCs0_0.out (HM.focus [] [0, 1]) A3.out) ?_; rintro e w4 ⟨rfl, hR⟩; refine ⟨_, rfl, ?_⟩; replace HM := nzM hR.unfocus; clear hR))
 go_ret
 exact ⟨ER, (MD HM).pick [0]⟩
def spec_l10Val.f (s0_0 : List Int) (s0_1 : Int) (s0_2 : Int) : Option (ByteArray × Int × Int) := (spec_l01Of.f s0_0 s0_1 s0_2 (([(⟨#[49]⟩ : ByteArray), (⟨#[50]⟩ : ByteArray), (⟨#[51]⟩ : ByteArray), (⟨#[]⟩ : ByteArray), (⟨#[120]⟩ : ByteArray)] : List ByteArray))).bind fun bt1290 => (some (bt1290.1, bt1290.2.1, bt1290.2.2))
set_option maxHeartbeats 8000000 in
set_option maxRecDepth 100000 in
theorem spec_l10Val.calls (g : Nat) (A0_0 : Option Addr) (c0_0 : Nat) (s0_0 : List Int) (s0_1 : Int) (s0_2 : Int) (r1 : ByteArray) (r2 : Int) (r3 : Int) (w0 w : World) (F : List SP) (hrs0_0 : Kd.C (Kd.int .u8) w0 A0_0 s0_0.length s0_0) (hcs0_0 : s0_0.length ≤ c0_0) (hM : Mem w0 F w [box 83 g [.slice A0_0 s0_0.length c0_0, .int .i64 s0_1, .int .i64 s0_2]]) (h : spec_l10Val.f s0_0 s0_1 s0_2 = some (r1, r2, r3)) :
  Calls Try.prog 101 #[.pointer (some ⟨g, 0, none⟩)] w fun e w' => e = .returned (.string r1) ∧ Mem w0 F w' [box 83 g [.slice A0_0 s0_0.length c0_0, .int .i64 r2, .int .i64 r3]] := by
 have HRs0_0 := Aside0.mk hrs0_0
 have HCs0_0 := Aside0.mk hcs0_0
 clear hrs0_0 hcs0_0
 have HM := hM
 clear hM
 have H := h
 clear h
 unfold spec_l10Val.f at H
 go_enter Try.func101, Try.ntmps101
 replace H := BN H; obtain ⟨⟨t1290, t1291, t1292⟩, A3, H⟩ := H
 simp only [Option.some.injEq, Prod.mk.injEq] at H
 obtain ⟨rfl, rfl, rfl⟩ := H
 go_wp2_with (first | ((with_reducible refine gate_dst (N := 4) rfl ?_); refine pL 4 Kd.string 9 ([(⟨#[49]⟩ : ByteArray), (⟨#[50]⟩ : ByteArray), (⟨#[51]⟩ : ByteArray), (⟨#[]⟩ : ByteArray), (⟨#[120]⟩ : ByteArray)] : List ByteArray) [.string (⟨#[49]⟩ : ByteArray), .string (⟨#[50]⟩ : ByteArray), .string (⟨#[51]⟩ : ByteArray), .string (⟨#[]⟩ : ByteArray), .string (⟨#[120]⟩ : ByteArray)] (Reps.one (show Kd.M Kd.string _ _ _ (⟨#[49]⟩ : ByteArray) [.string (⟨#[49]⟩ : ByteArray)] from rfl) (Reps.one (show Kd.M Kd.string _ _ _ (⟨#[50]⟩ : ByteArray) [.string (⟨#[50]⟩ : ByteArray)] from rfl) (Reps.one (show Kd.M Kd.string _ _ _ (⟨#[51]⟩ : ByteArray) [.string (⟨#[51]⟩ : ByteArray)] from rfl) (Reps.one (show Kd.M Kd.string _ _ _ (⟨#[]⟩ : ByteArray) [.string (⟨#[]⟩ : ByteArray)] from rfl) (Reps.one (show Kd.M Kd.string _ _ _ (⟨#[120]⟩ : ByteArray) [.string (⟨#[120]⟩ : ByteArray)] from rfl) (Reps.none _ _)))))) HM rfl ?_; clear HM; intro v1288 w2 HM; obtain ⟨Xo5, ko5, eo5⟩ := HM.rdR 1 rfl; subst eo5; replace HM := HM.toQ 1 rfl) | ((with_reducible refine gate_callee (f := 105) rfl ?_); refine pC (some 5) rfl #[.pointer (some ⟨g, 0, none⟩), .slice Xo5 (([(⟨#[49]⟩ : ByteArray), (⟨#[50]⟩ : ByteArray), (⟨#[51]⟩ : ByteArray), (⟨#[]⟩ : ByteArray), (⟨#[120]⟩ : ByteArray)] : List ByteArray)).length ko5] rfl Try.func105 (spec_l01Of.calls g A0_0 c0_0 s0_0 s0_1 s0_2 Xo5 ko5 (([(⟨#[49]⟩ : ByteArray), (⟨#[50]⟩ : ByteArray), (⟨#[51]⟩ : ByteArray), (⟨#[]⟩ : ByteArray), (⟨#[120]⟩ : ByteArray)] : List ByteArray)) t1290 t1291 t1292 _ _ _ HRs0_0.out HCs0_0.out (HM.focus [] [0, 1]) A3.out) ?_; rintro e w4 ⟨rfl, hR⟩; refine ⟨_, rfl, ?_⟩; replace HM := nzM hR.unfocus; clear hR))
 go_ret
 exact ⟨ER, (MD HM).pick [0]⟩
def spec_l10Some.f (k : Nat) (s0_0 : List Int) (s0_1 : Int) (s0_2 : Int) (a1_0 : Int) (a1_1 : Int) (l1_2 : List (S95)) (l1_3 : List (S95)) (l1_4 : List Int) : Option (Int × Int × (List (S95)) × (List (S95)) × List Int × Int × Int) := (spec_l01Below.f s0_0 s0_1 s0_2 9).bind fun bt1295 => (if bt1295.1 < 4 then ((spec_l10Key.f s0_0 bt1295.2.1 bt1295.2.2).bind fun bt1298 => ((spec_l10Val.f s0_0 bt1298.2.1 bt1298.2.2).bind fun bt1301 => ((spec_Put.f k a1_0 a1_1 l1_2 l1_3 l1_4 bt1298.1 bt1301.1).bind fun bt1304 => (some (bt1304.1, bt1304.2.1, bt1304.2.2.1, bt1304.2.2.2.1, bt1304.2.2.2.2.1, bt1301.2.1, bt1301.2.2))))) else (if bt1295.1 < 8 then ((spec_l10Key.f s0_0 bt1295.2.1 bt1295.2.2).bind fun bt1319 => ((spec_Get.f k a1_0 a1_1 l1_2 l1_3 l1_4 bt1319.1).bind fun bt1322 => (some (bt1322.1, bt1322.2.1, bt1322.2.2.1, bt1322.2.2.2.1, bt1322.2.2.2.2.1, bt1319.2.1, bt1319.2.2)))) else ((spec_l10Key.f s0_0 bt1295.2.1 bt1295.2.2).bind fun bt1335 => ((spec_Drop.f k a1_0 a1_1 l1_2 l1_3 l1_4 bt1335.1).bind fun bt1338 => (some (bt1338.1, bt1338.2.1, bt1338.2.2.1, bt1338.2.2.2.1, bt1338.2.2.2.2.1, bt1335.2.1, bt1335.2.2))))))
theorem spec_l10Some.mono : ∀ a0 a1 a2 a3 a4 a5 a6 a7 k, LeO (spec_l10Some.f k a0 a1 a2 a3 a4 a5 a6 a7) (spec_l10Some.f (k + 1) a0 a1 a2 a3 a4 a5 a6 a7) := by
 intro a0 a1 a2 a3 a4 a5 a6 a7 k
 unfold spec_l10Some.f
 repeat' first | (with_reducible first | exact spec_Drop.mono _ _ _ _ _ _ _ | exact spec_Get.mono _ _ _ _ _ _ _ | exact spec_Put.mono _ _ _ _ _ _ _ _ | exact LeO.refl _ | exact LeO.none _ | refine LeO.ite ?_ ?_ | refine LeO.bind ?_ (fun _ => ?_)) | exact spec_Drop.mono _ _ _ _ _ _ _ | exact spec_Get.mono _ _ _ _ _ _ _ | exact spec_Put.mono _ _ _ _ _ _ _ _ | exact LeO.none _ | refine LeO.ite ?_ ?_ | refine LeO.bind ?_ (fun _ => ?_)
def spec_l10Some.T2 : Bool × List (List Nat × List Nat) := (true, [([], []), ([], []), ([1], [1]), ([0, 2, 2], [0, 2]), ([3], [3]), ([4], [4]), ([4], [4]), ([5, 3, 0, 1, 2, 3, 4, 5], [5])])
def spec_l10Some.B2 : List Nat := [0, 0, 2, 7, 15, 31, 31, 63]
theorem spec_l10Some.tab2 : rtab .any (opsOf Try.f86 2) = spec_l10Some.T2 := by kernel_rfl
theorem spec_l10Some.bits2 : waitsOk spec_l10Some.T2.2 spec_l10Some.B2 = true := by kernel_rfl
def spec_l10Some.T4 : Bool × List (List Nat × List Nat) := (true, [([], []), ([], []), ([1], [1]), ([], []), ([3, 2], [3]), ([0, 2, 4, 4], [0, 2, 4]), ([5], [5]), ([6], [6]), ([6], [6]), ([6], [6]), ([7, 5, 0, 1, 2, 3, 4, 5, 6, 7], [7])])
def spec_l10Some.B4 : List Nat := [0, 0, 2, 0, 14, 31, 63, 127, 127, 127, 255]
theorem spec_l10Some.tab4 : rtab .any (opsOf Try.f86 4) = spec_l10Some.T4 := by kernel_rfl
theorem spec_l10Some.bits4 : waitsOk spec_l10Some.T4.2 spec_l10Some.B4 = true := by kernel_rfl
def spec_l10Some.T6 : Bool × List (List Nat × List Nat) := (true, [([], []), ([], []), ([1], [1]), ([0, 2, 2], [0, 2]), ([3], [3]), ([4], [4]), ([4], [4]), ([4], [4]), ([5, 3, 0, 1, 2, 3, 4, 5], [5])])
def spec_l10Some.B6 : List Nat := [0, 0, 2, 7, 15, 31, 31, 31, 63]
theorem spec_l10Some.tab6 : rtab .any (opsOf Try.f86 6) = spec_l10Some.T6 := by kernel_rfl
theorem spec_l10Some.bits6 : waitsOk spec_l10Some.T6.2 spec_l10Some.B6 = true := by kernel_rfl
set_option maxHeartbeats 8000000 in
set_option maxRecDepth 100000 in
theorem spec_l10Some.calls (k : Nat) (g : Nat) (A0_0 : Option Addr) (c0_0 : Nat) (s0_0 : List Int) (s0_1 : Int) (s0_2 : Int) (a1_0 : Int) (a1_1 : Int) (A1_2 : Option Addr) (c1_2 : Nat) (l1_2 : List (S95)) (A1_3 : Option Addr) (c1_3 : Nat) (l1_3 : List (S95)) (A1_4 : Option Addr) (c1_4 : Nat) (l1_4 : List Int) (r1 : Int) (r2 : Int) (r3 : List (S95)) (r4 : List (S95)) (r5 : List Int) (r6 : Int) (r7 : Int) (w0 w : World) (F : List SP) (hrs0_0 : Kd.C (Kd.int .u8) w0 A0_0 s0_0.length s0_0) (hcs0_0 : s0_0.length ≤ c0_0) (hM : Mem w0 F w [box 83 g [.slice A0_0 s0_0.length c0_0, .int .i64 s0_1, .int .i64 s0_2], row k95 95 (.slice A1_2 l1_2.length c1_2) l1_2, row k95 95 (.slice A1_3 l1_3.length c1_3) l1_3, row (Kd.int .i64) 3 (.slice A1_4 l1_4.length c1_4) l1_4]) (h : spec_l10Some.f k s0_0 s0_1 s0_2 a1_0 a1_1 l1_2 l1_3 l1_4 = some (r1, r2, r3, r4, r5, r6, r7)) :
  Calls Try.prog 86 #[.pointer (some ⟨g, 0, none⟩), .agg #[.int .i64 a1_0, .int .i64 a1_1, .slice A1_2 l1_2.length c1_2, .slice A1_3 l1_3.length c1_3, .slice A1_4 l1_4.length c1_4]] w fun e w' => ∃ v2_ v3_ v4_ : Value, e = .returned (.agg #[.int .i64 r1, .int .i64 r2, v2_, v3_, v4_]) ∧ Mem w0 F w' [rowR k95 95 v2_ r3, rowR k95 95 v3_ r4, row (Kd.int .i64) 3 v4_ r5, box 83 g [.slice A0_0 s0_0.length c0_0, .int .i64 r6, .int .i64 r7], row k95 95 (.slice A1_2 l1_2.length c1_2) l1_2, row k95 95 (.slice A1_3 l1_3.length c1_3) l1_3, row (Kd.int .i64) 3 (.slice A1_4 l1_4.length c1_4) l1_4] := by
 have hu32 := Try.underlying32
 have HRs0_0 := Aside0.mk hrs0_0
 have HCs0_0 := Aside0.mk hcs0_0
 clear hrs0_0 hcs0_0
 have HM := hM
 clear hM
 have H := h
 clear h
 unfold spec_l10Some.f at H
 go_enter Try.func86, Try.ntmps86
 replace H := BN H; obtain ⟨⟨t1295, t1296, t1297⟩, A5, H⟩ := H
 go_upto_if 15 with (first | ((with_reducible refine gate_dst (N := 3) rfl ?_); refine pB 3 32 [.int .i64 a1_0, .int .i64 a1_1, .slice A1_2 l1_2.length c1_2, .slice A1_3 l1_3.length c1_3, .slice A1_4 l1_4.length c1_4] HM rfl ?_; clear HM; intro gb1293 w3 HM) | ((with_reducible refine gate_dst (N := 4) rfl ?_); refine pB 4 32 [.int .i64 0, .int .i64 0, .slice none 0 0, .slice none 0 0, .slice none 0 0] HM rfl ?_; clear HM; intro gb1294 w4 HM) | ((with_reducible refine gate_callee (f := 84) rfl ?_); refine pC (some 7) rfl #[.pointer (some ⟨g, 0, none⟩), .int .i64 9] rfl Try.func84 (spec_l01Below.calls g A0_0 c0_0 s0_0 s0_1 s0_2 9 t1295 t1296 t1297 _ _ _ HRs0_0.out HCs0_0.out (HM.focus [1, 2, 3, 4, 5] [0]) A5.out) ?_; rintro e w6 ⟨rfl, hR⟩; refine ⟨_, rfl, ?_⟩; replace HM := nzM hR.unfocus; clear hR))
 replace HM := nzM HM
 replace H := IT H; rcases H with ⟨c7, H⟩ | ⟨c7, H⟩
 ·have c7b0 : decide (t1295 < 4) = true := decide_eq_true c7
  clear c7
  (first | rw [c7b0] | (simp only [i64_w, i32_w]; rw [c7b0]) | skip)
  try go_wp2
  replace H := BN H; obtain ⟨⟨t1298, t1299, t1300⟩, A8, H⟩ := H
  replace H := BN H; obtain ⟨⟨t1301, t1302, t1303⟩, A9, H⟩ := H
  replace H := BN H; obtain ⟨⟨t1304, t1305, t1306, t1309, t1312, t1315, t1318⟩, A10, H⟩ := H
  refine RGN 11 [0, 1, 2, 3, 4, 5, 6, 7, 8, 9, 10] (fun a0 b a w' => ∃ (v1307 : Value) (v1310 : Value) (v1313 : Value) (v1316 : Value), a = putSel a0 b [(0, 19, .agg #[.int .i64 a1_0, .int .i64 a1_1, .slice A1_2 l1_2.length c1_2, .slice A1_3 l1_3.length c1_3, .slice A1_4 l1_4.length c1_4]), (1, 20, .pointer (some ⟨g, 0, none⟩)), (2, 21, .string t1298), (3, 22, .pointer (some ⟨g, 0, none⟩)), (4, 23, .string t1301), (5, 24, .tuple #[.agg #[.int .i64 t1304, .int .i64 t1305, v1307, v1310, v1313], v1316, .bool t1318]), (6, 18, .tuple #[.agg #[.int .i64 t1304, .int .i64 t1305, v1307, v1310, v1313], v1316, .bool t1318]), (7, 25, .agg #[.int .i64 t1304, .int .i64 t1305, v1307, v1310, v1313]), (8, 26, v1316), (9, 27, .bool t1318)] ∧ Mem w0 F w' [row k95 95 (.slice A1_2 l1_2.length c1_2) l1_2, row k95 95 (.slice A1_3 l1_3.length c1_3) l1_3, row (Kd.int .i64) 3 (.slice A1_4 l1_4.length c1_4) l1_4, sel (b 10) (box 32 gb1293 [.int .i64 t1304, .int .i64 t1305, v1307, v1310, v1313]) (box 32 gb1293 [.int .i64 a1_0, .int .i64 a1_1, .slice A1_2 l1_2.length c1_2, .slice A1_3 l1_3.length c1_3, .slice A1_4 l1_4.length c1_4]), box 32 gb1294 [.int .i64 0, .int .i64 0, .slice none 0 0, .slice none 0 0, .slice none 0 0], sel (b 4) (box 83 g [.slice A0_0 s0_0.length c0_0, .int .i64 t1302, .int .i64 t1303]) (sel (b 2) (box 83 g [.slice A0_0 s0_0.length c0_0, .int .i64 t1299, .int .i64 t1300]) (box 83 g [.slice A0_0 s0_0.length c0_0, .int .i64 t1296, .int .i64 t1297])), sel (b 5) (rowR k95 95 v1307 t1306) (emp), sel (b 5) (rowR k95 95 v1310 t1309) (emp), sel (b 5) (row (Kd.int .i64) 3 v1313 t1312) (emp), sel (b 5) (rowR Kd.string 9 v1316 t1315) (emp)]) spec_l10Some.tab4 spec_l10Some.bits4 ?_ ?_ ?_
  ·exact ⟨.bool false, .bool false, .bool false, .bool false, PS0' rfl _, (HM.drew.ems 4).pick [0, 1, 2, 3, 4, 5, 6, 7, 8, 9]⟩
  ·clear HM
   refine steps_cons ?_ ?_
   ·rintro b a w ⟨v1307, v1310, v1313, v1316, ha, HM⟩ hb hon hoff
    refine ⟨_, rfl, fun K hK => ?_⟩
    have HZ := HM
    replace HM := HM.sF 3 rfl (hoff 10 (by kernel_rfl))
    obtain ⟨hcz19_0, hcz19_1, hcz19_2, hcz19_3, hcz19_4, hfz19_0, hfz19_1, hfz19_2, hfz19_3, hfz19_4⟩ := bk5 (HM.bx 3 rfl)
    have e3 := POF ha 3
    replace ha := Aside0.mk ha
    exact VL (.agg #[.int .i64 a1_0, .int .i64 a1_1, .slice A1_2 l1_2.length c1_2, .slice A1_3 l1_3.length c1_3, .slice A1_4 l1_4.length c1_4]) (hK.out _ _ ⟨v1307, v1310, v1313, v1316, PUT ha 0 hb, HZ⟩)
   refine steps_cons ?_ ?_
   ·rintro b a w ⟨v1307, v1310, v1313, v1316, ha, HM⟩ hb hon hoff
    refine ⟨_, rfl, fun K hK => ?_⟩
    have e0 := POF ha 0
    replace ha := Aside0.mk ha
    exact VL (.pointer (some ⟨g, 0, none⟩)) (hK.out _ _ ⟨v1307, v1310, v1313, v1316, PUT ha 1 hb, HM⟩)
   refine steps_cons ?_ ?_
   ·rintro b a w ⟨v1307, v1310, v1313, v1316, ha, HM⟩ hb hon hoff
    refine ⟨_, rfl, fun K hK => ?_⟩
    replace HM := (HM.sF 5 rfl (hoff 4 (by kernel_rfl))).sF 5 rfl hb
    have e20 := PON ha 1 (hon 1 (by kernel_rfl))
    replace ha := Aside0.mk ha
    refine ST (eC (some 21) rfl #[.pointer (some ⟨g, 0, none⟩)] rfl Try.func100 (spec_l10Key.calls g A0_0 c0_0 s0_0 t1296 t1297 t1298 t1299 t1300 _ _ _ HRs0_0.out HCs0_0.out (HM.focus [0, 1, 2, 3, 4, 6, 7, 8, 9] [5]) A8.out) ?_ (hargs := by (simp only [List.map_toArray, List.map_cons, List.map_nil, evc, eval_of e20]) <;> rfl))
    rintro e w20 ⟨rfl, hR⟩
    refine ⟨_, rfl, ?_⟩
    replace HM := nzM hR.unfocus
    clear hR
    exact hK.out _ _ ⟨v1307, v1310, v1313, v1316, PUT ha 2 hb, (HM.iF 9 rfl (hoff 4 (by kernel_rfl))).pick [0, 1, 2, 3, 4, 9, 5, 6, 7, 8]⟩
   refine steps_cons ?_ ?_
   ·rintro b a w ⟨v1307, v1310, v1313, v1316, ha, HM⟩ hb hon hoff
    refine ⟨_, rfl, fun K hK => ?_⟩
    have e0 := POF ha 0
    replace ha := Aside0.mk ha
    exact VL (.pointer (some ⟨g, 0, none⟩)) (hK.out _ _ ⟨v1307, v1310, v1313, v1316, PUT ha 3 hb, HM⟩)
   refine steps_cons ?_ ?_
   ·rintro b a w ⟨v1307, v1310, v1313, v1316, ha, HM⟩ hb hon hoff
    refine ⟨_, rfl, fun K hK => ?_⟩
    replace HM := (HM.sF 5 rfl hb).sT 5 rfl (hon 2 (by kernel_rfl))
    have e22 := PON ha 3 (hon 3 (by kernel_rfl))
    replace ha := Aside0.mk ha
    refine ST (eC (some 23) rfl #[.pointer (some ⟨g, 0, none⟩)] rfl Try.func101 (spec_l10Val.calls g A0_0 c0_0 s0_0 t1299 t1300 t1301 t1302 t1303 _ _ _ HRs0_0.out HCs0_0.out (HM.focus [0, 1, 2, 3, 4, 6, 7, 8, 9] [5]) A9.out) ?_ (hargs := by (simp only [List.map_toArray, List.map_cons, List.map_nil, evc, eval_of e22]) <;> rfl))
    rintro e w21 ⟨rfl, hR⟩
    refine ⟨_, rfl, ?_⟩
    replace HM := nzM hR.unfocus
    clear hR
    exact hK.out _ _ ⟨v1307, v1310, v1313, v1316, PUT ha 4 hb, (HM).pick [0, 1, 2, 3, 4, 9, 5, 6, 7, 8]⟩
   refine steps_cons ?_ ?_
   ·rintro b a w ⟨v1307, v1310, v1313, v1316, ha, HM⟩ hb hon hoff
    refine ⟨_, rfl, fun K hK => ?_⟩
    have e19 := PON ha 0 (hon 0 (by kernel_rfl))
    have e21 := PON ha 2 (hon 2 (by kernel_rfl))
    have e23 := PON ha 4 (hon 4 (by kernel_rfl))
    replace ha := Aside0.mk ha
    refine ST (eC (some 24) rfl #[.agg #[.int .i64 a1_0, .int .i64 a1_1, .slice A1_2 l1_2.length c1_2, .slice A1_3 l1_3.length c1_3, .slice A1_4 l1_4.length c1_4], .string t1298, .string t1301] rfl Try.func35 (spec_Put.calls k a1_0 a1_1 _ _ l1_2 _ _ l1_3 _ _ l1_4 t1298 t1301 t1304 t1305 t1306 t1309 t1312 t1315 t1318 _ (HM.C 0 rfl).2.2 (HM.C 0 rfl).2.1 (HM.C 1 rfl).2.2 (HM.C 1 rfl).2.1 (HM.C 2 rfl).2.2 (HM.C 2 rfl).2.1 A10.out) ?_ (hargs := by (simp only [List.map_toArray, List.map_cons, List.map_nil, evc, eval_of e19, eval_of e21, eval_of e23]) <;> rfl))
    rintro e w22 ⟨v1307, v1310, v1313, v1316, rfl, hR⟩
    refine ⟨_, rfl, ?_⟩
    replace HM := HM.call hR
    clear hR
    exact hK.out _ _ ⟨v1307, v1310, v1313, v1316, PUT (PCH (PCH (PCH ha 6 (hoff 6 (by kernel_rfl))) 7 (hoff 7 (by kernel_rfl))) 8 (hoff 8 (by kernel_rfl))) 5 hb, ((HM.sF 3 rfl (hoff 10 (by kernel_rfl))).iF 3 rfl (hoff 10 (by kernel_rfl))).pick [0, 1, 2, 3, 4, 5, 10, 11, 12, 13]⟩
   refine steps_cons ?_ ?_
   ·rintro b a w ⟨v1307, v1310, v1313, v1316, ha, HM⟩ hb hon hoff
    refine ⟨_, rfl, fun K hK => ?_⟩
    have e24 := PON ha 5 (hon 5 (by kernel_rfl))
    replace ha := Aside0.mk ha
    exact VL (.tuple #[.agg #[.int .i64 t1304, .int .i64 t1305, v1307, v1310, v1313], v1316, .bool t1318]) (hK.out _ _ ⟨v1307, v1310, v1313, v1316, PUT ha 6 hb, HM⟩)
   refine steps_cons ?_ ?_
   ·rintro b a w ⟨v1307, v1310, v1313, v1316, ha, HM⟩ hb hon hoff
    refine ⟨_, rfl, fun K hK => ?_⟩
    have e18 := PON ha 6 (hon 6 (by kernel_rfl))
    replace ha := Aside0.mk ha
    exact VL (.agg #[.int .i64 t1304, .int .i64 t1305, v1307, v1310, v1313]) (hK.out _ _ ⟨v1307, v1310, v1313, v1316, PUT ha 7 hb, HM⟩)
   refine steps_cons ?_ ?_
   ·rintro b a w ⟨v1307, v1310, v1313, v1316, ha, HM⟩ hb hon hoff
    refine ⟨_, rfl, fun K hK => ?_⟩
    have e18 := PON ha 6 (hon 6 (by kernel_rfl))
    replace ha := Aside0.mk ha
    exact VL (v1316) (hK.out _ _ ⟨v1307, v1310, v1313, v1316, PUT ha 8 hb, HM⟩)
   refine steps_cons ?_ ?_
   ·rintro b a w ⟨v1307, v1310, v1313, v1316, ha, HM⟩ hb hon hoff
    refine ⟨_, rfl, fun K hK => ?_⟩
    have e18 := PON ha 6 (hon 6 (by kernel_rfl))
    replace ha := Aside0.mk ha
    exact VL (.bool t1318) (hK.out _ _ ⟨v1307, v1310, v1313, v1316, PUT ha 9 hb, HM⟩)
   refine steps_cons ?_ ?_
   ·rintro b a w ⟨v1307, v1310, v1313, v1316, ha, HM⟩ hb hon hoff
    refine ⟨_, rfl, fun K hK => ?_⟩
    replace HM := HM.sF 3 rfl hb
    replace HM := HM.sT 6 rfl (hon 5 (by kernel_rfl))
    replace HM := HM.sT 7 rfl (hon 5 (by kernel_rfl))
    replace HM := HM.sT 8 rfl (hon 5 (by kernel_rfl))
    obtain ⟨Xo23, ko23, eo23⟩ := HM.rdR 6 rfl
    subst eo23
    obtain ⟨Xo24, ko24, eo24⟩ := HM.rdR 7 rfl
    subst eo24
    obtain ⟨Xo25, ko25, eo25⟩ := HM.rd 8 rfl
    subst eo25
    have e3 := POF ha 3
    have e25 := PON ha 7 (hon 7 (by kernel_rfl))
    replace ha := Aside0.mk ha
    refine ST (eS 3 3 0 [.int .i64 t1304, .int .i64 t1305, .slice Xo23 t1306.length ko23, .slice Xo24 t1309.length ko24, .slice Xo25 t1312.length ko25] HM rfl rfl ?_ (hp := (eval_of e3)) (hx := (by rw [eval_of e25]; rfl)))
    clear HM
    intro w26 HM
    exact hK.out _ _ ⟨.slice Xo23 t1306.length ko23, .slice Xo24 t1309.length ko24, .slice Xo25 t1312.length ko25, v1316, PUS ha, (((HM.iT 6 rfl (hon 5 (by kernel_rfl))).iT 7 rfl (hon 5 (by kernel_rfl))).iT 8 rfl (hon 5 (by kernel_rfl))).pick [0, 1, 2, 3, 4, 5, 6, 7, 8, 9]⟩
   exact steps_nil
  rintro _ w27 ⟨v1307, v1310, v1313, v1316, rfl, HM⟩
  replace HM := HM.sT 3 rfl rfl
  replace HM := HM.sT 5 rfl rfl
  replace HM := HM.sT 6 rfl rfl
  replace HM := HM.sT 7 rfl rfl
  replace HM := HM.sT 8 rfl rfl
  replace HM := HM.sT 9 rfl rfl
  simp only [putSel, if_true, Act.put, List.setIfInBounds_toArray, List.set_cons_zero, List.set_cons_succ, gt_iff_lt, ge_iff_le]
  simp only [Option.some.injEq, Prod.mk.injEq] at H
  obtain ⟨rfl, rfl, rfl, rfl, rfl, rfl, rfl⟩ := H
  obtain ⟨hcz28_0, hcz28_1, hcz28_2, hcz28_3, hcz28_4, hfz28_0, hfz28_1, hfz28_2, hfz28_3, hfz28_4⟩ := bk5 (HM.bx 3 rfl)
  obtain ⟨Xo29, ko29, eo29⟩ := HM.rdR 6 rfl
  subst eo29
  obtain ⟨Xo30, ko30, eo30⟩ := HM.rdR 7 rfl
  subst eo30
  obtain ⟨Xo31, ko31, eo31⟩ := HM.rd 8 rfl
  subst eo31
  go_wp2_with (first | ((with_reducible refine gate_st (p := 4) rfl ?_); refine pS 4 4 0 [.int .i64 t1304, .int .i64 t1305, .slice Xo29 t1306.length ko29, .slice Xo30 t1309.length ko30, .slice Xo31 t1312.length ko31] HM rfl rfl ?_; clear HM; intro w32 HM))
  refine bodyPost_ret (results_cell_row rfl _ _ gb1294 32 #[.int .i64 t1304, .int .i64 t1305, .slice Xo29 t1306.length ko29, .slice Xo30 t1309.length ko30, .slice Xo31 t1312.length ko31] (0, 0) _ rfl (HM.bx 4 rfl) Try.underlying32 rfl (by kernel_rfl)) rfl ?_
  exact ⟨_, _, _, ER, (MD HM).pick [6, 7, 8, 5, 0, 1, 2]⟩
 ·have c7b0 : decide (t1295 < 4) = false := decide_eq_false c7
  clear c7
  (first | rw [c7b0] | (simp only [i64_w, i32_w]; rw [c7b0]) | skip)
  go_upto_if 28 with (fail)
  replace H := IT H; rcases H with ⟨c33, H⟩ | ⟨c33, H⟩
  ·have c33b0 : decide (t1295 < 8) = true := decide_eq_true c33
   clear c33
   (first | rw [c33b0] | (simp only [i64_w, i32_w]; rw [c33b0]) | skip)
   try go_wp2
   replace H := BN H; obtain ⟨⟨t1319, t1320, t1321⟩, A34, H⟩ := H
   replace H := BN H; obtain ⟨⟨t1322, t1323, t1324, t1327, t1330, t1333, t1334⟩, A35, H⟩ := H
   refine RGN 9 [0, 1, 2, 3, 4, 5, 6, 7, 8] (fun a0 b a w' => ∃ (v1325 : Value) (v1328 : Value) (v1331 : Value), a = putSel a0 b [(0, 32, .agg #[.int .i64 a1_0, .int .i64 a1_1, .slice A1_2 l1_2.length c1_2, .slice A1_3 l1_3.length c1_3, .slice A1_4 l1_4.length c1_4]), (1, 33, .pointer (some ⟨g, 0, none⟩)), (2, 34, .string t1319), (3, 35, .tuple #[.agg #[.int .i64 t1322, .int .i64 t1323, v1325, v1328, v1331], .string t1333, .bool t1334]), (4, 31, .tuple #[.agg #[.int .i64 t1322, .int .i64 t1323, v1325, v1328, v1331], .string t1333, .bool t1334]), (5, 36, .agg #[.int .i64 t1322, .int .i64 t1323, v1325, v1328, v1331]), (6, 37, .string t1333), (7, 38, .bool t1334)] ∧ Mem w0 F w' [row k95 95 (.slice A1_2 l1_2.length c1_2) l1_2, row k95 95 (.slice A1_3 l1_3.length c1_3) l1_3, row (Kd.int .i64) 3 (.slice A1_4 l1_4.length c1_4) l1_4, sel (b 8) (box 32 gb1293 [.int .i64 t1322, .int .i64 t1323, v1325, v1328, v1331]) (box 32 gb1293 [.int .i64 a1_0, .int .i64 a1_1, .slice A1_2 l1_2.length c1_2, .slice A1_3 l1_3.length c1_3, .slice A1_4 l1_4.length c1_4]), box 32 gb1294 [.int .i64 0, .int .i64 0, .slice none 0 0, .slice none 0 0, .slice none 0 0], sel (b 2) (box 83 g [.slice A0_0 s0_0.length c0_0, .int .i64 t1320, .int .i64 t1321]) (box 83 g [.slice A0_0 s0_0.length c0_0, .int .i64 t1296, .int .i64 t1297]), sel (b 3) (rowR k95 95 v1325 t1324) (emp), sel (b 3) (rowR k95 95 v1328 t1327) (emp), sel (b 3) (rowR (Kd.int .i64) 3 v1331 t1330) (emp)]) spec_l10Some.tab6 spec_l10Some.bits6 ?_ ?_ ?_
   ·exact ⟨.bool false, .bool false, .bool false, PS0' rfl _, (HM.drew.ems 3).pick [0, 1, 2, 3, 4, 5, 6, 7, 8]⟩
   ·clear HM
    refine steps_cons ?_ ?_
    ·rintro b a w ⟨v1325, v1328, v1331, ha, HM⟩ hb hon hoff
     refine ⟨_, rfl, fun K hK => ?_⟩
     have HZ := HM
     replace HM := HM.sF 3 rfl (hoff 8 (by kernel_rfl))
     obtain ⟨hcz43_0, hcz43_1, hcz43_2, hcz43_3, hcz43_4, hfz43_0, hfz43_1, hfz43_2, hfz43_3, hfz43_4⟩ := bk5 (HM.bx 3 rfl)
     have e3 := POF ha 3
     replace ha := Aside0.mk ha
     exact VL (.agg #[.int .i64 a1_0, .int .i64 a1_1, .slice A1_2 l1_2.length c1_2, .slice A1_3 l1_3.length c1_3, .slice A1_4 l1_4.length c1_4]) (hK.out _ _ ⟨v1325, v1328, v1331, PUT ha 0 hb, HZ⟩)
    refine steps_cons ?_ ?_
    ·rintro b a w ⟨v1325, v1328, v1331, ha, HM⟩ hb hon hoff
     refine ⟨_, rfl, fun K hK => ?_⟩
     have e0 := POF ha 0
     replace ha := Aside0.mk ha
     exact VL (.pointer (some ⟨g, 0, none⟩)) (hK.out _ _ ⟨v1325, v1328, v1331, PUT ha 1 hb, HM⟩)
    refine steps_cons ?_ ?_
    ·rintro b a w ⟨v1325, v1328, v1331, ha, HM⟩ hb hon hoff
     refine ⟨_, rfl, fun K hK => ?_⟩
     replace HM := HM.sF 5 rfl hb
     have e33 := PON ha 1 (hon 1 (by kernel_rfl))
     replace ha := Aside0.mk ha
     refine ST (eC (some 34) rfl #[.pointer (some ⟨g, 0, none⟩)] rfl Try.func100 (spec_l10Key.calls g A0_0 c0_0 s0_0 t1296 t1297 t1319 t1320 t1321 _ _ _ HRs0_0.out HCs0_0.out (HM.focus [0, 1, 2, 3, 4, 6, 7, 8] [5]) A34.out) ?_ (hargs := by (simp only [List.map_toArray, List.map_cons, List.map_nil, evc, eval_of e33]) <;> rfl))
     rintro e w44 ⟨rfl, hR⟩
     refine ⟨_, rfl, ?_⟩
     replace HM := nzM hR.unfocus
     clear hR
     exact hK.out _ _ ⟨v1325, v1328, v1331, PUT ha 2 hb, (HM).pick [0, 1, 2, 3, 4, 8, 5, 6, 7]⟩
    refine steps_cons ?_ ?_
    ·rintro b a w ⟨v1325, v1328, v1331, ha, HM⟩ hb hon hoff
     refine ⟨_, rfl, fun K hK => ?_⟩
     have e32 := PON ha 0 (hon 0 (by kernel_rfl))
     have e34 := PON ha 2 (hon 2 (by kernel_rfl))
     replace ha := Aside0.mk ha
     refine ST (eC (some 35) rfl #[.agg #[.int .i64 a1_0, .int .i64 a1_1, .slice A1_2 l1_2.length c1_2, .slice A1_3 l1_3.length c1_3, .slice A1_4 l1_4.length c1_4], .string t1319] rfl Try.func34 (spec_Get.calls k a1_0 a1_1 _ _ l1_2 _ _ l1_3 _ _ l1_4 t1319 t1322 t1323 t1324 t1327 t1330 t1333 t1334 _ (HM.C 0 rfl).2.2 (HM.C 0 rfl).2.1 (HM.C 1 rfl).2.2 (HM.C 1 rfl).2.1 (HM.C 2 rfl).2.2 (HM.C 2 rfl).2.1 A35.out) ?_ (hargs := by (simp only [List.map_toArray, List.map_cons, List.map_nil, evc, eval_of e32, eval_of e34]) <;> rfl))
     rintro e w45 ⟨v1325, v1328, v1331, rfl, hR⟩
     refine ⟨_, rfl, ?_⟩
     replace HM := HM.call hR
     clear hR
     exact hK.out _ _ ⟨v1325, v1328, v1331, PUT (PCH (PCH ha 4 (hoff 4 (by kernel_rfl))) 5 (hoff 5 (by kernel_rfl))) 3 hb, ((HM.sF 3 rfl (hoff 8 (by kernel_rfl))).iF 3 rfl (hoff 8 (by kernel_rfl))).pick [0, 1, 2, 3, 4, 5, 9, 10, 11]⟩
    refine steps_cons ?_ ?_
    ·rintro b a w ⟨v1325, v1328, v1331, ha, HM⟩ hb hon hoff
     refine ⟨_, rfl, fun K hK => ?_⟩
     have e35 := PON ha 3 (hon 3 (by kernel_rfl))
     replace ha := Aside0.mk ha
     exact VL (.tuple #[.agg #[.int .i64 t1322, .int .i64 t1323, v1325, v1328, v1331], .string t1333, .bool t1334]) (hK.out _ _ ⟨v1325, v1328, v1331, PUT ha 4 hb, HM⟩)
    refine steps_cons ?_ ?_
    ·rintro b a w ⟨v1325, v1328, v1331, ha, HM⟩ hb hon hoff
     refine ⟨_, rfl, fun K hK => ?_⟩
     have e31 := PON ha 4 (hon 4 (by kernel_rfl))
     replace ha := Aside0.mk ha
     exact VL (.agg #[.int .i64 t1322, .int .i64 t1323, v1325, v1328, v1331]) (hK.out _ _ ⟨v1325, v1328, v1331, PUT ha 5 hb, HM⟩)
    refine steps_cons ?_ ?_
    ·rintro b a w ⟨v1325, v1328, v1331, ha, HM⟩ hb hon hoff
     refine ⟨_, rfl, fun K hK => ?_⟩
     have e31 := PON ha 4 (hon 4 (by kernel_rfl))
     replace ha := Aside0.mk ha
     exact VL (.string t1333) (hK.out _ _ ⟨v1325, v1328, v1331, PUT ha 6 hb, HM⟩)
    refine steps_cons ?_ ?_
    ·rintro b a w ⟨v1325, v1328, v1331, ha, HM⟩ hb hon hoff
     refine ⟨_, rfl, fun K hK => ?_⟩
     have e31 := PON ha 4 (hon 4 (by kernel_rfl))
     replace ha := Aside0.mk ha
     exact VL (.bool t1334) (hK.out _ _ ⟨v1325, v1328, v1331, PUT ha 7 hb, HM⟩)
    refine steps_cons ?_ ?_
    ·rintro b a w ⟨v1325, v1328, v1331, ha, HM⟩ hb hon hoff
     refine ⟨_, rfl, fun K hK => ?_⟩
     replace HM := HM.sF 3 rfl hb
     replace HM := HM.sT 6 rfl (hon 3 (by kernel_rfl))
     replace HM := HM.sT 7 rfl (hon 3 (by kernel_rfl))
     replace HM := HM.sT 8 rfl (hon 3 (by kernel_rfl))
     obtain ⟨Xo46, ko46, eo46⟩ := HM.rdR 6 rfl
     subst eo46
     obtain ⟨Xo47, ko47, eo47⟩ := HM.rdR 7 rfl
     subst eo47
     obtain ⟨Xo48, ko48, eo48⟩ := HM.rdR 8 rfl
     subst eo48
     have e3 := POF ha 3
     have e36 := PON ha 5 (hon 5 (by kernel_rfl))
     replace ha := Aside0.mk ha
     refine ST (eS 3 3 0 [.int .i64 t1322, .int .i64 t1323, .slice Xo46 t1324.length ko46, .slice Xo47 t1327.length ko47, .slice Xo48 t1330.length ko48] HM rfl rfl ?_ (hp := (eval_of e3)) (hx := (by rw [eval_of e36]; rfl)))
     clear HM
     intro w49 HM
     exact hK.out _ _ ⟨.slice Xo46 t1324.length ko46, .slice Xo47 t1327.length ko47, .slice Xo48 t1330.length ko48, PUS ha, (((HM.iT 6 rfl (hon 3 (by kernel_rfl))).iT 7 rfl (hon 3 (by kernel_rfl))).iT 8 rfl (hon 3 (by kernel_rfl))).pick [0, 1, 2, 3, 4, 5, 6, 7, 8]⟩
    exact steps_nil
   rintro _ w50 ⟨v1325, v1328, v1331, rfl, HM⟩
   replace HM := HM.sT 3 rfl rfl
   replace HM := HM.sT 5 rfl rfl
   replace HM := HM.sT 6 rfl rfl
   replace HM := HM.sT 7 rfl rfl
   replace HM := HM.sT 8 rfl rfl
   simp only [putSel, if_true, Act.put, List.setIfInBounds_toArray, List.set_cons_zero, List.set_cons_succ, gt_iff_lt, ge_iff_le]
   simp only [Option.some.injEq, Prod.mk.injEq] at H
   obtain ⟨rfl, rfl, rfl, rfl, rfl, rfl, rfl⟩ := H
   obtain ⟨hcz51_0, hcz51_1, hcz51_2, hcz51_3, hcz51_4, hfz51_0, hfz51_1, hfz51_2, hfz51_3, hfz51_4⟩ := bk5 (HM.bx 3 rfl)
   obtain ⟨Xo52, ko52, eo52⟩ := HM.rdR 6 rfl
   subst eo52
   obtain ⟨Xo53, ko53, eo53⟩ := HM.rdR 7 rfl
   subst eo53
   obtain ⟨Xo54, ko54, eo54⟩ := HM.rdR 8 rfl
   subst eo54
   go_wp2_with (first | ((with_reducible refine gate_st (p := 4) rfl ?_); refine pS 4 4 0 [.int .i64 t1322, .int .i64 t1323, .slice Xo52 t1324.length ko52, .slice Xo53 t1327.length ko53, .slice Xo54 t1330.length ko54] HM rfl rfl ?_; clear HM; intro w55 HM; replace HM := HM.toQ 8 rfl))
   refine bodyPost_ret (results_cell_row rfl _ _ gb1294 32 #[.int .i64 t1322, .int .i64 t1323, .slice Xo52 t1324.length ko52, .slice Xo53 t1327.length ko53, .slice Xo54 t1330.length ko54] (0, 0) _ rfl (HM.bx 4 rfl) Try.underlying32 rfl (by kernel_rfl)) rfl ?_
   exact ⟨_, _, _, ER, (MD HM).pick [6, 7, 8, 5, 0, 1, 2]⟩
  ·have c33b0 : decide (t1295 < 8) = false := decide_eq_false c33
   clear c33
   (first | rw [c33b0] | (simp only [i64_w, i32_w]; rw [c33b0]) | skip)
   try go_wp2
   replace H := BN H; obtain ⟨⟨t1335, t1336, t1337⟩, A56, H⟩ := H
   replace H := BN H; obtain ⟨⟨t1338, t1339, t1340, t1343, t1346, t1349⟩, A57, H⟩ := H
   refine RGN 8 [0, 1, 2, 3, 4, 5, 6, 7] (fun a0 b a w' => ∃ (v1341 : Value) (v1344 : Value) (v1347 : Value), a = putSel a0 b [(0, 9, .agg #[.int .i64 a1_0, .int .i64 a1_1, .slice A1_2 l1_2.length c1_2, .slice A1_3 l1_3.length c1_3, .slice A1_4 l1_4.length c1_4]), (1, 10, .pointer (some ⟨g, 0, none⟩)), (2, 11, .string t1335), (3, 12, .tuple #[.agg #[.int .i64 t1338, .int .i64 t1339, v1341, v1344, v1347], .bool t1349]), (4, 8, .tuple #[.agg #[.int .i64 t1338, .int .i64 t1339, v1341, v1344, v1347], .bool t1349]), (5, 13, .agg #[.int .i64 t1338, .int .i64 t1339, v1341, v1344, v1347]), (6, 14, .bool t1349)] ∧ Mem w0 F w' [row k95 95 (.slice A1_2 l1_2.length c1_2) l1_2, row k95 95 (.slice A1_3 l1_3.length c1_3) l1_3, row (Kd.int .i64) 3 (.slice A1_4 l1_4.length c1_4) l1_4, sel (b 7) (box 32 gb1293 [.int .i64 t1338, .int .i64 t1339, v1341, v1344, v1347]) (box 32 gb1293 [.int .i64 a1_0, .int .i64 a1_1, .slice A1_2 l1_2.length c1_2, .slice A1_3 l1_3.length c1_3, .slice A1_4 l1_4.length c1_4]), box 32 gb1294 [.int .i64 0, .int .i64 0, .slice none 0 0, .slice none 0 0, .slice none 0 0], sel (b 2) (box 83 g [.slice A0_0 s0_0.length c0_0, .int .i64 t1336, .int .i64 t1337]) (box 83 g [.slice A0_0 s0_0.length c0_0, .int .i64 t1296, .int .i64 t1297]), sel (b 3) (rowR k95 95 v1341 t1340) (emp), sel (b 3) (rowR k95 95 v1344 t1343) (emp), sel (b 3) (rowR (Kd.int .i64) 3 v1347 t1346) (emp)]) spec_l10Some.tab2 spec_l10Some.bits2 ?_ ?_ ?_
   ·exact ⟨.bool false, .bool false, .bool false, PS0' rfl _, (HM.drew.ems 3).pick [0, 1, 2, 3, 4, 5, 6, 7, 8]⟩
   ·clear HM
    refine steps_cons ?_ ?_
    ·rintro b a w ⟨v1341, v1344, v1347, ha, HM⟩ hb hon hoff
     refine ⟨_, rfl, fun K hK => ?_⟩
     have HZ := HM
     replace HM := HM.sF 3 rfl (hoff 7 (by kernel_rfl))
     obtain ⟨hcz65_0, hcz65_1, hcz65_2, hcz65_3, hcz65_4, hfz65_0, hfz65_1, hfz65_2, hfz65_3, hfz65_4⟩ := bk5 (HM.bx 3 rfl)
     have e3 := POF ha 3
     replace ha := Aside0.mk ha
     exact VL (.agg #[.int .i64 a1_0, .int .i64 a1_1, .slice A1_2 l1_2.length c1_2, .slice A1_3 l1_3.length c1_3, .slice A1_4 l1_4.length c1_4]) (hK.out _ _ ⟨v1341, v1344, v1347, PUT ha 0 hb, HZ⟩)
    refine steps_cons ?_ ?_
    ·rintro b a w ⟨v1341, v1344, v1347, ha, HM⟩ hb hon hoff
     refine ⟨_, rfl, fun K hK => ?_⟩
     have e0 := POF ha 0
     replace ha := Aside0.mk ha
     exact VL (.pointer (some ⟨g, 0, none⟩)) (hK.out _ _ ⟨v1341, v1344, v1347, PUT ha 1 hb, HM⟩)
    refine steps_cons ?_ ?_
    ·rintro b a w ⟨v1341, v1344, v1347, ha, HM⟩ hb hon hoff
     refine ⟨_, rfl, fun K hK => ?_⟩
     replace HM := HM.sF 5 rfl hb
     have e10 := PON ha 1 (hon 1 (by kernel_rfl))
     replace ha := Aside0.mk ha
     refine ST (eC (some 11) rfl #[.pointer (some ⟨g, 0, none⟩)] rfl Try.func100 (spec_l10Key.calls g A0_0 c0_0 s0_0 t1296 t1297 t1335 t1336 t1337 _ _ _ HRs0_0.out HCs0_0.out (HM.focus [0, 1, 2, 3, 4, 6, 7, 8] [5]) A56.out) ?_ (hargs := by (simp only [List.map_toArray, List.map_cons, List.map_nil, evc, eval_of e10]) <;> rfl))
     rintro e w66 ⟨rfl, hR⟩
     refine ⟨_, rfl, ?_⟩
     replace HM := nzM hR.unfocus
     clear hR
     exact hK.out _ _ ⟨v1341, v1344, v1347, PUT ha 2 hb, (HM).pick [0, 1, 2, 3, 4, 8, 5, 6, 7]⟩
    refine steps_cons ?_ ?_
    ·rintro b a w ⟨v1341, v1344, v1347, ha, HM⟩ hb hon hoff
     refine ⟨_, rfl, fun K hK => ?_⟩
     have e9 := PON ha 0 (hon 0 (by kernel_rfl))
     have e11 := PON ha 2 (hon 2 (by kernel_rfl))
     replace ha := Aside0.mk ha
     refine ST (eC (some 12) rfl #[.agg #[.int .i64 a1_0, .int .i64 a1_1, .slice A1_2 l1_2.length c1_2, .slice A1_3 l1_3.length c1_3, .slice A1_4 l1_4.length c1_4], .string t1335] rfl Try.func36 (spec_Drop.calls k a1_0 a1_1 _ _ l1_2 _ _ l1_3 _ _ l1_4 t1335 t1338 t1339 t1340 t1343 t1346 t1349 _ (HM.C 0 rfl).2.2 (HM.C 0 rfl).2.1 (HM.C 1 rfl).2.2 (HM.C 1 rfl).2.1 (HM.C 2 rfl).2.2 (HM.C 2 rfl).2.1 A57.out) ?_ (hargs := by (simp only [List.map_toArray, List.map_cons, List.map_nil, evc, eval_of e9, eval_of e11]) <;> rfl))
     rintro e w67 ⟨v1341, v1344, v1347, rfl, hR⟩
     refine ⟨_, rfl, ?_⟩
     replace HM := HM.call hR
     clear hR
     exact hK.out _ _ ⟨v1341, v1344, v1347, PUT (PCH (PCH ha 4 (hoff 4 (by kernel_rfl))) 5 (hoff 5 (by kernel_rfl))) 3 hb, ((HM.sF 3 rfl (hoff 7 (by kernel_rfl))).iF 3 rfl (hoff 7 (by kernel_rfl))).pick [0, 1, 2, 3, 4, 5, 9, 10, 11]⟩
    refine steps_cons ?_ ?_
    ·rintro b a w ⟨v1341, v1344, v1347, ha, HM⟩ hb hon hoff
     refine ⟨_, rfl, fun K hK => ?_⟩
     have e12 := PON ha 3 (hon 3 (by kernel_rfl))
     replace ha := Aside0.mk ha
     exact VL (.tuple #[.agg #[.int .i64 t1338, .int .i64 t1339, v1341, v1344, v1347], .bool t1349]) (hK.out _ _ ⟨v1341, v1344, v1347, PUT ha 4 hb, HM⟩)
    refine steps_cons ?_ ?_
    ·rintro b a w ⟨v1341, v1344, v1347, ha, HM⟩ hb hon hoff
     refine ⟨_, rfl, fun K hK => ?_⟩
     have e8 := PON ha 4 (hon 4 (by kernel_rfl))
     replace ha := Aside0.mk ha
     exact VL (.agg #[.int .i64 t1338, .int .i64 t1339, v1341, v1344, v1347]) (hK.out _ _ ⟨v1341, v1344, v1347, PUT ha 5 hb, HM⟩)
    refine steps_cons ?_ ?_
    ·rintro b a w ⟨v1341, v1344, v1347, ha, HM⟩ hb hon hoff
     refine ⟨_, rfl, fun K hK => ?_⟩
     have e8 := PON ha 4 (hon 4 (by kernel_rfl))
     replace ha := Aside0.mk ha
     exact VL (.bool t1349) (hK.out _ _ ⟨v1341, v1344, v1347, PUT ha 6 hb, HM⟩)
    refine steps_cons ?_ ?_
    ·rintro b a w ⟨v1341, v1344, v1347, ha, HM⟩ hb hon hoff
     refine ⟨_, rfl, fun K hK => ?_⟩
     replace HM := HM.sF 3 rfl hb
     replace HM := HM.sT 6 rfl (hon 3 (by kernel_rfl))
     replace HM := HM.sT 7 rfl (hon 3 (by kernel_rfl))
     replace HM := HM.sT 8 rfl (hon 3 (by kernel_rfl))
     obtain ⟨Xo68, ko68, eo68⟩ := HM.rdR 6 rfl
     subst eo68
     obtain ⟨Xo69, ko69, eo69⟩ := HM.rdR 7 rfl
     subst eo69
     obtain ⟨Xo70, ko70, eo70⟩ := HM.rdR 8 rfl
     subst eo70
     have e3 := POF ha 3
     have e13 := PON ha 5 (hon 5 (by kernel_rfl))
     replace ha := Aside0.mk ha
     refine ST (eS 3 3 0 [.int .i64 t1338, .int .i64 t1339, .slice Xo68 t1340.length ko68, .slice Xo69 t1343.length ko69, .slice Xo70 t1346.length ko70] HM rfl rfl ?_ (hp := (eval_of e3)) (hx := (by rw [eval_of e13]; rfl)))
     clear HM
     intro w71 HM
     exact hK.out _ _ ⟨.slice Xo68 t1340.length ko68, .slice Xo69 t1343.length ko69, .slice Xo70 t1346.length ko70, PUS ha, (((HM.iT 6 rfl (hon 3 (by kernel_rfl))).iT 7 rfl (hon 3 (by kernel_rfl))).iT 8 rfl (hon 3 (by kernel_rfl))).pick [0, 1, 2, 3, 4, 5, 6, 7, 8]⟩
    exact steps_nil
   rintro _ w72 ⟨v1341, v1344, v1347, rfl, HM⟩
   replace HM := HM.sT 3 rfl rfl
   replace HM := HM.sT 5 rfl rfl
   replace HM := HM.sT 6 rfl rfl
   replace HM := HM.sT 7 rfl rfl
   replace HM := HM.sT 8 rfl rfl
   simp only [putSel, if_true, Act.put, List.setIfInBounds_toArray, List.set_cons_zero, List.set_cons_succ, gt_iff_lt, ge_iff_le]
   simp only [Option.some.injEq, Prod.mk.injEq] at H
   obtain ⟨rfl, rfl, rfl, rfl, rfl, rfl, rfl⟩ := H
   obtain ⟨hcz73_0, hcz73_1, hcz73_2, hcz73_3, hcz73_4, hfz73_0, hfz73_1, hfz73_2, hfz73_3, hfz73_4⟩ := bk5 (HM.bx 3 rfl)
   obtain ⟨Xo74, ko74, eo74⟩ := HM.rdR 6 rfl
   subst eo74
   obtain ⟨Xo75, ko75, eo75⟩ := HM.rdR 7 rfl
   subst eo75
   obtain ⟨Xo76, ko76, eo76⟩ := HM.rdR 8 rfl
   subst eo76
   go_wp2_with (first | ((with_reducible refine gate_st (p := 4) rfl ?_); refine pS 4 4 0 [.int .i64 t1338, .int .i64 t1339, .slice Xo74 t1340.length ko74, .slice Xo75 t1343.length ko75, .slice Xo76 t1346.length ko76] HM rfl rfl ?_; clear HM; intro w77 HM; replace HM := HM.toQ 8 rfl))
   refine bodyPost_ret (results_cell_row rfl _ _ gb1294 32 #[.int .i64 t1338, .int .i64 t1339, .slice Xo74 t1340.length ko74, .slice Xo75 t1343.length ko75, .slice Xo76 t1346.length ko76] (0, 0) _ rfl (HM.bx 4 rfl) Try.underlying32 rfl (by kernel_rfl)) rfl ?_
   exact ⟨_, _, _, ER, (MD HM).pick [6, 7, 8, 5, 0, 1, 2]⟩
def spec_l10Draw.l0 : Nat → Int → List Int → Int → Int → Int → Int → List (S95) → List (S95) → List Int → Option (Int × Int × (List (S95)) × (List (S95)) × List Int × Int × Int)
 | 0, _, _, _, _, _, _, _, _, _ => none
 | k + 1, x6, x1000, x1001, x1002, x1370000, x1370001, x1370002, x1370003, x1370004 => if x6 > 0 then ((spec_l10Some.f k x1000 x1001 x1002 x1370000 x1370001 x1370002 x1370003 x1370004).bind fun bt1373 => (spec_l10Draw.l0 k (wrap64 (x6 - 1)) x1000 bt1373.2.2.2.2.2.1 bt1373.2.2.2.2.2.2 bt1373.1 bt1373.2.1 bt1373.2.2.1 bt1373.2.2.2.1 bt1373.2.2.2.2.1)) else (some (x1370000, x1370001, x1370002, x1370003, x1370004, x1001, x1002))
def spec_l10Draw.f (k : Nat) (s0_0 : List Int) (s0_1 : Int) (s0_2 : Int) : Option (Int × Int × (List (S95)) × (List (S95)) × List Int × Int × Int) := (spec_l01Below.f s0_0 s0_1 s0_2 6).bind fun bt1351 => ((spec_l01Below.f s0_0 bt1351.2.1 bt1351.2.2 (wrap64 (1 + bt1351.1))).bind fun bt1354 => ((spec_ThreeNew.f k (wrap64 (1 + bt1351.1)) (wrap64 (1 + bt1354.1))).bind fun bt1357 => ((spec_l01Below.f s0_0 bt1354.2.1 bt1354.2.2 24).bind fun bt1370 => (spec_l10Draw.l0 k bt1370.1 s0_0 bt1370.2.1 bt1370.2.2 bt1357.1 bt1357.2.1 bt1357.2.2.1 bt1357.2.2.2.1 bt1357.2.2.2.2.1))))
theorem spec_l10Draw.mono_l : ∀ k, (∀ y0 y1 y2 y3 y4 y5 y6 y7 y8, LeO (spec_l10Draw.l0 k y0 y1 y2 y3 y4 y5 y6 y7 y8) (spec_l10Draw.l0 (k + 1) y0 y1 y2 y3 y4 y5 y6 y7 y8))
 | 0 => fun _ _ _ _ _ _ _ _ _ r h => by simp [spec_l10Draw.l0] at h
 | k + 1 => by
  have ih0 := spec_l10Draw.mono_l k
  ·intro y0 y1 y2 y3 y4 y5 y6 y7 y8
   unfold spec_l10Draw.l0
   repeat' first | (with_reducible first | exact ih0 _ _ _ _ _ _ _ _ _ | exact spec_ThreeNew.mono _ _ _ | exact spec_l10Some.mono _ _ _ _ _ _ _ _ _ | exact LeO.refl _ | exact LeO.none _ | refine LeO.ite ?_ ?_ | refine LeO.bind ?_ (fun _ => ?_)) | exact ih0 _ _ _ _ _ _ _ _ _ | exact spec_ThreeNew.mono _ _ _ | exact spec_l10Some.mono _ _ _ _ _ _ _ _ _ | exact LeO.none _ | refine LeO.ite ?_ ?_ | refine LeO.bind ?_ (fun _ => ?_)
theorem spec_l10Draw.mono : ∀ a0 a1 a2 k, LeO (spec_l10Draw.f k a0 a1 a2) (spec_l10Draw.f (k + 1) a0 a1 a2) := by
 intro a0 a1 a2 k
 have ih0 := spec_l10Draw.mono_l k
 unfold spec_l10Draw.f
 repeat' first | (with_reducible first | exact ih0 _ _ _ _ _ _ _ _ _ | exact spec_ThreeNew.mono _ _ _ | exact spec_l10Some.mono _ _ _ _ _ _ _ _ _ | exact LeO.refl _ | exact LeO.none _ | refine LeO.ite ?_ ?_ | refine LeO.bind ?_ (fun _ => ?_)) | exact ih0 _ _ _ _ _ _ _ _ _ | exact spec_ThreeNew.mono _ _ _ | exact spec_l10Some.mono _ _ _ _ _ _ _ _ _ | exact LeO.none _ | refine LeO.ite ?_ ?_ | refine LeO.bind ?_ (fun _ => ?_)
set_option maxHeartbeats 8000000 in
set_option maxRecDepth 100000 in
theorem spec_l10Draw.calls (k : Nat) (g : Nat) (A0_0 : Option Addr) (c0_0 : Nat) (s0_0 : List Int) (s0_1 : Int) (s0_2 : Int) (r1 : Int) (r2 : Int) (r3 : List (S95)) (r4 : List (S95)) (r5 : List Int) (r6 : Int) (r7 : Int) (w0 w : World) (F : List SP) (hrs0_0 : Kd.C (Kd.int .u8) w0 A0_0 s0_0.length s0_0) (hcs0_0 : s0_0.length ≤ c0_0) (hM : Mem w0 F w [box 83 g [.slice A0_0 s0_0.length c0_0, .int .i64 s0_1, .int .i64 s0_2]]) (h : spec_l10Draw.f k s0_0 s0_1 s0_2 = some (r1, r2, r3, r4, r5, r6, r7)) :
  Calls Try.prog 53 #[.pointer (some ⟨g, 0, none⟩)] w fun e w' => ∃ v2_ v3_ v4_ : Value, e = .returned (.agg #[.int .i64 r1, .int .i64 r2, v2_, v3_, v4_]) ∧ Mem w0 F w' [rowR k95 95 v2_ r3, rowR k95 95 v3_ r4, row (Kd.int .i64) 3 v4_ r5, box 83 g [.slice A0_0 s0_0.length c0_0, .int .i64 r6, .int .i64 r7]] := by
 have hu32 := Try.underlying32
 have HRs0_0 := Aside0.mk hrs0_0
 have HCs0_0 := Aside0.mk hcs0_0
 clear hrs0_0 hcs0_0
 have HM := hM
 clear hM
 have H := h
 clear h
 unfold spec_l10Draw.f at H
 go_enter Try.func53, Try.ntmps53
 replace H := BN H; obtain ⟨⟨t1351, t1352, t1353⟩, A3, H⟩ := H
 replace H := BN H; obtain ⟨⟨t1354, t1355, t1356⟩, A5, H⟩ := H
 replace H := BN H; obtain ⟨⟨t1357, t1358, t1359, t1362, t1365, t1368⟩, A7, H⟩ := H
 replace H := BN H; obtain ⟨⟨t1370, t1371, t1372⟩, A14, H⟩ := H
 have H' := Aside0.mk H
 clear H
 go_wp2_with (first | ((with_reducible refine gate_dst (N := 2) rfl ?_); refine pB 2 32 [.int .i64 0, .int .i64 0, .slice none 0 0, .slice none 0 0, .slice none 0 0] HM rfl ?_; clear HM; intro gb1350 w2 HM) | ((with_reducible refine gate_callee (f := 84) rfl ?_); refine pC (some 8) rfl #[.pointer (some ⟨g, 0, none⟩), .int .i64 6] rfl Try.func84 (spec_l01Below.calls g A0_0 c0_0 s0_0 s0_1 s0_2 6 t1351 t1352 t1353 _ _ _ HRs0_0.out HCs0_0.out (HM.focus [1] [0]) A3.out) ?_; rintro e w4 ⟨rfl, hR⟩; refine ⟨_, rfl, ?_⟩; replace HM := nzM hR.unfocus; clear hR) | ((with_reducible refine gate_callee (f := 84) rfl ?_); refine pC (some 14) rfl #[.pointer (some ⟨g, 0, none⟩), .int .i64 (wrap64 (1 + t1351))] rfl Try.func84 (spec_l01Below.calls g A0_0 c0_0 s0_0 t1352 t1353 (wrap64 (1 + t1351)) t1354 t1355 t1356 _ _ _ HRs0_0.out HCs0_0.out (HM.focus [0] [1]) A5.out) ?_; rintro e w6 ⟨rfl, hR⟩; refine ⟨_, rfl, ?_⟩; replace HM := nzM hR.unfocus; clear hR) | ((with_reducible refine gate_callee (f := 85) rfl ?_); refine pC (some 16) rfl #[.int .i64 (wrap64 (1 + t1351)), .int .i64 (wrap64 (1 + t1354))] rfl Try.func85 (spec_ThreeNew.calls k (wrap64 (1 + t1351)) (wrap64 (1 + t1354)) t1357 t1358 t1359 t1362 t1365 t1368 _ A7.out) ?_; rintro e w8 ⟨v1360, v1363, v1366, rfl, hR⟩; refine ⟨_, rfl, ?_⟩; replace HM := HM.call hR; clear hR) | ((with_reducible refine gate_dst (N := 4) rfl ?_); refine pB 4 32 [.int .i64 0, .int .i64 0, .slice none 0 0, .slice none 0 0, .slice none 0 0] HM rfl ?_; clear HM; intro gb1369 w9 HM; obtain ⟨Xo10, ko10, eo10⟩ := HM.rdR 2 rfl; subst eo10; obtain ⟨Xo11, ko11, eo11⟩ := HM.rdR 3 rfl; subst eo11; obtain ⟨Xo12, ko12, eo12⟩ := HM.rdR 4 rfl; subst eo12) | ((with_reducible refine gate_st (p := 4) rfl ?_); refine pS 5 4 0 [.int .i64 t1357, .int .i64 t1358, .slice Xo10 t1359.length ko10, .slice Xo11 t1362.length ko11, .slice Xo12 t1365.length ko12] HM rfl rfl ?_; clear HM; intro w13 HM) | ((with_reducible refine gate_callee (f := 84) rfl ?_); refine pC (some 20) rfl #[.pointer (some ⟨g, 0, none⟩), .int .i64 24] rfl Try.func84 (spec_l01Below.calls g A0_0 c0_0 s0_0 t1355 t1356 24 t1370 t1371 t1372 _ _ _ HRs0_0.out HCs0_0.out (HM.focus [0, 2, 3, 4, 5] [1]) A14.out) ?_; rintro e w15 ⟨rfl, hR⟩; refine ⟨_, rfl, ?_⟩; replace HM := nzM hR.unfocus; clear hR; replace HM := HM.toQ 3 rfl))
 go_loopg [6] k (fun kq v6 w' => ∃ (x6_1 : Int) (x1001_1 : Int) (x1002_1 : Int) (x1370000_1 : Int) (x1370001_1 : Int) (x1370002_1 : List (S95)) (x1370003_1 : List (S95)) (x1370004_1 : List Int) (u1370002 : Value) (u1370003 : Value) (u1370004 : Value), v6 = .int .i64 x6_1 ∧ Aside0 (spec_l10Draw.l0 kq x6_1 s0_0 x1001_1 x1002_1 x1370000_1 x1370001_1 x1370002_1 x1370003_1 x1370004_1 = some (r1, r2, r3, r4, r5, r6, r7)) ∧ Aside0 (kq ≤ k) ∧ Mem w0 F w' [rowR k95 95 u1370002 x1370002_1, rowR k95 95 u1370003 x1370003_1, row (Kd.int .i64) 3 u1370004 x1370004_1, box 32 gb1350 [.int .i64 0, .int .i64 0, .slice none 0 0, .slice none 0 0, .slice none 0 0], box 32 gb1369 [.int .i64 x1370000_1, .int .i64 x1370001_1, u1370002, u1370003, u1370004], box 83 g [.slice A0_0 s0_0.length c0_0, .int .i64 x1001_1, .int .i64 x1002_1]])
 case atStart => exact ⟨(t1370), (t1371), (t1372), (t1357), (t1358), (t1359), (t1362), (t1365), (.slice Xo10 t1359.length ko10), (.slice Xo11 t1362.length ko11), (.slice Xo12 t1365.length ko12), RS, H', ⟨Nat.le_refl _⟩, (MD HM).pick [1, 2, 3, 0, 4, 5]⟩
 case round =>
  clear H' HM
  obtain ⟨x6_1, x1001_1, x1002_1, x1370000_1, x1370001_1, x1370002_1, x1370003_1, x1370004_1, u1370002, u1370003, u1370004, rfl, HA, HK1, HM⟩ := hrel
  cases gk with
  | zero => exact absurd HA.out (by simp [spec_l10Draw.l0])
  | succ k1 =>
   have H := HA.out
   clear HA
   simp only [spec_l10Draw.l0] at H
   go_upto_if 22 with (fail)
   replace H := IT H; rcases H with ⟨c16, H⟩ | ⟨c16, H⟩
   ·have c16b0 : decide (0 < x6_1) = true := decide_eq_true c16
    clear c16
    (first | rw [c16b0] | (simp only [i64_w, i32_w]; rw [c16b0]) | skip)
    replace H := BN H; obtain ⟨⟨t1373, t1374, t1375, t1378, t1381, t1384, t1385⟩, A18, H⟩ := H
    have H' := Aside0.mk H
    clear H
    obtain ⟨hcz17_0, hcz17_1, hcz17_2, hcz17_3, hcz17_4, hfz17_0, hfz17_1, hfz17_2, hfz17_3, hfz17_4⟩ := bk5 (HM.bx 4 rfl)
    obtain ⟨Xo20, ko20, eo20⟩ := HM.rdR 0 rfl
    subst eo20
    replace HM := HM.toQ 0 rfl
    obtain ⟨Xo21, ko21, eo21⟩ := HM.rdR 1 rfl
    subst eo21
    replace HM := HM.toQ 1 rfl
    obtain ⟨Xo22, ko22, eo22⟩ := HM.rd 2 rfl
    subst eo22
    go_wp2_with (first | ((with_reducible refine gate_callee (f := 86) rfl ?_); refine pC (some 27) rfl #[.pointer (some ⟨g, 0, none⟩), .agg #[.int .i64 x1370000_1, .int .i64 x1370001_1, .slice Xo20 x1370002_1.length ko20, .slice Xo21 x1370003_1.length ko21, .slice Xo22 x1370004_1.length ko22]] rfl Try.func86 (spec_l10Some.calls k1 g A0_0 c0_0 s0_0 x1001_1 x1002_1 x1370000_1 x1370001_1 Xo20 ko20 x1370002_1 Xo21 ko21 x1370003_1 Xo22 ko22 x1370004_1 t1373 t1374 t1375 t1378 t1381 t1384 t1385 _ _ _ HRs0_0.out HCs0_0.out (HM.focus [3, 4] [5, 0, 1, 2]) A18.out) ?_; rintro e w19 ⟨v1376, v1379, v1382, rfl, hR⟩; refine ⟨_, rfl, ?_⟩; replace HM := nzM hR.unfocus; clear hR; obtain ⟨Xo23, ko23, eo23⟩ := HM.rdR 2 rfl; subst eo23; obtain ⟨Xo24, ko24, eo24⟩ := HM.rdR 3 rfl; subst eo24; obtain ⟨Xo25, ko25, eo25⟩ := HM.rd 4 rfl; subst eo25) | ((with_reducible refine gate_st (p := 4) rfl ?_); refine pS 1 4 0 [.int .i64 t1373, .int .i64 t1374, .slice Xo23 t1375.length ko23, .slice Xo24 t1378.length ko24, .slice Xo25 t1381.length ko25] HM rfl rfl ?_; clear HM; intro w26 HM))
    go_roundg k1
    case measure => have := HK1.out; omega
    case rel => exact ⟨(wrap64 (x6_1 - 1)), (t1384), (t1385), (t1373), (t1374), (t1375), (t1378), (t1381), (.slice Xo23 t1375.length ko23), (.slice Xo24 t1378.length ko24), (.slice Xo25 t1381.length ko25), RS, H', ⟨by have := HK1.out; omega⟩, (MD HM).pick [2, 3, 4, 0, 1, 5]⟩
   ·have c16b0 : decide (0 < x6_1) = false := decide_eq_false c16
    clear c16
    (first | rw [c16b0] | (simp only [i64_w, i32_w]; rw [c16b0]) | skip)
    simp only [Option.some.injEq, Prod.mk.injEq] at H
    obtain ⟨rfl, rfl, rfl, rfl, rfl, rfl, rfl⟩ := H
    obtain ⟨hcz27_0, hcz27_1, hcz27_2, hcz27_3, hcz27_4, hfz27_0, hfz27_1, hfz27_2, hfz27_3, hfz27_4⟩ := bk5 (HM.bx 4 rfl)
    obtain ⟨Xo28, ko28, eo28⟩ := HM.rdR 0 rfl
    subst eo28
    obtain ⟨Xo29, ko29, eo29⟩ := HM.rdR 1 rfl
    subst eo29
    obtain ⟨Xo30, ko30, eo30⟩ := HM.rd 2 rfl
    subst eo30
    go_wp2_with (first | ((with_reducible refine gate_st (p := 2) rfl ?_); refine pS 3 2 0 [.int .i64 x1370000_1, .int .i64 x1370001_1, .slice Xo28 x1370002_1.length ko28, .slice Xo29 x1370003_1.length ko29, .slice Xo30 x1370004_1.length ko30] HM rfl rfl ?_; clear HM; intro w31 HM))
    refine bodyPost_ret (results_cell_row rfl _ _ gb1350 32 #[.int .i64 x1370000_1, .int .i64 x1370001_1, .slice Xo28 x1370002_1.length ko28, .slice Xo29 x1370003_1.length ko29, .slice Xo30 x1370004_1.length ko30] (0, 0) _ rfl (HM.bx 3 rfl) Try.underlying32 rfl (by kernel_rfl)) rfl ?_
    exact ⟨_, _, _, ER, (MD HM).pick [0, 1, 2, 5]⟩
def spec_MakeThree.f (k : Nat) (l0 : List Int) : Option (Int × Int × (List (S95)) × (List (S95)) × List Int) := (spec_l01New.f k l0).bind fun bt1387 => ((spec_l10Draw.f k bt1387.1 bt1387.2.1 (wrap64 (bt1387.2.2 + 41))).bind fun bt1391 => (some (bt1391.1, bt1391.2.1, bt1391.2.2.1, bt1391.2.2.2.1, bt1391.2.2.2.2.1)))
theorem spec_MakeThree.mono : ∀ a0 k, LeO (spec_MakeThree.f k a0) (spec_MakeThree.f (k + 1) a0) := by
 intro a0 k
 unfold spec_MakeThree.f
 repeat' first | (with_reducible first | exact spec_l01New.mono _ _ | exact spec_l10Draw.mono _ _ _ _ | exact LeO.refl _ | exact LeO.none _ | refine LeO.ite ?_ ?_ | refine LeO.bind ?_ (fun _ => ?_)) | exact spec_l01New.mono _ _ | exact spec_l10Draw.mono _ _ _ _ | exact LeO.none _ | refine LeO.ite ?_ ?_ | refine LeO.bind ?_ (fun _ => ?_)
set_option maxHeartbeats 8000000 in
set_option maxRecDepth 100000 in
theorem spec_MakeThree.calls (k : Nat) (A0 : Option Addr) (c0 : Nat) (l0 : List Int) (r1 : Int) (r2 : Int) (r3 : List (S95)) (r4 : List (S95)) (r5 : List Int) (w : World) (hr0 : Kd.C (Kd.int .u8) w A0 l0.length l0) (hc0 : l0.length ≤ c0) (h : spec_MakeThree.f k l0 = some (r1, r2, r3, r4, r5)) :
  Calls Try.prog 25 #[.slice A0 l0.length c0] w fun e w' => ∃ v2_ v3_ v4_ : Value, e = .returned (.agg #[.int .i64 r1, .int .i64 r2, v2_, v3_, v4_]) ∧ Mem w [] w' [rowR k95 95 v2_ r3, rowR k95 95 v3_ r4, row (Kd.int .i64) 3 v4_ r5] := by
 have hu32 := Try.underlying32
 have HR0 := Aside0.mk hr0
 have HC0 := Aside0.mk hc0
 clear hr0 hc0
 have HM := Mem.nil w
 have H := h
 clear h
 unfold spec_MakeThree.f at H
 go_enter Try.func25, Try.ntmps25
 replace H := BN H; obtain ⟨⟨t1387, t1388, t1389⟩, A3, H⟩ := H
 replace H := BN H; obtain ⟨⟨t1391, t1392, t1393, t1396, t1399, t1402, t1403⟩, A8, H⟩ := H
 simp only [Option.some.injEq, Prod.mk.injEq] at H
 obtain ⟨rfl, rfl, rfl, rfl, rfl⟩ := H
 go_wp2_with (first | ((with_reducible refine gate_dst (N := 2) rfl ?_); refine pB 2 32 [.int .i64 0, .int .i64 0, .slice none 0 0, .slice none 0 0, .slice none 0 0] HM rfl ?_; clear HM; intro gb1386 w2 HM) | ((with_reducible refine gate_callee (f := 52) rfl ?_); refine pC (some 6) rfl #[.slice A0 l0.length c0] rfl Try.func52 (spec_l01New.calls k _ _ l0 t1387 t1388 t1389 _ _ HM.bel HR0.out HC0.out A3.out) ?_; rintro e w4 ⟨gb1390, Xn5, kn5, rfl, hR, hRn5, hCn5⟩; refine ⟨_, rfl, ?_⟩; have HRn5 := Aside0.mk hRn5; have HCn5 := Aside0.mk hCn5; clear hRn5 hCn5; replace HM := HM.call hR; clear hR; obtain ⟨hcz6_0, hcz6_1, hcz6_2, hfz6_0, hfz6_1, hfz6_2⟩ := bk3 (HM.bx 1 rfl)) | ((with_reducible refine gate_st (p := 14) rfl ?_); refine pS 1 14 2 [.int .i64 (wrap64 (t1389 + 41))] HM rfl rfl ?_; clear HM; intro w7 HM) | ((with_reducible refine gate_callee (f := 53) rfl ?_); refine pC (some 16) rfl #[.pointer (some ⟨gb1390, 0, none⟩)] rfl Try.func53 (spec_l10Draw.calls k gb1390 Xn5 kn5 t1387 t1388 (wrap64 (t1389 + 41)) t1391 t1392 t1393 t1396 t1399 t1402 t1403 _ _ _ HRn5.out HCn5.out (HM.focus [0] [1]) A8.out) ?_; rintro e w9 ⟨v1394, v1397, v1400, rfl, hR⟩; refine ⟨_, rfl, ?_⟩; replace HM := nzM hR.unfocus; clear hR) | ((with_reducible refine gate_dst (N := 4) rfl ?_); refine pB 4 32 [.int .i64 0, .int .i64 0, .slice none 0 0, .slice none 0 0, .slice none 0 0] HM rfl ?_; clear HM; intro gb1404 w10 HM; obtain ⟨Xo11, ko11, eo11⟩ := HM.rdR 1 rfl; subst eo11; obtain ⟨Xo12, ko12, eo12⟩ := HM.rdR 2 rfl; subst eo12; obtain ⟨Xo13, ko13, eo13⟩ := HM.rd 3 rfl; subst eo13) | ((with_reducible refine gate_st (p := 4) rfl ?_); refine pS 5 4 0 [.int .i64 t1391, .int .i64 t1392, .slice Xo11 t1393.length ko11, .slice Xo12 t1396.length ko12, .slice Xo13 t1399.length ko13] HM rfl rfl ?_; clear HM; intro w14 HM; obtain ⟨hcz15_0, hcz15_1, hcz15_2, hcz15_3, hcz15_4, hfz15_0, hfz15_1, hfz15_2, hfz15_3, hfz15_4⟩ := bk5 (HM.bx 5 rfl)) | ((with_reducible refine gate_st (p := 2) rfl ?_); refine pS 0 2 0 [.int .i64 t1391, .int .i64 t1392, .slice Xo11 t1393.length ko11, .slice Xo12 t1396.length ko12, .slice Xo13 t1399.length ko13] HM rfl rfl ?_; clear HM; intro w16 HM))
 refine bodyPost_ret (results_cell_row rfl _ _ gb1386 32 #[.int .i64 t1391, .int .i64 t1392, .slice Xo11 t1393.length ko11, .slice Xo12 t1396.length ko12, .slice Xo13 t1399.length ko13] (0, 0) _ rfl (HM.bx 0 rfl) Try.underlying32 rfl (by kernel_rfl)) rfl ?_
 exact ⟨_, _, _, ER, (MD HM).pick [1, 2, 3]⟩
def spec_l16Op.f (s0_0 : List Int) (s0_1 : Int) (s0_2 : Int) : Option (Int × ByteArray × ByteArray × Int × Int) := (spec_l01Below.f s0_0 s0_1 s0_2 3).bind fun bt1406 => ((spec_l10Key.f s0_0 bt1406.2.1 bt1406.2.2).bind fun bt1409 => (if (wrap64 (1 + bt1406.1)) = 2 then ((spec_l10Val.f s0_0 bt1409.2.1 bt1409.2.2).bind fun bt1413 => (some (wrap64 (1 + bt1406.1), bt1409.1, bt1413.1, bt1413.2.1, bt1413.2.2))) else (some (wrap64 (1 + bt1406.1), bt1409.1, (⟨#[]⟩ : ByteArray), bt1409.2.1, bt1409.2.2))))
set_option maxHeartbeats 8000000 in
set_option maxRecDepth 100000 in
theorem spec_l16Op.calls (g : Nat) (A0_0 : Option Addr) (c0_0 : Nat) (s0_0 : List Int) (s0_1 : Int) (s0_2 : Int) (r1 : Int) (r2 : ByteArray) (r3 : ByteArray) (r4 : Int) (r5 : Int) (w0 w : World) (F : List SP) (hrs0_0 : Kd.C (Kd.int .u8) w0 A0_0 s0_0.length s0_0) (hcs0_0 : s0_0.length ≤ c0_0) (hM : Mem w0 F w [box 83 g [.slice A0_0 s0_0.length c0_0, .int .i64 s0_1, .int .i64 s0_2]]) (h : spec_l16Op.f s0_0 s0_1 s0_2 = some (r1, r2, r3, r4, r5)) :
  Calls Try.prog 87 #[.pointer (some ⟨g, 0, none⟩)] w fun e w' => e = .returned (.agg #[.int .i64 r1, .string r2, .string r3]) ∧ Mem w0 F w' [box 83 g [.slice A0_0 s0_0.length c0_0, .int .i64 r4, .int .i64 r5]] := by
 have hu38 := Try.underlying38
 have HRs0_0 := Aside0.mk hrs0_0
 have HCs0_0 := Aside0.mk hcs0_0
 clear hrs0_0 hcs0_0
 have HM := hM
 clear hM
 have H := h
 clear h
 unfold spec_l16Op.f at H
 go_enter Try.func87, Try.ntmps87
 replace H := BN H; obtain ⟨⟨t1406, t1407, t1408⟩, A3, H⟩ := H
 replace H := BN H; obtain ⟨⟨t1409, t1410, t1411⟩, A5, H⟩ := H
 go_upto_if 12 with (first | ((with_reducible refine gate_dst (N := 2) rfl ?_); refine pB 2 38 [.int .i64 0, .string (⟨#[]⟩ : ByteArray), .string (⟨#[]⟩ : ByteArray)] HM rfl ?_; clear HM; intro gb1405 w2 HM) | ((with_reducible refine gate_callee (f := 84) rfl ?_); refine pC (some 5) rfl #[.pointer (some ⟨g, 0, none⟩), .int .i64 3] rfl Try.func84 (spec_l01Below.calls g A0_0 c0_0 s0_0 s0_1 s0_2 3 t1406 t1407 t1408 _ _ _ HRs0_0.out HCs0_0.out (HM.focus [1] [0]) A3.out) ?_; rintro e w4 ⟨rfl, hR⟩; refine ⟨_, rfl, ?_⟩; replace HM := nzM hR.unfocus; clear hR) | ((with_reducible refine gate_callee (f := 100) rfl ?_); refine pC (some 8) rfl #[.pointer (some ⟨g, 0, none⟩)] rfl Try.func100 (spec_l10Key.calls g A0_0 c0_0 s0_0 t1407 t1408 t1409 t1410 t1411 _ _ _ HRs0_0.out HCs0_0.out (HM.focus [0] [1]) A5.out) ?_; rintro e w6 ⟨rfl, hR⟩; refine ⟨_, rfl, ?_⟩; replace HM := nzM hR.unfocus; clear hR) | ((with_reducible refine gate_dst (N := 3) rfl ?_); refine pB 3 38 [.int .i64 0, .string (⟨#[]⟩ : ByteArray), .string (⟨#[]⟩ : ByteArray)] HM rfl ?_; clear HM; intro gb1412 w7 HM) | ((with_reducible refine gate_st (p := 3) rfl ?_); refine pS 2 3 0 [.int .i64 (wrap64 (1 + t1406)), .string t1409, .string (⟨#[]⟩ : ByteArray)] HM rfl rfl ?_; clear HM; intro w8 HM; obtain ⟨hcz9_0, hcz9_1, hcz9_2, hfz9_0, hfz9_1, hfz9_2⟩ := bk3 (HM.bx 2 rfl)))
 replace HM := nzM HM
 replace H := IT H; rcases H with ⟨c10, H⟩ | ⟨c10, H⟩
 ·have c10b0 : ((wrap64 (1 + t1406)) == 2) = true := beq_iff_eq.mpr c10
  have c10b1 : ((wrap64 (1 + t1406)) != 2) = false := bne_eq_false_iff_eq.mpr c10
  clear c10
  (first | rw [c10b0] | (simp only [i64_w, i32_w]; rw [c10b0]) | skip)
  replace H := BN H; obtain ⟨⟨t1413, t1414, t1415⟩, A11, H⟩ := H
  simp only [Option.some.injEq, Prod.mk.injEq] at H
  obtain ⟨rfl, rfl, rfl, rfl, rfl⟩ := H
  go_wp2_with (first | ((with_reducible refine gate_callee (f := 101) rfl ?_); refine pC (some 14) rfl #[.pointer (some ⟨g, 0, none⟩)] rfl Try.func101 (spec_l10Val.calls g A0_0 c0_0 s0_0 t1410 t1411 t1413 t1414 t1415 _ _ _ HRs0_0.out HCs0_0.out (HM.focus [0, 2] [1]) A11.out) ?_; rintro e w12 ⟨rfl, hR⟩; refine ⟨_, rfl, ?_⟩; replace HM := nzM hR.unfocus; clear hR) | ((with_reducible refine gate_st (p := 15) rfl ?_); refine pS 1 15 2 [.string t1413] HM rfl rfl ?_; clear HM; intro w13 HM; obtain ⟨hcz14_0, hcz14_1, hcz14_2, hfz14_0, hfz14_1, hfz14_2⟩ := bk3 (HM.bx 1 rfl)) | ((with_reducible refine gate_st (p := 2) rfl ?_); refine pS 0 2 0 [.int .i64 (wrap64 (1 + t1406)), .string t1409, .string t1413] HM rfl rfl ?_; clear HM; intro w15 HM))
  refine bodyPost_ret (results_cell_row rfl _ _ gb1405 38 #[.int .i64 (wrap64 (1 + t1406)), .string t1409, .string t1413] (0, 0) _ rfl (HM.bx 0 rfl) Try.underlying38 rfl (by kernel_rfl)) rfl ?_
  exact ⟨ER, (MD HM).pick [2]⟩
 ·have c10b0 : ((wrap64 (1 + t1406)) == 2) = false := beq_eq_false_iff_ne.mpr c10
  have c10b1 : ((wrap64 (1 + t1406)) != 2) = true := bne_iff_ne.mpr c10
  (first | rw [c10b0] | (simp only [i64_w, i32_w]; rw [c10b0]) | skip)
  simp only [Option.some.injEq, Prod.mk.injEq] at H
  obtain ⟨rfl, rfl, rfl, rfl, rfl⟩ := H
  go_wp2_with (first | ((with_reducible refine gate_st (p := 2) rfl ?_); refine pS 0 2 0 [.int .i64 (wrap64 (1 + t1406)), .string t1409, .string (⟨#[]⟩ : ByteArray)] HM rfl rfl ?_; clear HM; intro w16 HM))
  refine bodyPost_ret (results_cell_row rfl _ _ gb1405 38 #[.int .i64 (wrap64 (1 + t1406)), .string t1409, .string (⟨#[]⟩ : ByteArray)] (0, 0) _ rfl (HM.bx 0 rfl) Try.underlying38 rfl (by kernel_rfl)) rfl ?_
  exact ⟨ER, (MD HM).pick [1]⟩
def spec_l16Ops.l0 : Nat → List (S38) → Int → List Int → Int → Int → Option ((List (S38)) × Int × Int)
 | 0, _, _, _, _, _ => none
 | k + 1, x5, x6, x1000, x1001, x1002 => if x6 > 0 then ((spec_l16Op.f x1000 x1001 x1002).bind fun bt1422 => (if x5.length < 3518437208883 then (spec_l16Ops.l0 k (x5 ++ [(⟨bt1422.1, bt1422.2.1, bt1422.2.2.1⟩ : S38)]) (wrap64 (x6 - 1)) x1000 bt1422.2.2.2.1 bt1422.2.2.2.2) else (none))) else (some (x5, x1001, x1002))
def spec_l16Ops.f (k : Nat) (s0_0 : List Int) (s0_1 : Int) (s0_2 : Int) (a1 : Int) : Option ((List (S38)) × Int × Int) := (spec_l01Below.f s0_0 s0_1 s0_2 (wrap64 (a1 + 1))).bind fun bt1419 => (spec_l16Ops.l0 k (([] : List (S38))) bt1419.1 s0_0 bt1419.2.1 bt1419.2.2)
theorem spec_l16Ops.mono_l : ∀ k, (∀ y0 y1 y2 y3 y4, LeO (spec_l16Ops.l0 k y0 y1 y2 y3 y4) (spec_l16Ops.l0 (k + 1) y0 y1 y2 y3 y4))
 | 0 => fun _ _ _ _ _ r h => by simp [spec_l16Ops.l0] at h
 | k + 1 => by
  have ih0 := spec_l16Ops.mono_l k
  ·intro y0 y1 y2 y3 y4
   unfold spec_l16Ops.l0
   repeat' first | (with_reducible first | exact ih0 _ _ _ _ _ | exact LeO.refl _ | exact LeO.none _ | refine LeO.ite ?_ ?_ | refine LeO.bind ?_ (fun _ => ?_)) | exact ih0 _ _ _ _ _ | exact LeO.none _ | refine LeO.ite ?_ ?_ | refine LeO.bind ?_ (fun _ => ?_)
theorem spec_l16Ops.mono : ∀ a0 a1 a2 a3 k, LeO (spec_l16Ops.f k a0 a1 a2 a3) (spec_l16Ops.f (k + 1) a0 a1 a2 a3) := by
 intro a0 a1 a2 a3 k
 have ih0 := spec_l16Ops.mono_l k
 unfold spec_l16Ops.f
 repeat' first | (with_reducible first | exact ih0 _ _ _ _ _ | exact LeO.refl _ | exact LeO.none _ | refine LeO.ite ?_ ?_ | refine LeO.bind ?_ (fun _ => ?_)) | exact ih0 _ _ _ _ _ | exact LeO.none _ | refine LeO.ite ?_ ?_ | refine LeO.bind ?_ (fun _ => ?_)
set_option maxHeartbeats 8000000 in
set_option maxRecDepth 100000 in
theorem spec_l16Ops.calls (k : Nat) (g : Nat) (A0_0 : Option Addr) (c0_0 : Nat) (s0_0 : List Int) (s0_1 : Int) (s0_2 : Int) (a1 : Int) (r1 : List (S38)) (r2 : Int) (r3 : Int) (w0 w : World) (F : List SP) (hrs0_0 : Kd.C (Kd.int .u8) w0 A0_0 s0_0.length s0_0) (hcs0_0 : s0_0.length ≤ c0_0) (hM : Mem w0 F w [box 83 g [.slice A0_0 s0_0.length c0_0, .int .i64 s0_1, .int .i64 s0_2]]) (h : spec_l16Ops.f k s0_0 s0_1 s0_2 a1 = some (r1, r2, r3)) :
  Calls Try.prog 54 #[.pointer (some ⟨g, 0, none⟩), .int .i64 a1] w fun e w' => ∃ v0_ : Value, e = .returned (v0_) ∧ Mem w0 F w' [rowR k38 38 v0_ r1, box 83 g [.slice A0_0 s0_0.length c0_0, .int .i64 r2, .int .i64 r3]] := by
 have HRs0_0 := Aside0.mk hrs0_0
 have HCs0_0 := Aside0.mk hcs0_0
 clear hrs0_0 hcs0_0
 have HM := hM
 clear hM
 have H := h
 clear h
 unfold spec_l16Ops.f at H
 go_enter Try.func54, Try.ntmps54
 replace H := BN H; obtain ⟨⟨t1419, t1420, t1421⟩, A4, H⟩ := H
 have H' := Aside0.mk H
 clear H
 go_wp2_with (first | ((with_reducible refine gate_dst (N := 7) rfl ?_); refine pL 7 k38 38 ([] : List (S38)) [] (Reps.none _ _) HM rfl ?_; clear HM; intro v1417 w3 HM) | ((with_reducible refine gate_callee (f := 84) rfl ?_); refine pC (some 11) rfl #[.pointer (some ⟨g, 0, none⟩), .int .i64 (wrap64 (a1 + 1))] rfl Try.func84 (spec_l01Below.calls g A0_0 c0_0 s0_0 s0_1 s0_2 (wrap64 (a1 + 1)) t1419 t1420 t1421 _ _ _ HRs0_0.out HCs0_0.out (HM.focus [1] [0]) A4.out) ?_; rintro e w5 ⟨rfl, hR⟩; refine ⟨_, rfl, ?_⟩; replace HM := nzM hR.unfocus; clear hR))
 go_loopg [5, 6] k (fun kq v5 v6 w' => ∃ (x5_1 : List (S38)) (x6_1 : Int) (x1001_1 : Int) (x1002_1 : Int), v6 = .int .i64 x6_1 ∧ Aside0 (spec_l16Ops.l0 kq x5_1 x6_1 s0_0 x1001_1 x1002_1 = some (r1, r2, r3)) ∧ Aside0 (kq ≤ k) ∧ Mem w0 F w' [rowR k38 38 v5 x5_1, box 83 g [.slice A0_0 s0_0.length c0_0, .int .i64 x1001_1, .int .i64 x1002_1]])
 case atStart => exact ⟨((([] : List (S38)))), (t1419), (t1420), (t1421), RS, H', ⟨Nat.le_refl _⟩, (MD HM).pick [0, 1]⟩
 case round =>
  clear H' HM
  obtain ⟨x5_1, x6_1, x1001_1, x1002_1, rfl, HA, HK1, HM⟩ := hrel
  cases gk with
  | zero => exact absurd HA.out (by simp [spec_l16Ops.l0])
  | succ k1 =>
   have H := HA.out
   clear HA
   simp only [spec_l16Ops.l0] at H
   go_upto_if 13 with (fail)
   replace H := IT H; rcases H with ⟨c6, H⟩ | ⟨c6, H⟩
   ·have c6b0 : decide (0 < x6_1) = true := decide_eq_true c6
    clear c6
    (first | rw [c6b0] | (simp only [i64_w, i32_w]; rw [c6b0]) | skip)
    replace H := BN H; obtain ⟨⟨t1422, t1423, t1424, t1425, t1426⟩, A7, H⟩ := H
    replace H := GD H; obtain ⟨c9, H⟩ := H
    have LMc9 := Aside0.mk c9
    clear c9
    have H' := Aside0.mk H
    clear H
    go_wp2_with (first | ((with_reducible refine gate_callee (f := 87) rfl ?_); refine pC (some 18) rfl #[.pointer (some ⟨g, 0, none⟩)] rfl Try.func87 (spec_l16Op.calls g A0_0 c0_0 s0_0 x1001_1 x1002_1 t1422 t1423 t1424 t1425 t1426 _ _ _ HRs0_0.out HCs0_0.out (HM.focus [0] [1]) A7.out) ?_; rintro e w8 ⟨rfl, hR⟩; refine ⟨_, rfl, ?_⟩; replace HM := nzM hR.unfocus; clear hR) | ((with_reducible refine gate_dst (N := 19) rfl ?_); refine pL 19 k38 38 [(⟨t1422, t1423, t1424⟩ : S38)] [.int .i64 t1422, .string t1423, .string t1424] (Reps.c3 (show Kd.M k38 _ _ _ (⟨t1422, t1423, t1424⟩ : S38) [.int .i64 t1422, .string t1423, .string t1424] from (k38_mkM _ _ _ (⟨t1422, t1423, t1424⟩ : S38))) (Reps.none _ _)) HM rfl ?_; clear HM; intro v11 w10 HM; obtain ⟨Xv11, kv11, ev11⟩ := HM.rdR 2 rfl; subst ev11) | ((with_reducible refine gate_builtin (b := .append) (xs := #[.tmp 16, .tmp 19]) rfl ?_); refine pA 0 (.tmp 16) (.tmp 19) 49 38 k38 u5 x5_1 [(⟨t1422, t1423, t1424⟩ : S38)] Xv11 ([(⟨t1422, t1423, t1424⟩ : S38)].length) kv11 HM rfl Try.underlying49 info38 rfl (HM.CR 2 rfl).2.2 (by have h_ := LMc9.out; simp only [List.length_singleton]; omega) ?_; clear HM; intro v1428 w12 HM))
    go_roundg k1
    case measure => have := HK1.out; omega
    case rel => exact ⟨((x5_1 ++ [(⟨t1422, t1423, t1424⟩ : S38)])), (wrap64 (x6_1 - 1)), (t1425), (t1426), RS, H', ⟨by have := HK1.out; omega⟩, (MD HM).pick [0, 1]⟩
   ·have c6b0 : decide (0 < x6_1) = false := decide_eq_false c6
    clear c6
    (first | rw [c6b0] | (simp only [i64_w, i32_w]; rw [c6b0]) | skip)
    simp only [Option.some.injEq, Prod.mk.injEq] at H
    obtain ⟨rfl, rfl, rfl⟩ := H
    go_wp2
    go_ret
    exact ⟨_, ER, (MD HM).pick [0, 1]⟩
def spec_MakeOps.f (k : Nat) (l0 : List Int) (a1 : Int) : Option ((List (S38))) := (spec_l01New.f k l0).bind fun bt1430 => ((spec_l16Ops.f k bt1430.1 bt1430.2.1 (wrap64 (bt1430.2.2 + 91)) a1).bind fun bt1434 => (some bt1434.1))
theorem spec_MakeOps.mono : ∀ a0 a1 k, LeO (spec_MakeOps.f k a0 a1) (spec_MakeOps.f (k + 1) a0 a1) := by
 intro a0 a1 k
 unfold spec_MakeOps.f
 repeat' first | (with_reducible first | exact spec_l01New.mono _ _ | exact spec_l16Ops.mono _ _ _ _ _ | exact LeO.refl _ | exact LeO.none _ | refine LeO.ite ?_ ?_ | refine LeO.bind ?_ (fun _ => ?_)) | exact spec_l01New.mono _ _ | exact spec_l16Ops.mono _ _ _ _ _ | exact LeO.none _ | refine LeO.ite ?_ ?_ | refine LeO.bind ?_ (fun _ => ?_)
set_option maxHeartbeats 8000000 in
set_option maxRecDepth 100000 in
theorem spec_MakeOps.calls (k : Nat) (A0 : Option Addr) (c0 : Nat) (l0 : List Int) (a1 : Int) (r : List (S38)) (w : World) (hr0 : Kd.C (Kd.int .u8) w A0 l0.length l0) (hc0 : l0.length ≤ c0) (h : spec_MakeOps.f k l0 a1 = some r) :
  Calls Try.prog 26 #[.slice A0 l0.length c0, .int .i64 a1] w fun e w' => ∃ v0_ : Value, e = .returned (v0_) ∧ Mem w [] w' [rowR k38 38 v0_ r] := by
 have HR0 := Aside0.mk hr0
 have HC0 := Aside0.mk hc0
 clear hr0 hc0
 have HM := Mem.nil w
 have H := h
 clear h
 unfold spec_MakeOps.f at H
 go_enter Try.func26, Try.ntmps26
 replace H := BN H; obtain ⟨⟨t1430, t1431, t1432⟩, A3, H⟩ := H
 replace H := BN H; obtain ⟨⟨t1434, t1437, t1438⟩, A8, H⟩ := H
 obtain rfl := Option.some.inj H
 go_wp2_with (first | ((with_reducible refine gate_callee (f := 52) rfl ?_); refine pC (some 8) rfl #[.slice A0 l0.length c0] rfl Try.func52 (spec_l01New.calls k _ _ l0 t1430 t1431 t1432 _ _ HM.bel HR0.out HC0.out A3.out) ?_; rintro e w4 ⟨gb1433, Xn5, kn5, rfl, hR, hRn5, hCn5⟩; refine ⟨_, rfl, ?_⟩; have HRn5 := Aside0.mk hRn5; have HCn5 := Aside0.mk hCn5; clear hRn5 hCn5; replace HM := HM.call hR; clear hR; obtain ⟨hcz6_0, hcz6_1, hcz6_2, hfz6_0, hfz6_1, hfz6_2⟩ := bk3 (HM.bx 0 rfl)) | ((with_reducible refine gate_st (p := 16) rfl ?_); refine pS 0 16 2 [.int .i64 (wrap64 (t1432 + 91))] HM rfl rfl ?_; clear HM; intro w7 HM) | ((with_reducible refine gate_callee (f := 54) rfl ?_); refine pC (some 19) rfl #[.pointer (some ⟨gb1433, 0, none⟩), .int .i64 a1] rfl Try.func54 (spec_l16Ops.calls k gb1433 Xn5 kn5 t1430 t1431 (wrap64 (t1432 + 91)) a1 t1434 t1437 t1438 _ _ _ HRn5.out HCn5.out (HM.focus [] [0]) A8.out) ?_; rintro e w9 ⟨v1435, rfl, hR⟩; refine ⟨_, rfl, ?_⟩; replace HM := nzM hR.unfocus; clear hR))
 go_ret
 exact ⟨_, ER, (MD HM).pick [0]⟩
end Go.Proofs.Ytdeijmofaapgdaa.G

namespace Go.Proofs.Ytdeijmofaapgdaa.G
open Go.RowKit Go.Proofs.YtdeijmofaapgdaaW.PrintWords Go.Proofs.YtdeijmofaapgdaaW.PrintLast Go.Proofs.YtdeijmofaapgdaaW.PrintMore Go.Proofs.Ytdeijmofaapgdaa.Sh
attribute [local go_sem] max2_int min2_int max_two min_two max_three min_three max_four min_four
set_option linter.unusedVariables false
set_option linter.unusedSimpArgs false
def laws_less.f (a0 : Bool) : Option (Int) := if a0 = true then (some 1) else (some 0)
set_option maxHeartbeats 8000000 in
set_option maxRecDepth 100000 in
theorem laws_less.calls (a0 : Bool) (r : Int) (w : World) (h : laws_less.f a0 = some r) :
  Calls Try.prog 29 #[.bool a0] w fun e w' => e = .returned (.int .i64 r) ∧ Drawn0 w w' := by
 have H : (if a0 = true then (some 1) else (some 0)) = some r := h
 clear h
 by_cases c2 : a0 = true
 ·subst c2
  replace H := IP H
  obtain rfl := Option.some.inj H
  go_enter Try.func29, Try.ntmps29
  go_wp2
  go_ret
  exact ⟨by first | rfl | (simp; done) | (simp [*]; done), DR⟩
 ·replace c2 := Bool.eq_false_iff.mpr c2
  subst c2
  replace H := IN H
  obtain rfl := Option.some.inj H
  go_enter Try.func29, Try.ntmps29
  go_wp2
  go_ret
  exact ⟨by first | rfl | (simp; done) | (simp [*]; done), DR⟩
end Go.Proofs.Ytdeijmofaapgdaa.G

namespace Go.Proofs.Ytdeijmofaapgdaa.G
open Go.RowKit Go.Proofs.YtdeijmofaapgdaaW.PrintWords Go.Proofs.YtdeijmofaapgdaaW.PrintLast Go.Proofs.YtdeijmofaapgdaaW.PrintMore Go.Proofs.Ytdeijmofaapgdaa.Sh
attribute [local go_sem] max2_int min2_int max_two min_two max_three min_three max_four min_four
set_option linter.unusedVariables false
set_option linter.unusedSimpArgs false
open Go.Proofs.Ytdeijmofaapgdaa.Mm
mutual
def laws_FnRoom.l0 : Nat → List (S38) → Int → Int → Int → Int → List (S95) → List (S95) → List Int → Option (Bool)
 | 0, _, _, _, _, _, _, _, _ => none
 | k + 1, x23, x24, x25, x1451000, x1451001, x1451002, x1451003, x1451004 => if x25 < x24 then (if 0 ≤ x25 then (if x25 < (x23.length : Int) then ((impl_OpDo.f k x1451000 x1451001 x1451002 x1451003 x1451004 ((rd_T38 x23 x25).f0) ((rd_T38 x23 x25).f1) ((rd_T38 x23 x25).f2)).bind fun bt1457 => (if bt1457.2.2.2.2.2.2.2.2 = true then ((impl_ThreeOk.f k bt1457.1 bt1457.2.1 bt1457.2.2.1 bt1457.2.2.2.1 bt1457.2.2.2.2.1).bind fun t1474 => (if t1474 = true then (if bt1457.1 = x1451000 then (laws_FnRoom.j1 k (wrap64 ((x1451002.length : Int) + (x1451003.length : Int))) (wrap64 ((bt1457.2.2.1.length : Int) + (bt1457.2.2.2.1.length : Int))) x23 x24 x25 (decide ((wrap64 ((bt1457.2.2.1.length : Int) + (bt1457.2.2.2.1.length : Int))) > x1451000)) x1451000 x1451001 x1451002 x1451003 x1451004 ((rd_T38 x23 x25).f0) ((rd_T38 x23 x25).f1) ((rd_T38 x23 x25).f2) bt1457.1 bt1457.2.1 bt1457.2.2.1 bt1457.2.2.2.1 bt1457.2.2.2.2.1 bt1457.2.2.2.2.2.1 bt1457.2.2.2.2.2.2.1 bt1457.2.2.2.2.2.2.2.1) else (laws_FnRoom.j1 k (wrap64 ((x1451002.length : Int) + (x1451003.length : Int))) (wrap64 ((bt1457.2.2.1.length : Int) + (bt1457.2.2.2.1.length : Int))) x23 x24 x25 true x1451000 x1451001 x1451002 x1451003 x1451004 ((rd_T38 x23 x25).f0) ((rd_T38 x23 x25).f1) ((rd_T38 x23 x25).f2) bt1457.1 bt1457.2.1 bt1457.2.2.1 bt1457.2.2.2.1 bt1457.2.2.2.2.1 bt1457.2.2.2.2.2.1 bt1457.2.2.2.2.2.2.1 bt1457.2.2.2.2.2.2.2.1)) else (laws_FnRoom.j1 k (wrap64 ((x1451002.length : Int) + (x1451003.length : Int))) (wrap64 ((bt1457.2.2.1.length : Int) + (bt1457.2.2.2.1.length : Int))) x23 x24 x25 true x1451000 x1451001 x1451002 x1451003 x1451004 ((rd_T38 x23 x25).f0) ((rd_T38 x23 x25).f1) ((rd_T38 x23 x25).f2) bt1457.1 bt1457.2.1 bt1457.2.2.1 bt1457.2.2.2.1 bt1457.2.2.2.2.1 bt1457.2.2.2.2.2.1 bt1457.2.2.2.2.2.2.1 bt1457.2.2.2.2.2.2.2.1))) else (laws_FnRoom.j1 k (wrap64 ((x1451002.length : Int) + (x1451003.length : Int))) (wrap64 ((bt1457.2.2.1.length : Int) + (bt1457.2.2.2.1.length : Int))) x23 x24 x25 true x1451000 x1451001 x1451002 x1451003 x1451004 ((rd_T38 x23 x25).f0) ((rd_T38 x23 x25).f1) ((rd_T38 x23 x25).f2) bt1457.1 bt1457.2.1 bt1457.2.2.1 bt1457.2.2.2.1 bt1457.2.2.2.2.1 bt1457.2.2.2.2.2.1 bt1457.2.2.2.2.2.2.1 bt1457.2.2.2.2.2.2.2.1))) else (none)) else (none)) else ((impl_ThreeOk.f k x1451000 x1451001 x1451002 x1451003 x1451004).bind fun t1454 => (some t1454))
def laws_FnRoom.j1 : Nat → Int → Int → List (S38) → Int → Int → Bool → Int → Int → List (S95) → List (S95) → List Int → Int → ByteArray → ByteArray → Int → Int → List (S95) → List (S95) → List Int → Bool → ByteArray → ByteArray → Option (Bool)
 | 0, _, _, _, _, _, _, _, _, _, _, _, _, _, _, _, _, _, _, _, _, _, _ => none
 | k + 1, x9, x10, x23, x24, x25, x69, x1451000, x1451001, x1451002, x1451003, x1451004, x1457000, x1457001, x1457002, x1473000, x1473001, x1473002, x1473003, x1473004, x1474000, x1474001, x1474002 => if x69 = true then (none) else ((impl_Get.f k x1451000 x1451001 x1451002 x1451003 x1451004 x1457001).bind fun bt1475 => ((impl_Get.f k x1473000 x1473001 x1473002 x1473003 x1473004 x1457001).bind fun bt1489 => (if x1457000 = 2 then (if bt1489.2.2.2.2.2.2 = true then (if bt1475.2.2.2.2.2.2 = true then (if ((x1474002.toList != ([] : List UInt8)) != false) = true then (none) else ((laws_less.f false).bind fun t1503 => (if x10 = (wrap64 (x9 + t1503)) then (laws_FnRoom.l0 k x23 x24 (wrap64 (x25 + 1)) x1473000 x1473001 x1473002 x1473003 x1473004) else (none)))) else (if ((x1474002.toList != ([] : List UInt8)) != (x9 == x1451000)) = true then (none) else ((laws_less.f (decide (x9 < x1451000))).bind fun t1504 => (if x10 = (wrap64 (x9 + t1504)) then (laws_FnRoom.l0 k x23 x24 (wrap64 (x25 + 1)) x1473000 x1473001 x1473002 x1473003 x1473004) else (none))))) else (none)) else (if x1457000 = 1 then (if (x1474000 != bt1475.2.2.2.2.2.2) = true then (none) else (if (bt1489.2.2.2.2.2.2 != bt1475.2.2.2.2.2.2) = true then (none) else (if x10 = x9 then (if x1474002.toList = ([] : List UInt8) then (laws_FnRoom.l0 k x23 x24 (wrap64 (x25 + 1)) x1473000 x1473001 x1473002 x1473003 x1473004) else (none)) else (none)))) else (if (x1474000 != bt1475.2.2.2.2.2.2) = true then (none) else (if bt1489.2.2.2.2.2.2 = true then (none) else ((laws_less.f bt1475.2.2.2.2.2.2).bind fun t1505 => (if x10 = (wrap64 (x9 - t1505)) then (laws_FnRoom.l0 k x23 x24 (wrap64 (x25 + 1)) x1473000 x1473001 x1473002 x1473003 x1473004) else (none)))))))))
end
def laws_FnRoom.f (k : Nat) (l0 : List Int) : Option (Bool) := if (l0.length : Int) > 1048576 then (some true) else ((spec_MakeThree.f k l0).bind fun bt1439 => ((spec_MakeOps.f k l0 20).bind fun t1451 => (laws_FnRoom.l0 k t1451 (t1451.length : Int) 0 bt1439.1 bt1439.2.1 bt1439.2.2.1 bt1439.2.2.2.1 bt1439.2.2.2.2)))
theorem laws_FnRoom.mono_l : ∀ k, (∀ y0 y1 y2 y3 y4 y5 y6 y7, LeO (laws_FnRoom.l0 k y0 y1 y2 y3 y4 y5 y6 y7) (laws_FnRoom.l0 (k + 1) y0 y1 y2 y3 y4 y5 y6 y7)) ∧ (∀ y0 y1 y2 y3 y4 y5 y6 y7 y8 y9 y10 y11 y12 y13 y14 y15 y16 y17 y18 y19 y20 y21, LeO (laws_FnRoom.j1 k y0 y1 y2 y3 y4 y5 y6 y7 y8 y9 y10 y11 y12 y13 y14 y15 y16 y17 y18 y19 y20 y21) (laws_FnRoom.j1 (k + 1) y0 y1 y2 y3 y4 y5 y6 y7 y8 y9 y10 y11 y12 y13 y14 y15 y16 y17 y18 y19 y20 y21))
 | 0 => ⟨fun _ _ _ _ _ _ _ _ r h => by simp [laws_FnRoom.l0] at h, fun _ _ _ _ _ _ _ _ _ _ _ _ _ _ _ _ _ _ _ _ _ _ r h => by simp [laws_FnRoom.j1] at h⟩
 | k + 1 => by
  obtain ⟨ih0, ih1⟩ := laws_FnRoom.mono_l k
  refine ⟨?_, ?_⟩
  ·intro y0 y1 y2 y3 y4 y5 y6 y7
   unfold laws_FnRoom.l0
   repeat' first | (with_reducible first | exact ih0 _ _ _ _ _ _ _ _ | exact ih1 _ _ _ _ _ _ _ _ _ _ _ _ _ _ _ _ _ _ _ _ _ _ | exact impl_Get.mono _ _ _ _ _ _ _ | exact impl_OpDo.mono _ _ _ _ _ _ _ _ _ | exact impl_ThreeOk.mono _ _ _ _ _ _ | exact spec_MakeOps.mono _ _ _ | exact spec_MakeThree.mono _ _ | exact LeO.refl _ | exact LeO.none _ | refine LeO.ite ?_ ?_ | refine LeO.bind ?_ (fun _ => ?_)) | exact ih0 _ _ _ _ _ _ _ _ | exact ih1 _ _ _ _ _ _ _ _ _ _ _ _ _ _ _ _ _ _ _ _ _ _ | exact impl_Get.mono _ _ _ _ _ _ _ | exact impl_OpDo.mono _ _ _ _ _ _ _ _ _ | exact impl_ThreeOk.mono _ _ _ _ _ _ | exact spec_MakeOps.mono _ _ _ | exact spec_MakeThree.mono _ _ | exact LeO.none _ | refine LeO.ite ?_ ?_ | refine LeO.bind ?_ (fun _ => ?_)
  ·intro y0 y1 y2 y3 y4 y5 y6 y7 y8 y9 y10 y11 y12 y13 y14 y15 y16 y17 y18 y19 y20 y21
   unfold laws_FnRoom.j1
   repeat' first | (with_reducible first | exact ih0 _ _ _ _ _ _ _ _ | exact ih1 _ _ _ _ _ _ _ _ _ _ _ _ _ _ _ _ _ _ _ _ _ _ | exact impl_Get.mono _ _ _ _ _ _ _ | exact impl_OpDo.mono _ _ _ _ _ _ _ _ _ | exact impl_ThreeOk.mono _ _ _ _ _ _ | exact spec_MakeOps.mono _ _ _ | exact spec_MakeThree.mono _ _ | exact LeO.refl _ | exact LeO.none _ | refine LeO.ite ?_ ?_ | refine LeO.bind ?_ (fun _ => ?_)) | exact ih0 _ _ _ _ _ _ _ _ | exact ih1 _ _ _ _ _ _ _ _ _ _ _ _ _ _ _ _ _ _ _ _ _ _ | exact impl_Get.mono _ _ _ _ _ _ _ | exact impl_OpDo.mono _ _ _ _ _ _ _ _ _ | exact impl_ThreeOk.mono _ _ _ _ _ _ | exact spec_MakeOps.mono _ _ _ | exact spec_MakeThree.mono _ _ | exact LeO.none _ | refine LeO.ite ?_ ?_ | refine LeO.bind ?_ (fun _ => ?_)
theorem laws_FnRoom.mono : ∀ a0 k, LeO (laws_FnRoom.f k a0) (laws_FnRoom.f (k + 1) a0) := by
 intro a0 k
 obtain ⟨ih0, ih1⟩ := laws_FnRoom.mono_l k
 unfold laws_FnRoom.f
 repeat' first | (with_reducible first | exact ih0 _ _ _ _ _ _ _ _ | exact ih1 _ _ _ _ _ _ _ _ _ _ _ _ _ _ _ _ _ _ _ _ _ _ | exact impl_Get.mono _ _ _ _ _ _ _ | exact impl_OpDo.mono _ _ _ _ _ _ _ _ _ | exact impl_ThreeOk.mono _ _ _ _ _ _ | exact spec_MakeOps.mono _ _ _ | exact spec_MakeThree.mono _ _ | exact LeO.refl _ | exact LeO.none _ | refine LeO.ite ?_ ?_ | refine LeO.bind ?_ (fun _ => ?_)) | exact ih0 _ _ _ _ _ _ _ _ | exact ih1 _ _ _ _ _ _ _ _ _ _ _ _ _ _ _ _ _ _ _ _ _ _ | exact impl_Get.mono _ _ _ _ _ _ _ | exact impl_OpDo.mono _ _ _ _ _ _ _ _ _ | exact impl_ThreeOk.mono _ _ _ _ _ _ | exact spec_MakeOps.mono _ _ _ | exact spec_MakeThree.mono _ _ | exact LeO.none _ | refine LeO.ite ?_ ?_ | refine LeO.bind ?_ (fun _ => ?_)
theorem laws_FnRoom.z0 {P : Prop} (h : P := by have := HK1.out; first | omega | exact Nat.le_refl _) : P := h
set_option maxHeartbeats 8000000 in
set_option maxRecDepth 100000 in
theorem laws_FnRoom.calls (k : Nat) (A0 : Option Addr) (c0 : Nat) (l0 : List Int) (r : Bool) (w : World) (hr0 : Kd.C (Kd.int .u8) w A0 l0.length l0) (hc0 : l0.length ≤ c0) (h : laws_FnRoom.f k l0 = some r) :
  Calls Try.prog 5 #[.slice A0 l0.length c0] w fun e w' => e = .returned (.bool r) ∧ Below w.heap.size w w' := by
 have hu32 := Try.underlying32
 have hu38 := Try.underlying38
 have hu34 := Try.underlying34
 have HR0 := Aside0.mk hr0
 have HC0 := Aside0.mk hc0
 clear hr0 hc0
 have HM := Mem.nil w
 have H := h
 clear h
 unfold laws_FnRoom.f at H
 go_enter Try.func5, Try.ntmps5
 go_upto_if 19 with (fail)
 replace H := IT H; rcases H with ⟨c2, H⟩ | ⟨c2, H⟩
 ·replace c2 : (l0.length : Int) > 1048576 := c2
  have c2b0 : decide (1048576 < (l0.length : Int)) = true := decide_eq_true c2
  have c2b1 : decide (1048576 < l0.length) = true := decide_eq_true (by omega)
  have c2b9 : decide (1048576 < l0.length) = true := decide_eq_true (by omega)
  clear c2
  (first | rw [c2b0] | rw [c2b9] | (simp only [i64_w, i32_w]; rw [c2b0]) | skip)
  obtain rfl := Option.some.inj H
  go_wp2
  go_ret
  exact ⟨ER, HM.bel⟩
 ·replace c2 : ¬ ((l0.length : Int) > 1048576) := c2
  have c2b0 : decide (1048576 < (l0.length : Int)) = false := decide_eq_false c2
  have c2b1 : decide (1048576 < l0.length) = false := decide_eq_false (by omega)
  have c2b9 : decide (1048576 < l0.length) = false := decide_eq_false (by omega)
  clear c2
  (first | rw [c2b0] | rw [c2b9] | (simp only [i64_w, i32_w]; rw [c2b0]) | skip)
  replace H := BN H; obtain ⟨⟨t1439, t1440, t1441, t1444, t1447⟩, A3, H⟩ := H
  replace H := BN H; obtain ⟨t1451, A10, H⟩ := H
  have H' := Aside0.mk H
  clear H
  go_wp2_with (first | ((with_reducible refine gate_callee (f := 25) rfl ?_); refine pC (some 21) rfl #[.slice A0 l0.length c0] rfl Try.func25 (spec_MakeThree.calls k _ _ l0 t1439 t1440 t1441 t1444 t1447 _ (HM.came HR0.out) HC0.out A3.out) ?_; rintro e w4 ⟨v1442, v1445, v1448, rfl, hR⟩; refine ⟨_, rfl, ?_⟩; replace HM := HM.call hR; clear hR) | ((with_reducible refine gate_dst (N := 3) rfl ?_); refine pB 3 32 [.int .i64 0, .int .i64 0, .slice none 0 0, .slice none 0 0, .slice none 0 0] HM rfl ?_; clear HM; intro gb1450 w5 HM; obtain ⟨Xo6, ko6, eo6⟩ := HM.rdR 0 rfl; subst eo6; obtain ⟨Xo7, ko7, eo7⟩ := HM.rdR 1 rfl; subst eo7; obtain ⟨Xo8, ko8, eo8⟩ := HM.rd 2 rfl; subst eo8) | ((with_reducible refine gate_st (p := 3) rfl ?_); refine pS 3 3 0 [.int .i64 t1439, .int .i64 t1440, .slice Xo6 t1441.length ko6, .slice Xo7 t1444.length ko7, .slice Xo8 t1447.length ko8] HM rfl rfl ?_; clear HM; intro w9 HM) | ((with_reducible refine gate_callee (f := 26) rfl ?_); refine pC (some 23) rfl #[.slice A0 l0.length c0, .int .i64 20] rfl Try.func26 (spec_MakeOps.calls k _ _ l0 20 t1451 _ (HM.came HR0.out) HC0.out A10.out) ?_; rintro e w11 ⟨v1452, rfl, hR⟩; refine ⟨_, rfl, ?_⟩; replace HM := HM.call hR; clear hR; obtain ⟨Xo12, ko12, eo12⟩ := HM.rdR 4 rfl; subst eo12))
  go_loopg [25] k (fun kq v25 w' => ∃ (x25_1 : Int) (x1451000_1 : Int) (x1451001_1 : Int) (x1451002_1 : List (S95)) (x1451003_1 : List (S95)) (x1451004_1 : List Int) (u1451002 : Value) (u1451003 : Value) (u1451004 : Value), v25 = .int .i64 x25_1 ∧ Aside0 (laws_FnRoom.l0 kq t1451 (t1451.length : Int) x25_1 x1451000_1 x1451001_1 x1451002_1 x1451003_1 x1451004_1 = some r) ∧ Aside0 (kq ≤ k) ∧ Mem w [] w' [rowR k38 38 (.slice Xo12 t1451.length ko12) t1451, rowR k95 95 u1451002 x1451002_1, rowR k95 95 u1451003 x1451003_1, row (Kd.int .i64) 3 u1451004 x1451004_1, box 32 gb1450 [.int .i64 x1451000_1, .int .i64 x1451001_1, u1451002, u1451003, u1451004]])
  case atStart => exact ⟨(0), (t1439), (t1440), (t1441), (t1444), (t1447), (.slice Xo6 t1441.length ko6), (.slice Xo7 t1444.length ko7), (.slice Xo8 t1447.length ko8), RS, H', ⟨Nat.le_refl _⟩, (MD HM).pick [4, 0, 1, 2, 3]⟩
  case round =>
   clear H' HM
   obtain ⟨x25_1, x1451000_1, x1451001_1, x1451002_1, x1451003_1, x1451004_1, u1451002, u1451003, u1451004, rfl, HA, HK1, HM⟩ := hrel
   cases gk with
   | zero => exact absurd HA.out (by simp [laws_FnRoom.l0])
   | succ k1 =>
    have H := HA.out
    clear HA
    simp only [laws_FnRoom.l0] at H
    go_upto_if 26 with (fail)
    replace H := IT H; rcases H with ⟨c13, H⟩ | ⟨c13, H⟩
    ·have c13b0 : decide (x25_1 < (t1451.length : Int)) = true := decide_eq_true c13
     clear c13
     (first | rw [c13b0] | (simp only [i64_w, i32_w]; rw [c13b0]) | skip)
     replace H := GD H; obtain ⟨c14, H⟩ := H
     have c14b0 : decide (0 ≤ x25_1) = true := decide_eq_true c14
     clear c14
     replace H := GD H; obtain ⟨c15, H⟩ := H
     have c15b0 : decide (x25_1 < (t1451.length : Int)) = true := decide_eq_true c15
     clear c15
     replace H := BN H; obtain ⟨⟨t1457, t1458, t1459, t1462, t1465, t1468, t1469, t1470, t1471⟩, A20, H⟩ := H
     have HC34 := Aside0.mk H
     clear H
     have p1455 : 0 ≤ (x25_1 : Int) := of_decide_eq_true AS
     have q1455 : (x25_1 : Int) < (t1451.length : Int) := of_decide_eq_true AS
     obtain ⟨ad1455, e1455, hx1455_0, hx1455_1, hx1455_2⟩ := at_T38 (HM.CR 0 rfl).2.2 x25_1 p1455 q1455
     cases e1455
     replace p1455 := eq_true p1455
     replace q1455 := eq_true q1455
     go_upto_region 10 with (first | ((with_reducible refine gate_dst (N := 5) rfl ?_); refine pB 5 38 [.int .i64 0, .string (⟨#[]⟩ : ByteArray), .string (⟨#[]⟩ : ByteArray)] HM rfl ?_; clear HM; intro gb1456 w16 HM) | ((with_reducible refine gate_st (p := 5) rfl ?_); refine pS 5 5 0 [.int .i64 ((rd_T38 t1451 x25_1).f0), .string ((rd_T38 t1451 x25_1).f1), .string ((rd_T38 t1451 x25_1).f2)] HM rfl rfl ?_; clear HM; intro w17 HM; obtain ⟨hcz18_0, hcz18_1, hcz18_2, hcz18_3, hcz18_4, hfz18_0, hfz18_1, hfz18_2, hfz18_3, hfz18_4⟩ := bk5 (HM.bx 4 rfl); obtain ⟨hcz19_0, hcz19_1, hcz19_2, hfz19_0, hfz19_1, hfz19_2⟩ := bk3 (HM.bx 5 rfl); obtain ⟨Xo22, ko22, eo22⟩ := HM.rdR 1 rfl; subst eo22; obtain ⟨Xo23, ko23, eo23⟩ := HM.rdR 2 rfl; subst eo23; obtain ⟨Xo24, ko24, eo24⟩ := HM.rd 3 rfl; subst eo24) | ((with_reducible refine gate_callee (f := 11) rfl ?_); refine pC (some 32) rfl #[.agg #[.int .i64 x1451000_1, .int .i64 x1451001_1, .slice Xo22 x1451002_1.length ko22, .slice Xo23 x1451003_1.length ko23, .slice Xo24 x1451004_1.length ko24], .agg #[.int .i64 ((rd_T38 t1451 x25_1).f0), .string ((rd_T38 t1451 x25_1).f1), .string ((rd_T38 t1451 x25_1).f2)]] rfl Try.func11 (impl_OpDo.calls k1 x1451000_1 x1451001_1 _ _ x1451002_1 _ _ x1451003_1 _ _ x1451004_1 ((rd_T38 t1451 x25_1).f0) ((rd_T38 t1451 x25_1).f1) ((rd_T38 t1451 x25_1).f2) t1457 t1458 t1459 t1462 t1465 t1468 t1469 t1470 t1471 _ (HM.CR 1 rfl).2.2 (HM.CR 1 rfl).2.1 (HM.CR 2 rfl).2.2 (HM.CR 2 rfl).2.1 (HM.C 3 rfl).2.2 (HM.C 3 rfl).2.1 A20.out) ?_; rintro e w21 ⟨v1460, v1463, v1466, rfl, hR⟩; refine ⟨_, rfl, ?_⟩; replace HM := HM.call hR; clear hR) | ((with_reducible refine gate_dst (N := 6) rfl ?_); refine pB 6 32 [.int .i64 0, .int .i64 0, .slice none 0 0, .slice none 0 0, .slice none 0 0] HM rfl ?_; clear HM; intro gb1472 w25 HM) | ((with_reducible refine gate_dst (N := 7) rfl ?_); refine pB 7 34 [.bool false, .string (⟨#[]⟩ : ByteArray), .string (⟨#[]⟩ : ByteArray)] HM rfl ?_; clear HM; intro gb1473 w26 HM; obtain ⟨Xo27, ko27, eo27⟩ := HM.rdR 6 rfl; subst eo27; obtain ⟨Xo28, ko28, eo28⟩ := HM.rdR 7 rfl; subst eo28; obtain ⟨Xo29, ko29, eo29⟩ := HM.rdR 8 rfl; subst eo29) | ((with_reducible refine gate_st (p := 6) rfl ?_); refine pS 9 6 0 [.int .i64 t1457, .int .i64 t1458, .slice Xo27 t1459.length ko27, .slice Xo28 t1462.length ko28, .slice Xo29 t1465.length ko29] HM rfl rfl ?_; clear HM; intro w30 HM) | ((with_reducible refine gate_st (p := 7) rfl ?_); refine pS 10 7 0 [.bool t1468, .string t1469, .string t1470] HM rfl rfl ?_; clear HM; intro w31 HM; obtain ⟨hcz32_0, hcz32_1, hcz32_2, hcz32_3, hcz32_4, hfz32_0, hfz32_1, hfz32_2, hfz32_3, hfz32_4⟩ := bk5 (HM.bx 4 rfl); obtain ⟨hcz33_0, hcz33_1, hcz33_2, hcz33_3, hcz33_4, hfz33_0, hfz33_1, hfz33_2, hfz33_3, hfz33_4⟩ := bk5 (HM.bx 9 rfl)))
     replace HM := nzM HM
     go_cut [69] (fun v69 wc => ∃ (kq : Nat) (x69_33 : Bool), v69 = .bool x69_33 ∧ Aside0 (laws_FnRoom.j1 kq (wrap64 ((x1451002_1.length : Int) + (x1451003_1.length : Int))) (wrap64 ((t1459.length : Int) + (t1462.length : Int))) t1451 (t1451.length : Int) x25_1 x69_33 x1451000_1 x1451001_1 x1451002_1 x1451003_1 x1451004_1 ((rd_T38 t1451 x25_1).f0) ((rd_T38 t1451 x25_1).f1) ((rd_T38 t1451 x25_1).f2) t1457 t1458 t1459 t1462 t1465 t1468 t1469 t1470 = some r) ∧ Aside0 (kq ≤ k1) ∧ Mem w [] wc [rowR k38 38 (.slice (some ad1455) t1451.length ko12) t1451, rowR k95 95 (.slice Xo22 x1451002_1.length ko22) x1451002_1, rowR k95 95 (.slice Xo23 x1451003_1.length ko23) x1451003_1, row (Kd.int .i64) 3 (.slice Xo24 x1451004_1.length ko24) x1451004_1, rowR k95 95 (.slice Xo27 t1459.length ko27) t1459, rowR k95 95 (.slice Xo28 t1462.length ko28) t1462, rowR (Kd.int .i64) 3 (.slice Xo29 t1465.length ko29) t1465, box 32 gb1450 [.int .i64 x1451000_1, .int .i64 x1451001_1, (.slice Xo22 x1451002_1.length ko22), (.slice Xo23 x1451003_1.length ko23), (.slice Xo24 x1451004_1.length ko24)], box 38 gb1456 [.int .i64 ((rd_T38 t1451 x25_1).f0), .string ((rd_T38 t1451 x25_1).f1), .string ((rd_T38 t1451 x25_1).f2)], box 32 gb1472 [.int .i64 t1457, .int .i64 t1458, (.slice Xo27 t1459.length ko27), (.slice Xo28 t1462.length ko28), (.slice Xo29 t1465.length ko29)], box 34 gb1473 [.bool t1468, .string t1469, .string t1470]])
     case first =>
      have H := HC34.out
      clear HC34
      replace H := IB H
      rcases H with ⟨c35, H⟩ | ⟨c35, H⟩
      ·subst c35
       replace H := BN H; obtain ⟨t1474, A36, H⟩ := H
       replace H := IB H
       rcases H with ⟨c38, H⟩ | ⟨c38, H⟩
       ·subst c38
        replace H := IT H; rcases H with ⟨c41, H⟩ | ⟨c41, H⟩
        ·have c41b0 : (t1457 == x1451000_1) = true := beq_iff_eq.mpr c41
         have c41b1 : (t1457 != x1451000_1) = false := bne_eq_false_iff_eq.mpr c41
         clear c41
         have H' := Aside0.mk H
         clear H
         go_wp2_with (first | ((with_reducible refine gate_callee (f := 27) rfl ?_); refine pC (some 54) rfl #[.agg #[.int .i64 t1457, .int .i64 t1458, .slice Xo27 t1459.length ko27, .slice Xo28 t1462.length ko28, .slice Xo29 t1465.length ko29]] rfl Try.func27 (impl_ThreeOk.calls k1 t1457 t1458 _ _ t1459 _ _ t1462 _ _ t1465 true _ (HM.CR 6 rfl).2.2 (HM.CR 6 rfl).2.1 (HM.CR 7 rfl).2.2 (HM.CR 7 rfl).2.1 (HM.CR 8 rfl).2.2 (HM.CR 8 rfl).2.1 A36.out) ?_; rintro e w37 ⟨rfl, hR⟩; refine ⟨_, rfl, ?_⟩; replace HM := HM.call hR; clear hR; obtain ⟨hcz39_0, hcz39_1, hcz39_2, hcz39_3, hcz39_4, hfz39_0, hfz39_1, hfz39_2, hfz39_3, hfz39_4⟩ := bk5 (HM.bx 9 rfl); obtain ⟨hcz40_0, hcz40_1, hcz40_2, hcz40_3, hcz40_4, hfz40_0, hfz40_1, hfz40_2, hfz40_3, hfz40_4⟩ := bk5 (HM.bx 4 rfl)))
         go_meet
         case rel => exact ⟨_, (decide ((wrap64 ((t1459.length : Int) + (t1462.length : Int))) > x1451000_1)), RS, H', ⟨laws_FnRoom.z0⟩, (MD HM).pick [0, 1, 2, 3, 6, 7, 8, 4, 5, 9, 10]⟩
        ·have c41b0 : (t1457 == x1451000_1) = false := beq_eq_false_iff_ne.mpr c41
         have c41b1 : (t1457 != x1451000_1) = true := bne_iff_ne.mpr c41
         have H' := Aside0.mk H
         clear H
         go_wp2_with (first | ((with_reducible refine gate_callee (f := 27) rfl ?_); refine pC (some 54) rfl #[.agg #[.int .i64 t1457, .int .i64 t1458, .slice Xo27 t1459.length ko27, .slice Xo28 t1462.length ko28, .slice Xo29 t1465.length ko29]] rfl Try.func27 (impl_ThreeOk.calls k1 t1457 t1458 _ _ t1459 _ _ t1462 _ _ t1465 true _ (HM.CR 6 rfl).2.2 (HM.CR 6 rfl).2.1 (HM.CR 7 rfl).2.2 (HM.CR 7 rfl).2.1 (HM.CR 8 rfl).2.2 (HM.CR 8 rfl).2.1 A36.out) ?_; rintro e w37 ⟨rfl, hR⟩; refine ⟨_, rfl, ?_⟩; replace HM := HM.call hR; clear hR; obtain ⟨hcz39_0, hcz39_1, hcz39_2, hcz39_3, hcz39_4, hfz39_0, hfz39_1, hfz39_2, hfz39_3, hfz39_4⟩ := bk5 (HM.bx 9 rfl); obtain ⟨hcz40_0, hcz40_1, hcz40_2, hcz40_3, hcz40_4, hfz40_0, hfz40_1, hfz40_2, hfz40_3, hfz40_4⟩ := bk5 (HM.bx 4 rfl)))
         go_meet
         case rel => exact ⟨_, (true), RS, H', ⟨laws_FnRoom.z0⟩, (MD HM).pick [0, 1, 2, 3, 6, 7, 8, 4, 5, 9, 10]⟩
       ·subst c38
        have H' := Aside0.mk H
        clear H
        go_wp2_with (first | ((with_reducible refine gate_callee (f := 27) rfl ?_); refine pC (some 54) rfl #[.agg #[.int .i64 t1457, .int .i64 t1458, .slice Xo27 t1459.length ko27, .slice Xo28 t1462.length ko28, .slice Xo29 t1465.length ko29]] rfl Try.func27 (impl_ThreeOk.calls k1 t1457 t1458 _ _ t1459 _ _ t1462 _ _ t1465 false _ (HM.CR 6 rfl).2.2 (HM.CR 6 rfl).2.1 (HM.CR 7 rfl).2.2 (HM.CR 7 rfl).2.1 (HM.CR 8 rfl).2.2 (HM.CR 8 rfl).2.1 A36.out) ?_; rintro e w37 ⟨rfl, hR⟩; refine ⟨_, rfl, ?_⟩; replace HM := HM.call hR; clear hR))
        go_meet
        case rel => exact ⟨_, (true), RS, H', ⟨laws_FnRoom.z0⟩, (MD HM).pick [0, 1, 2, 3, 6, 7, 8, 4, 5, 9, 10]⟩
      ·subst c35
       have H' := Aside0.mk H
       clear H
       go_wp2
       go_meet
       case rel => exact ⟨_, (true), RS, H', ⟨laws_FnRoom.z0⟩, (MD HM).pick [0, 1, 2, 3, 6, 7, 8, 4, 5, 9, 10]⟩
     case rest =>
      clear HC34 HM
      obtain ⟨kq, x69_33, rfl, HA, HJ33, HM⟩ := hcut
      cases kq with
      | zero => exact absurd HA.out (by simp [laws_FnRoom.j1])
      | succ kj33 =>
       have H := HA.out
       clear HA
       simp only [laws_FnRoom.j1] at H
       replace H := GN H
       obtain ⟨c42, H⟩ := H
       replace c42 := Bool.eq_false_iff.mpr c42
       subst c42
       replace H := BN H; obtain ⟨⟨t1475, t1476, t1477, t1480, t1483, t1486, t1487⟩, A45, H⟩ := H
       replace H := BN H; obtain ⟨⟨t1489, t1490, t1491, t1494, t1497, t1500, t1501⟩, A54, H⟩ := H
       obtain ⟨hcz43_0, hcz43_1, hcz43_2, hcz43_3, hcz43_4, hfz43_0, hfz43_1, hfz43_2, hfz43_3, hfz43_4⟩ := bk5 (HM.bx 7 rfl)
       obtain ⟨hcz44_0, hcz44_1, hcz44_2, hfz44_0, hfz44_1, hfz44_2⟩ := bk3 (HM.bx 8 rfl)
       go_upto_if 103 with (first | ((with_reducible refine gate_callee (f := 28) rfl ?_); refine pC (some 74) rfl #[.agg #[.int .i64 x1451000_1, .int .i64 x1451001_1, .slice Xo22 x1451002_1.length ko22, .slice Xo23 x1451003_1.length ko23, .slice Xo24 x1451004_1.length ko24], .string ((rd_T38 t1451 x25_1).f1)] rfl Try.func28 (impl_Get.calls kj33 x1451000_1 x1451001_1 _ _ x1451002_1 _ _ x1451003_1 _ _ x1451004_1 ((rd_T38 t1451 x25_1).f1) t1475 t1476 t1477 t1480 t1483 t1486 t1487 _ (HM.CR 1 rfl).2.2 (HM.CR 1 rfl).2.1 (HM.CR 2 rfl).2.2 (HM.CR 2 rfl).2.1 (HM.C 3 rfl).2.2 (HM.C 3 rfl).2.1 A45.out) ?_; rintro e w46 ⟨v1478, v1481, v1484, rfl, hR⟩; refine ⟨_, rfl, ?_⟩; replace HM := HM.call hR; clear hR) | ((with_reducible refine gate_dst (N := 11) rfl ?_); refine pB 11 32 [.int .i64 0, .int .i64 0, .slice none 0 0, .slice none 0 0, .slice none 0 0] HM rfl ?_; clear HM; intro gb1488 w47 HM; obtain ⟨Xo48, ko48, eo48⟩ := HM.rdR 11 rfl; subst eo48; obtain ⟨Xo49, ko49, eo49⟩ := HM.rdR 12 rfl; subst eo49; obtain ⟨Xo50, ko50, eo50⟩ := HM.rdR 13 rfl; subst eo50) | ((with_reducible refine gate_st (p := 11) rfl ?_); refine pS 14 11 0 [.int .i64 t1475, .int .i64 t1476, .slice Xo48 t1477.length ko48, .slice Xo49 t1480.length ko49, .slice Xo50 t1483.length ko50] HM rfl rfl ?_; clear HM; intro w51 HM; obtain ⟨hcz52_0, hcz52_1, hcz52_2, hcz52_3, hcz52_4, hfz52_0, hfz52_1, hfz52_2, hfz52_3, hfz52_4⟩ := bk5 (HM.bx 9 rfl); obtain ⟨hcz53_0, hcz53_1, hcz53_2, hfz53_0, hfz53_1, hfz53_2⟩ := bk3 (HM.bx 8 rfl)) | ((with_reducible refine gate_callee (f := 28) rfl ?_); refine pC (some 82) rfl #[.agg #[.int .i64 t1457, .int .i64 t1458, .slice Xo27 t1459.length ko27, .slice Xo28 t1462.length ko28, .slice Xo29 t1465.length ko29], .string ((rd_T38 t1451 x25_1).f1)] rfl Try.func28 (impl_Get.calls kj33 t1457 t1458 _ _ t1459 _ _ t1462 _ _ t1465 ((rd_T38 t1451 x25_1).f1) t1489 t1490 t1491 t1494 t1497 t1500 t1501 _ (HM.CR 4 rfl).2.2 (HM.CR 4 rfl).2.1 (HM.CR 5 rfl).2.2 (HM.CR 5 rfl).2.1 (HM.CR 6 rfl).2.2 (HM.CR 6 rfl).2.1 A54.out) ?_; rintro e w55 ⟨v1492, v1495, v1498, rfl, hR⟩; refine ⟨_, rfl, ?_⟩; replace HM := HM.call hR; clear hR) | ((with_reducible refine gate_dst (N := 14) rfl ?_); refine pB 14 32 [.int .i64 0, .int .i64 0, .slice none 0 0, .slice none 0 0, .slice none 0 0] HM rfl ?_; clear HM; intro gb1502 w56 HM; obtain ⟨Xo57, ko57, eo57⟩ := HM.rdR 15 rfl; subst eo57; obtain ⟨Xo58, ko58, eo58⟩ := HM.rdR 16 rfl; subst eo58; obtain ⟨Xo59, ko59, eo59⟩ := HM.rdR 17 rfl; subst eo59) | ((with_reducible refine gate_st (p := 14) rfl ?_); refine pS 18 14 0 [.int .i64 t1489, .int .i64 t1490, .slice Xo57 t1491.length ko57, .slice Xo58 t1494.length ko58, .slice Xo59 t1497.length ko59] HM rfl rfl ?_; clear HM; intro w60 HM; obtain ⟨hcz61_0, hcz61_1, hcz61_2, hfz61_0, hfz61_1, hfz61_2⟩ := bk3 (HM.bx 8 rfl)))
       replace HM := nzM HM
       replace H := IT H; rcases H with ⟨c62, H⟩ | ⟨c62, H⟩
       ·have c62b0 : (((rd_T38 t1451 x25_1).f0) == 2) = true := beq_iff_eq.mpr c62
        have c62b1 : (((rd_T38 t1451 x25_1).f0) != 2) = false := bne_eq_false_iff_eq.mpr c62
        clear c62
        (first | rw [c62b0] | (simp only [i64_w, i32_w]; rw [c62b0]) | skip)
        replace H := GD H
        obtain ⟨c63, H⟩ := H
        subst c63
        replace H := IB H
        rcases H with ⟨c65, H⟩ | ⟨c65, H⟩
        ·subst c65
         replace H := GN H; obtain ⟨c66, H⟩ := H
         have c66b0 : ((t1470.toList != ([] : List UInt8)) != false) = false := by simpa using c66
         (try (have c66b1 : decide ((t1470.toList != ([] : List UInt8)) = false) = true := by simpa using c66))
         (try (have c66b2 : ((t1470.toList != ([] : List UInt8)) == false) = true := by simpa using c66))
         have c66b8 := c66
         try simp at c66b8
         clear c66
         replace H := BN H; obtain ⟨t1503, A67, H⟩ := H
         replace H := GD H; obtain ⟨c69, H⟩ := H
         have c69b0 : ((wrap64 ((t1459.length : Int) + (t1462.length : Int))) == (wrap64 ((wrap64 ((x1451002_1.length : Int) + (x1451003_1.length : Int))) + t1503))) = true := beq_iff_eq.mpr c69
         have c69b1 : ((wrap64 ((t1459.length : Int) + (t1462.length : Int))) != (wrap64 ((wrap64 ((x1451002_1.length : Int) + (x1451003_1.length : Int))) + t1503))) = false := bne_eq_false_iff_eq.mpr c69
         clear c69
         have H' := Aside0.mk H
         clear H
         obtain ⟨hcz64_0, hcz64_1, hcz64_2, hfz64_0, hfz64_1, hfz64_2⟩ := bk3 (HM.bx 10 rfl)
         go_wp2_with (first | ((with_reducible refine gate_callee (f := 29) rfl ?_); refine pC (some 132) rfl #[.bool false] rfl Try.func29 (laws_less.calls false t1503 _ A67.out) ?_; rintro e w68 ⟨rfl, hd⟩; refine ⟨_, rfl, ?_⟩; replace HM := HM.drawn hd; clear hd; obtain ⟨hcz70_0, hcz70_1, hcz70_2, hcz70_3, hcz70_4, hfz70_0, hfz70_1, hfz70_2, hfz70_3, hfz70_4⟩ := bk5 (HM.bx 9 rfl)) | ((with_reducible refine gate_st (p := 3) rfl ?_); refine pS 7 3 0 [.int .i64 t1457, .int .i64 t1458, .slice Xo27 t1459.length ko27, .slice Xo28 t1462.length ko28, .slice Xo29 t1465.length ko29] HM rfl rfl ?_; clear HM; intro w71 HM; replace HM := HM.toQ 6 rfl))
         go_roundg kj33
         case measure => have := HK1.out; have := HJ33.out; omega
         case rel => exact ⟨(wrap64 (x25_1 + 1)), (t1457), (t1458), (t1459), (t1462), (t1465), (.slice Xo27 t1459.length ko27), (.slice Xo28 t1462.length ko28), (.slice Xo29 t1465.length ko29), RS, H', ⟨by have := HK1.out; have := HJ33.out; omega⟩, (MD HM).pick [0, 4, 5, 6, 7]⟩
        ·subst c65
         replace H := GN H; obtain ⟨c73, H⟩ := H
         have c73b0 : ((t1470.toList != ([] : List UInt8)) != ((wrap64 ((x1451002_1.length : Int) + (x1451003_1.length : Int))) == x1451000_1)) = false := by simpa using c73
         (try (have c73b1 : decide ((t1470.toList != ([] : List UInt8)) = ((wrap64 ((x1451002_1.length : Int) + (x1451003_1.length : Int))) == x1451000_1)) = true := by simpa using c73))
         (try (have c73b2 : ((t1470.toList != ([] : List UInt8)) == ((wrap64 ((x1451002_1.length : Int) + (x1451003_1.length : Int))) == x1451000_1)) = true := by simpa using c73))
         have c73b8 := c73
         try simp at c73b8
         have c73b7 : t1470.toList.isEmpty = !(((wrap64 ((x1451002_1.length : Int) + (x1451003_1.length : Int))) == x1451000_1)) := by have h_ := c73; revert h_; generalize (((wrap64 ((x1451002_1.length : Int) + (x1451003_1.length : Int))) == x1451000_1)) = b_; generalize t1470.toList = y_; cases y_ <;> cases b_ <;> simp
         clear c73
         replace H := BN H; obtain ⟨t1504, A74, H⟩ := H
         replace H := GD H; obtain ⟨c76, H⟩ := H
         have c76b0 : ((wrap64 ((t1459.length : Int) + (t1462.length : Int))) == (wrap64 ((wrap64 ((x1451002_1.length : Int) + (x1451003_1.length : Int))) + t1504))) = true := beq_iff_eq.mpr c76
         have c76b1 : ((wrap64 ((t1459.length : Int) + (t1462.length : Int))) != (wrap64 ((wrap64 ((x1451002_1.length : Int) + (x1451003_1.length : Int))) + t1504))) = false := bne_eq_false_iff_eq.mpr c76
         clear c76
         have H' := Aside0.mk H
         clear H
         obtain ⟨hcz64_0, hcz64_1, hcz64_2, hfz64_0, hfz64_1, hfz64_2⟩ := bk3 (HM.bx 10 rfl)
         obtain ⟨hcz72_0, hcz72_1, hcz72_2, hcz72_3, hcz72_4, hfz72_0, hfz72_1, hfz72_2, hfz72_3, hfz72_4⟩ := bk5 (HM.bx 7 rfl)
         go_wp2_with (first | ((with_reducible refine gate_callee (f := 29) rfl ?_); refine pC (some 132) rfl #[.bool (decide ((wrap64 ((x1451002_1.length : Int) + (x1451003_1.length : Int))) < x1451000_1))] rfl Try.func29 (laws_less.calls (decide ((wrap64 ((x1451002_1.length : Int) + (x1451003_1.length : Int))) < x1451000_1)) t1504 _ A74.out) ?_; rintro e w75 ⟨rfl, hd⟩; refine ⟨_, rfl, ?_⟩; replace HM := HM.drawn hd; clear hd; obtain ⟨hcz77_0, hcz77_1, hcz77_2, hcz77_3, hcz77_4, hfz77_0, hfz77_1, hfz77_2, hfz77_3, hfz77_4⟩ := bk5 (HM.bx 9 rfl)) | ((with_reducible refine gate_st (p := 3) rfl ?_); refine pS 7 3 0 [.int .i64 t1457, .int .i64 t1458, .slice Xo27 t1459.length ko27, .slice Xo28 t1462.length ko28, .slice Xo29 t1465.length ko29] HM rfl rfl ?_; clear HM; intro w78 HM; replace HM := HM.toQ 6 rfl))
         go_roundg kj33
         case measure => have := HK1.out; have := HJ33.out; omega
         case rel => exact ⟨(wrap64 (x25_1 + 1)), (t1457), (t1458), (t1459), (t1462), (t1465), (.slice Xo27 t1459.length ko27), (.slice Xo28 t1462.length ko28), (.slice Xo29 t1465.length ko29), RS, H', ⟨by have := HK1.out; have := HJ33.out; omega⟩, (MD HM).pick [0, 4, 5, 6, 7]⟩
       ·have c62b0 : (((rd_T38 t1451 x25_1).f0) == 2) = false := beq_eq_false_iff_ne.mpr c62
        have c62b1 : (((rd_T38 t1451 x25_1).f0) != 2) = true := bne_iff_ne.mpr c62
        (first | rw [c62b0] | (simp only [i64_w, i32_w]; rw [c62b0]) | skip)
        go_upto_if 136 with (fail)
        replace H := IT H; rcases H with ⟨c79, H⟩ | ⟨c79, H⟩
        ·have c79b0 : (((rd_T38 t1451 x25_1).f0) == 1) = true := beq_iff_eq.mpr c79
         have c79b1 : (((rd_T38 t1451 x25_1).f0) != 1) = false := bne_eq_false_iff_eq.mpr c79
         clear c79
         (first | rw [c79b0] | (simp only [i64_w, i32_w]; rw [c79b0]) | skip)
         replace H := GN H; obtain ⟨c81, H⟩ := H
         have c81b0 : (t1468 != t1487) = false := by simpa using c81
         (try (have c81b1 : decide (t1468 = t1487) = true := by simpa using c81))
         (try (have c81b2 : (t1468 == t1487) = true := by simpa using c81))
         have c81b8 := c81
         try simp at c81b8
         clear c81
         replace H := GN H; obtain ⟨c82, H⟩ := H
         have c82b0 : (t1501 != t1487) = false := by simpa using c82
         (try (have c82b1 : decide (t1501 = t1487) = true := by simpa using c82))
         (try (have c82b2 : (t1501 == t1487) = true := by simpa using c82))
         have c82b8 := c82
         try simp at c82b8
         clear c82
         replace H := GD H; obtain ⟨c83, H⟩ := H
         have c83b0 : ((wrap64 ((t1459.length : Int) + (t1462.length : Int))) == (wrap64 ((x1451002_1.length : Int) + (x1451003_1.length : Int)))) = true := beq_iff_eq.mpr c83
         have c83b1 : ((wrap64 ((t1459.length : Int) + (t1462.length : Int))) != (wrap64 ((x1451002_1.length : Int) + (x1451003_1.length : Int)))) = false := bne_eq_false_iff_eq.mpr c83
         clear c83
         replace H := GD H; obtain ⟨c84, H⟩ := H
         have c84b0 : (t1470.toList == ([] : List UInt8)) = true := beq_iff_eq.mpr c84
         have c84b1 : (t1470.toList != ([] : List UInt8)) = false := bne_eq_false_iff_eq.mpr c84
         clear c84
         have H' := Aside0.mk H
         clear H
         obtain ⟨hcz80_0, hcz80_1, hcz80_2, hfz80_0, hfz80_1, hfz80_2⟩ := bk3 (HM.bx 10 rfl)
         obtain ⟨hcz85_0, hcz85_1, hcz85_2, hcz85_3, hcz85_4, hfz85_0, hfz85_1, hfz85_2, hfz85_3, hfz85_4⟩ := bk5 (HM.bx 9 rfl)
         go_wp2_with (first | ((with_reducible refine gate_st (p := 3) rfl ?_); refine pS 7 3 0 [.int .i64 t1457, .int .i64 t1458, .slice Xo27 t1459.length ko27, .slice Xo28 t1462.length ko28, .slice Xo29 t1465.length ko29] HM rfl rfl ?_; clear HM; intro w86 HM; replace HM := HM.toQ 6 rfl))
         go_roundg kj33
         case measure => have := HK1.out; have := HJ33.out; omega
         case rel => exact ⟨(wrap64 (x25_1 + 1)), (t1457), (t1458), (t1459), (t1462), (t1465), (.slice Xo27 t1459.length ko27), (.slice Xo28 t1462.length ko28), (.slice Xo29 t1465.length ko29), RS, H', ⟨by have := HK1.out; have := HJ33.out; omega⟩, (MD HM).pick [0, 4, 5, 6, 7]⟩
        ·have c79b0 : (((rd_T38 t1451 x25_1).f0) == 1) = false := beq_eq_false_iff_ne.mpr c79
         have c79b1 : (((rd_T38 t1451 x25_1).f0) != 1) = true := bne_iff_ne.mpr c79
         (first | rw [c79b0] | (simp only [i64_w, i32_w]; rw [c79b0]) | skip)
         replace H := GN H; obtain ⟨c88, H⟩ := H
         have c88b0 : (t1468 != t1487) = false := by simpa using c88
         (try (have c88b1 : decide (t1468 = t1487) = true := by simpa using c88))
         (try (have c88b2 : (t1468 == t1487) = true := by simpa using c88))
         have c88b8 := c88
         try simp at c88b8
         clear c88
         replace H := GN H
         obtain ⟨c89, H⟩ := H
         replace c89 := Bool.eq_false_iff.mpr c89
         subst c89
         replace H := BN H; obtain ⟨t1505, A90, H⟩ := H
         replace H := GD H; obtain ⟨c92, H⟩ := H
         have c92b0 : ((wrap64 ((t1459.length : Int) + (t1462.length : Int))) == (wrap64 ((wrap64 ((x1451002_1.length : Int) + (x1451003_1.length : Int))) - t1505))) = true := beq_iff_eq.mpr c92
         have c92b1 : ((wrap64 ((t1459.length : Int) + (t1462.length : Int))) != (wrap64 ((wrap64 ((x1451002_1.length : Int) + (x1451003_1.length : Int))) - t1505))) = false := bne_eq_false_iff_eq.mpr c92
         clear c92
         have H' := Aside0.mk H
         clear H
         obtain ⟨hcz87_0, hcz87_1, hcz87_2, hfz87_0, hfz87_1, hfz87_2⟩ := bk3 (HM.bx 10 rfl)
         go_wp2_with (first | ((with_reducible refine gate_callee (f := 29) rfl ?_); refine pC (some 99) rfl #[.bool t1487] rfl Try.func29 (laws_less.calls t1487 t1505 _ A90.out) ?_; rintro e w91 ⟨rfl, hd⟩; refine ⟨_, rfl, ?_⟩; replace HM := HM.drawn hd; clear hd; obtain ⟨hcz93_0, hcz93_1, hcz93_2, hcz93_3, hcz93_4, hfz93_0, hfz93_1, hfz93_2, hfz93_3, hfz93_4⟩ := bk5 (HM.bx 9 rfl)) | ((with_reducible refine gate_st (p := 3) rfl ?_); refine pS 7 3 0 [.int .i64 t1457, .int .i64 t1458, .slice Xo27 t1459.length ko27, .slice Xo28 t1462.length ko28, .slice Xo29 t1465.length ko29] HM rfl rfl ?_; clear HM; intro w94 HM; replace HM := HM.toQ 6 rfl))
         go_roundg kj33
         case measure => have := HK1.out; have := HJ33.out; omega
         case rel => exact ⟨(wrap64 (x25_1 + 1)), (t1457), (t1458), (t1459), (t1462), (t1465), (.slice Xo27 t1459.length ko27), (.slice Xo28 t1462.length ko28), (.slice Xo29 t1465.length ko29), RS, H', ⟨by have := HK1.out; have := HJ33.out; omega⟩, (MD HM).pick [0, 4, 5, 6, 7]⟩
    ·have c13b0 : decide (x25_1 < (t1451.length : Int)) = false := decide_eq_false c13
     clear c13
     (first | rw [c13b0] | (simp only [i64_w, i32_w]; rw [c13b0]) | skip)
     replace H := BN H; obtain ⟨t1454, A96, H⟩ := H
     obtain rfl := Option.some.inj H
     obtain ⟨hcz95_0, hcz95_1, hcz95_2, hcz95_3, hcz95_4, hfz95_0, hfz95_1, hfz95_2, hfz95_3, hfz95_4⟩ := bk5 (HM.bx 4 rfl)
     obtain ⟨Xo98, ko98, eo98⟩ := HM.rdR 1 rfl
     subst eo98
     obtain ⟨Xo99, ko99, eo99⟩ := HM.rdR 2 rfl
     subst eo99
     obtain ⟨Xo100, ko100, eo100⟩ := HM.rd 3 rfl
     subst eo100
     go_wp2_with (first | ((with_reducible refine gate_callee (f := 27) rfl ?_); refine pC (some 160) rfl #[.agg #[.int .i64 x1451000_1, .int .i64 x1451001_1, .slice Xo98 x1451002_1.length ko98, .slice Xo99 x1451003_1.length ko99, .slice Xo100 x1451004_1.length ko100]] rfl Try.func27 (impl_ThreeOk.calls k1 x1451000_1 x1451001_1 _ _ x1451002_1 _ _ x1451003_1 _ _ x1451004_1 t1454 _ (HM.CR 1 rfl).2.2 (HM.CR 1 rfl).2.1 (HM.CR 2 rfl).2.2 (HM.CR 2 rfl).2.1 (HM.C 3 rfl).2.2 (HM.C 3 rfl).2.1 A96.out) ?_; rintro e w97 ⟨rfl, hR⟩; refine ⟨_, rfl, ?_⟩; replace HM := HM.call hR; clear hR))
     go_ret
     exact ⟨ER, HM.bel⟩
def spec_OpOk.f (k : Nat) (a0_0 : Int) (a0_1 : ByteArray) (a0_2 : ByteArray) : Option (Bool) := if a0_0 ≥ 1 then (if a0_0 ≤ 3 then ((spec_ItemOk.f k a0_1 a0_2 0).bind fun t140 => (if t140 = true then (if a0_0 = 2 then (some true) else (some (a0_2.toList == ([] : List UInt8)))) else (some false))) else (some false)) else (some false)
theorem spec_OpOk.mono : ∀ a0 a1 a2 k, LeO (spec_OpOk.f k a0 a1 a2) (spec_OpOk.f (k + 1) a0 a1 a2) := by
 intro a0 a1 a2 k
 unfold spec_OpOk.f
 repeat' first | (with_reducible first | exact spec_ItemOk.mono _ _ _ _ | exact LeO.refl _ | exact LeO.none _ | refine LeO.ite ?_ ?_ | refine LeO.bind ?_ (fun _ => ?_)) | exact spec_ItemOk.mono _ _ _ _ | exact LeO.none _ | refine LeO.ite ?_ ?_ | refine LeO.bind ?_ (fun _ => ?_)
set_option maxHeartbeats 8000000 in
set_option maxRecDepth 100000 in
theorem spec_OpOk.calls (k : Nat) (a0_0 : Int) (a0_1 : ByteArray) (a0_2 : ByteArray) (r : Bool) (w : World)  (h : spec_OpOk.f k a0_0 a0_1 a0_2 = some r) :
  Calls Try.prog 33 #[.agg #[.int .i64 a0_0, .string a0_1, .string a0_2]] w fun e w' => e = .returned (.bool r) ∧ Mem w [] w' [] := by
 have hu38 := Try.underlying38
 have hu95 := Try.underlying95
 have HM := Mem.nil w
 have H := h
 clear h
 unfold spec_OpOk.f at H
 go_enter Try.func33, Try.ntmps33
 replace H := IT H; rcases H with ⟨c4, H⟩ | ⟨c4, H⟩
 ·have c4b0 : decide (1 ≤ a0_0) = true := decide_eq_true c4
  clear c4
  replace H := IT H; rcases H with ⟨c5, H⟩ | ⟨c5, H⟩
  ·have c5b0 : decide (a0_0 ≤ 3) = true := decide_eq_true c5
   clear c5
   replace H := BN H; obtain ⟨t140, A6, H⟩ := H
   replace H := IB H
   rcases H with ⟨c8, H⟩ | ⟨c8, H⟩
   ·subst c8
    replace H := IT H; rcases H with ⟨c10, H⟩ | ⟨c10, H⟩
    ·have c10b0 : (a0_0 == 2) = true := beq_iff_eq.mpr c10
     have c10b1 : (a0_0 != 2) = false := bne_eq_false_iff_eq.mpr c10
     clear c10
     obtain rfl := Option.some.inj H
     go_wp2_with (first | ((with_reducible refine gate_dst (N := 1) rfl ?_); refine pB 1 38 [.int .i64 a0_0, .string a0_1, .string a0_2] HM rfl ?_; clear HM; intro gb139 w2 HM; obtain ⟨hcz3_0, hcz3_1, hcz3_2, hfz3_0, hfz3_1, hfz3_2⟩ := bk3 (HM.bx 0 rfl)) | ((with_reducible refine gate_callee (f := 65) rfl ?_); refine pC (some 17) rfl #[.agg #[.string a0_1, .string a0_2, .int .i64 0]] rfl Try.func65 (spec_ItemOk.calls k a0_1 a0_2 0 true _ A6.out) ?_; rintro e w7 ⟨rfl, hR⟩; refine ⟨_, rfl, ?_⟩; replace HM := HM.call hR; clear hR; obtain ⟨hcz9_0, hcz9_1, hcz9_2, hfz9_0, hfz9_1, hfz9_2⟩ := bk3 (HM.bx 0 rfl)))
     go_ret
     exact ⟨ER, (MD HM).pick []⟩
    ·have c10b0 : (a0_0 == 2) = false := beq_eq_false_iff_ne.mpr c10
     have c10b1 : (a0_0 != 2) = true := bne_iff_ne.mpr c10
     obtain rfl := Option.some.inj H
     go_wp2_with (first | ((with_reducible refine gate_dst (N := 1) rfl ?_); refine pB 1 38 [.int .i64 a0_0, .string a0_1, .string a0_2] HM rfl ?_; clear HM; intro gb139 w2 HM; obtain ⟨hcz3_0, hcz3_1, hcz3_2, hfz3_0, hfz3_1, hfz3_2⟩ := bk3 (HM.bx 0 rfl)) | ((with_reducible refine gate_callee (f := 65) rfl ?_); refine pC (some 17) rfl #[.agg #[.string a0_1, .string a0_2, .int .i64 0]] rfl Try.func65 (spec_ItemOk.calls k a0_1 a0_2 0 true _ A6.out) ?_; rintro e w7 ⟨rfl, hR⟩; refine ⟨_, rfl, ?_⟩; replace HM := HM.call hR; clear hR; obtain ⟨hcz9_0, hcz9_1, hcz9_2, hfz9_0, hfz9_1, hfz9_2⟩ := bk3 (HM.bx 0 rfl)))
     go_ret
     exact ⟨ER, (MD HM).pick []⟩
   ·subst c8
    obtain rfl := Option.some.inj H
    go_wp2_with (first | ((with_reducible refine gate_dst (N := 1) rfl ?_); refine pB 1 38 [.int .i64 a0_0, .string a0_1, .string a0_2] HM rfl ?_; clear HM; intro gb139 w2 HM; obtain ⟨hcz3_0, hcz3_1, hcz3_2, hfz3_0, hfz3_1, hfz3_2⟩ := bk3 (HM.bx 0 rfl)) | ((with_reducible refine gate_callee (f := 65) rfl ?_); refine pC (some 17) rfl #[.agg #[.string a0_1, .string a0_2, .int .i64 0]] rfl Try.func65 (spec_ItemOk.calls k a0_1 a0_2 0 false _ A6.out) ?_; rintro e w7 ⟨rfl, hR⟩; refine ⟨_, rfl, ?_⟩; replace HM := HM.call hR; clear hR))
    go_ret
    exact ⟨ER, (MD HM).pick []⟩
  ·have c5b0 : decide (a0_0 ≤ 3) = false := decide_eq_false c5
   clear c5
   obtain rfl := Option.some.inj H
   go_wp2_with (first | ((with_reducible refine gate_dst (N := 1) rfl ?_); refine pB 1 38 [.int .i64 a0_0, .string a0_1, .string a0_2] HM rfl ?_; clear HM; intro gb139 w2 HM; obtain ⟨hcz3_0, hcz3_1, hcz3_2, hfz3_0, hfz3_1, hfz3_2⟩ := bk3 (HM.bx 0 rfl)))
   go_ret
   exact ⟨ER, (MD HM).pick []⟩
 ·have c4b0 : decide (1 ≤ a0_0) = false := decide_eq_false c4
  clear c4
  obtain rfl := Option.some.inj H
  go_wp2_with (first | ((with_reducible refine gate_dst (N := 1) rfl ?_); refine pB 1 38 [.int .i64 a0_0, .string a0_1, .string a0_2] HM rfl ?_; clear HM; intro gb139 w2 HM; obtain ⟨hcz3_0, hcz3_1, hcz3_2, hfz3_0, hfz3_1, hfz3_2⟩ := bk3 (HM.bx 0 rfl)))
  go_ret
  exact ⟨ER, (MD HM).pick []⟩
mutual
def spec_OpDo.j0 : Nat → Bool → Int → Int → List (S95) → List (S95) → List Int → Int → ByteArray → ByteArray → Option (Int × Int × (List (S95)) × (List (S95)) × List Int × Bool × ByteArray × ByteArray × Bool)
 | 0, _, _, _, _, _, _, _, _, _ => none
 | k + 1, x25, x446000, x446001, x446002, x446003, x446004, x447000, x447001, x447002 => if x25 = true then (some (0, 0, ([] : List (S95)), ([] : List (S95)), ([] : List Int), false, (⟨#[]⟩ : ByteArray), (⟨#[]⟩ : ByteArray), false)) else (if x447000 = 1 then ((spec_Get.f k x446000 x446001 x446002 x446003 x446004 x447001).bind fun bt451 => (some (bt451.1, bt451.2.1, bt451.2.2.1, bt451.2.2.2.1, bt451.2.2.2.2.1, bt451.2.2.2.2.2.2, bt451.2.2.2.2.2.1, (⟨#[]⟩ : ByteArray), true))) else (if x447000 = 2 then ((spec_Put.f k x446000 x446001 x446002 x446003 x446004 x447001 x447002).bind fun bt465 => (spec_OpDo.l0 k bt465.2.2.2.2.2.1 (bt465.2.2.2.2.2.1.length : Int) 0 bt465.1 bt465.2.1 bt465.2.2.1 bt465.2.2.2.1 bt465.2.2.2.2.1 true (⟨#[]⟩ : ByteArray) (⟨#[]⟩ : ByteArray))) else ((spec_Drop.f k x446000 x446001 x446002 x446003 x446004 x447001).bind fun bt483 => (some (bt483.1, bt483.2.1, bt483.2.2.1, bt483.2.2.2.1, bt483.2.2.2.2.1, bt483.2.2.2.2.2, (⟨#[]⟩ : ByteArray), (⟨#[]⟩ : ByteArray), true)))))
def spec_OpDo.l0 : Nat → List ByteArray → Int → Int → Int → Int → List (S95) → List (S95) → List Int → Bool → ByteArray → ByteArray → Option (Int × Int × (List (S95)) × (List (S95)) × List Int × Bool × ByteArray × ByteArray × Bool)
 | 0, _, _, _, _, _, _, _, _, _, _, _ => none
 | k + 1, x57, x58, x59, x481000, x481001, x481002, x481003, x481004, x482000, x482001, x482002 => if x59 < x58 then (if 0 ≤ x59 then (if x59 < (x57.length : Int) then (spec_OpDo.l0 k x57 x58 (wrap64 (x59 + 1)) x481000 x481001 x481002 x481003 x481004 x482000 x482001 (rdOf ByteArray.empty x57 x59)) else (none)) else (none)) else (some (x481000, x481001, x481002, x481003, x481004, x482000, x482001, x482002, true))
end
def spec_OpDo.f (k : Nat) (a0_0 : Int) (a0_1 : Int) (l0_2 : List (S95)) (l0_3 : List (S95)) (l0_4 : List Int) (a1_0 : Int) (a1_1 : ByteArray) (a1_2 : ByteArray) : Option (Int × Int × (List (S95)) × (List (S95)) × List Int × Bool × ByteArray × ByteArray × Bool) := (spec_ThreeOk.f k a0_0 a0_1 l0_2 l0_3 l0_4).bind fun t449 => (if t449 = true then ((spec_OpOk.f k a1_0 a1_1 a1_2).bind fun t450 => (spec_OpDo.j0 k (!t450) a0_0 a0_1 l0_2 l0_3 l0_4 a1_0 a1_1 a1_2)) else (spec_OpDo.j0 k true a0_0 a0_1 l0_2 l0_3 l0_4 a1_0 a1_1 a1_2))
theorem spec_OpDo.mono_l : ∀ k, (∀ y0 y1 y2 y3 y4 y5 y6 y7 y8, LeO (spec_OpDo.j0 k y0 y1 y2 y3 y4 y5 y6 y7 y8) (spec_OpDo.j0 (k + 1) y0 y1 y2 y3 y4 y5 y6 y7 y8)) ∧ (∀ y0 y1 y2 y3 y4 y5 y6 y7 y8 y9 y10, LeO (spec_OpDo.l0 k y0 y1 y2 y3 y4 y5 y6 y7 y8 y9 y10) (spec_OpDo.l0 (k + 1) y0 y1 y2 y3 y4 y5 y6 y7 y8 y9 y10))
 | 0 => ⟨fun _ _ _ _ _ _ _ _ _ r h => by simp [spec_OpDo.j0] at h, fun _ _ _ _ _ _ _ _ _ _ _ r h => by simp [spec_OpDo.l0] at h⟩
 | k + 1 => by
  obtain ⟨ih0, ih1⟩ := spec_OpDo.mono_l k
  refine ⟨?_, ?_⟩
  ·intro y0 y1 y2 y3 y4 y5 y6 y7 y8
   unfold spec_OpDo.j0
   repeat' first | (with_reducible first | exact ih0 _ _ _ _ _ _ _ _ _ | exact ih1 _ _ _ _ _ _ _ _ _ _ _ | exact spec_Drop.mono _ _ _ _ _ _ _ | exact spec_Get.mono _ _ _ _ _ _ _ | exact spec_OpOk.mono _ _ _ _ | exact spec_Put.mono _ _ _ _ _ _ _ _ | exact spec_ThreeOk.mono _ _ _ _ _ _ | exact LeO.refl _ | exact LeO.none _ | refine LeO.ite ?_ ?_ | refine LeO.bind ?_ (fun _ => ?_)) | exact ih0 _ _ _ _ _ _ _ _ _ | exact ih1 _ _ _ _ _ _ _ _ _ _ _ | exact spec_Drop.mono _ _ _ _ _ _ _ | exact spec_Get.mono _ _ _ _ _ _ _ | exact spec_OpOk.mono _ _ _ _ | exact spec_Put.mono _ _ _ _ _ _ _ _ | exact spec_ThreeOk.mono _ _ _ _ _ _ | exact LeO.none _ | refine LeO.ite ?_ ?_ | refine LeO.bind ?_ (fun _ => ?_)
  ·intro y0 y1 y2 y3 y4 y5 y6 y7 y8 y9 y10
   unfold spec_OpDo.l0
   repeat' first | (with_reducible first | exact ih0 _ _ _ _ _ _ _ _ _ | exact ih1 _ _ _ _ _ _ _ _ _ _ _ | exact spec_Drop.mono _ _ _ _ _ _ _ | exact spec_Get.mono _ _ _ _ _ _ _ | exact spec_OpOk.mono _ _ _ _ | exact spec_Put.mono _ _ _ _ _ _ _ _ | exact spec_ThreeOk.mono _ _ _ _ _ _ | exact LeO.refl _ | exact LeO.none _ | refine LeO.ite ?_ ?_ | refine LeO.bind ?_ (fun _ => ?_)) | exact ih0 _ _ _ _ _ _ _ _ _ | exact ih1 _ _ _ _ _ _ _ _ _ _ _ | exact spec_Drop.mono _ _ _ _ _ _ _ | exact spec_Get.mono _ _ _ _ _ _ _ | exact spec_OpOk.mono _ _ _ _ | exact spec_Put.mono _ _ _ _ _ _ _ _ | exact spec_ThreeOk.mono _ _ _ _ _ _ | exact LeO.none _ | refine LeO.ite ?_ ?_ | refine LeO.bind ?_ (fun _ => ?_)
theorem spec_OpDo.mono : ∀ a0 a1 a2 a3 a4 a5 a6 a7 k, LeO (spec_OpDo.f k a0 a1 a2 a3 a4 a5 a6 a7) (spec_OpDo.f (k + 1) a0 a1 a2 a3 a4 a5 a6 a7) := by
 intro a0 a1 a2 a3 a4 a5 a6 a7 k
 obtain ⟨ih0, ih1⟩ := spec_OpDo.mono_l k
 unfold spec_OpDo.f
 repeat' first | (with_reducible first | exact ih0 _ _ _ _ _ _ _ _ _ | exact ih1 _ _ _ _ _ _ _ _ _ _ _ | exact spec_Drop.mono _ _ _ _ _ _ _ | exact spec_Get.mono _ _ _ _ _ _ _ | exact spec_OpOk.mono _ _ _ _ | exact spec_Put.mono _ _ _ _ _ _ _ _ | exact spec_ThreeOk.mono _ _ _ _ _ _ | exact LeO.refl _ | exact LeO.none _ | refine LeO.ite ?_ ?_ | refine LeO.bind ?_ (fun _ => ?_)) | exact ih0 _ _ _ _ _ _ _ _ _ | exact ih1 _ _ _ _ _ _ _ _ _ _ _ | exact spec_Drop.mono _ _ _ _ _ _ _ | exact spec_Get.mono _ _ _ _ _ _ _ | exact spec_OpOk.mono _ _ _ _ | exact spec_Put.mono _ _ _ _ _ _ _ _ | exact spec_ThreeOk.mono _ _ _ _ _ _ | exact LeO.none _ | refine LeO.ite ?_ ?_ | refine LeO.bind ?_ (fun _ => ?_)
def spec_OpDo.T15 : Bool × List (List Nat × List Nat) := (true, [([], []), ([], []), ([0, 0], [0]), ([1, 2, 0, 1, 2], [1]), ([3, 0, 1, 2, 3], [])])
def spec_OpDo.B15 : List Nat := [0, 0, 1, 7, 15]
theorem spec_OpDo.tab15 : rtab .any (opsOf Try.f8 15) = spec_OpDo.T15 := by kernel_rfl
theorem spec_OpDo.bits15 : waitsOk spec_OpDo.T15.2 spec_OpDo.B15 = true := by kernel_rfl
set_option maxHeartbeats 8000000 in
set_option maxRecDepth 100000 in
theorem spec_OpDo.calls (k : Nat) (a0_0 : Int) (a0_1 : Int) (A0_2 : Option Addr) (c0_2 : Nat) (l0_2 : List (S95)) (A0_3 : Option Addr) (c0_3 : Nat) (l0_3 : List (S95)) (A0_4 : Option Addr) (c0_4 : Nat) (l0_4 : List Int) (a1_0 : Int) (a1_1 : ByteArray) (a1_2 : ByteArray) (r1 : Int) (r2 : Int) (r3 : List (S95)) (r4 : List (S95)) (r5 : List Int) (r6 : Bool) (r7 : ByteArray) (r8 : ByteArray) (r9 : Bool) (w : World) (hr0_2 : Kd.C k95 w A0_2 l0_2.length l0_2) (hc0_2 : l0_2.length ≤ c0_2) (hr0_3 : Kd.C k95 w A0_3 l0_3.length l0_3) (hc0_3 : l0_3.length ≤ c0_3) (hr0_4 : Kd.C (Kd.int .i64) w A0_4 l0_4.length l0_4) (hc0_4 : l0_4.length ≤ c0_4) (h : spec_OpDo.f k a0_0 a0_1 l0_2 l0_3 l0_4 a1_0 a1_1 a1_2 = some (r1, r2, r3, r4, r5, r6, r7, r8, r9)) :
  Calls Try.prog 8 #[.agg #[.int .i64 a0_0, .int .i64 a0_1, .slice A0_2 l0_2.length c0_2, .slice A0_3 l0_3.length c0_3, .slice A0_4 l0_4.length c0_4], .agg #[.int .i64 a1_0, .string a1_1, .string a1_2]] w fun e w' => ∃ v2_ v3_ v4_ : Value, e = .returned (.tuple #[.agg #[.int .i64 r1, .int .i64 r2, v2_, v3_, v4_], .agg #[.bool r6, .string r7, .string r8], .bool r9]) ∧ Mem w [] w' [rowR k95 95 v2_ r3, rowR k95 95 v3_ r4, row (Kd.int .i64) 3 v4_ r5] := by
 have hu32 := Try.underlying32
 have hu38 := Try.underlying38
 have hu34 := Try.underlying34
 have HR0_2 := Aside0.mk hr0_2
 have HC0_2 := Aside0.mk hc0_2
 clear hr0_2 hc0_2
 have HR0_3 := Aside0.mk hr0_3
 have HC0_3 := Aside0.mk hc0_3
 clear hr0_3 hc0_3
 have HR0_4 := Aside0.mk hr0_4
 have HC0_4 := Aside0.mk hc0_4
 clear hr0_4 hc0_4
 have HM := Mem.nil w
 have H := h
 clear h
 unfold spec_OpDo.f at H
 go_enter Try.func8, Try.ntmps8
 have HC7 := Aside0.mk H
 clear H
 go_upto_region 1 with (first | ((with_reducible refine gate_dst (N := 2) rfl ?_); refine pB 2 32 [.int .i64 a0_0, .int .i64 a0_1, .slice A0_2 l0_2.length c0_2, .slice A0_3 l0_3.length c0_3, .slice A0_4 l0_4.length c0_4] HM rfl ?_; clear HM; intro gb445 w3 HM) | ((with_reducible refine gate_dst (N := 3) rfl ?_); refine pB 3 38 [.int .i64 a1_0, .string a1_1, .string a1_2] HM rfl ?_; clear HM; intro gb446 w4 HM) | ((with_reducible refine gate_dst (N := 4) rfl ?_); refine pB 4 32 [.int .i64 0, .int .i64 0, .slice none 0 0, .slice none 0 0, .slice none 0 0] HM rfl ?_; clear HM; intro gb447 w5 HM) | ((with_reducible refine gate_dst (N := 5) rfl ?_); refine pB 5 34 [.bool false, .string (⟨#[]⟩ : ByteArray), .string (⟨#[]⟩ : ByteArray)] HM rfl ?_; clear HM; intro gb448 w6 HM))
 replace HM := nzM HM
 go_cut [25] (fun v25 wc => ∃ (kq : Nat) (x25_6 : Bool), v25 = .bool x25_6 ∧ Aside0 (spec_OpDo.j0 kq x25_6 a0_0 a0_1 l0_2 l0_3 l0_4 a1_0 a1_1 a1_2 = some (r1, r2, r3, r4, r5, r6, r7, r8, r9)) ∧ Aside0 (kq ≤ k) ∧ Mem w [] wc [box 32 gb445 [.int .i64 a0_0, .int .i64 a0_1, .slice A0_2 l0_2.length c0_2, .slice A0_3 l0_3.length c0_3, .slice A0_4 l0_4.length c0_4], box 38 gb446 [.int .i64 a1_0, .string a1_1, .string a1_2], box 32 gb447 [.int .i64 0, .int .i64 0, .slice none 0 0, .slice none 0 0, .slice none 0 0], box 34 gb448 [.bool false, .string (⟨#[]⟩ : ByteArray), .string (⟨#[]⟩ : ByteArray)]])
 case first =>
  have H := HC7.out
  clear HC7
  replace H := BN H; obtain ⟨t449, A9, H⟩ := H
  replace H := IB H
  rcases H with ⟨c11, H⟩ | ⟨c11, H⟩
  ·subst c11
   replace H := BN H; obtain ⟨t450, A13, H⟩ := H
   have H' := Aside0.mk H
   clear H
   obtain ⟨hcz8_0, hcz8_1, hcz8_2, hcz8_3, hcz8_4, hfz8_0, hfz8_1, hfz8_2, hfz8_3, hfz8_4⟩ := bk5 (HM.bx 0 rfl)
   go_wp2_with (first | ((with_reducible refine gate_callee (f := 32) rfl ?_); refine pC (some 19) rfl #[.agg #[.int .i64 a0_0, .int .i64 a0_1, .slice A0_2 l0_2.length c0_2, .slice A0_3 l0_3.length c0_3, .slice A0_4 l0_4.length c0_4]] rfl Try.func32 (spec_ThreeOk.calls k a0_0 a0_1 _ _ l0_2 _ _ l0_3 _ _ l0_4 true _ (HM.came HR0_2.out) HC0_2.out (HM.came HR0_3.out) HC0_3.out (HM.came HR0_4.out) HC0_4.out A9.out) ?_; rintro e w10 ⟨rfl, hR⟩; refine ⟨_, rfl, ?_⟩; replace HM := HM.call hR; clear hR; obtain ⟨hcz12_0, hcz12_1, hcz12_2, hfz12_0, hfz12_1, hfz12_2⟩ := bk3 (HM.bx 1 rfl)) | ((with_reducible refine gate_callee (f := 33) rfl ?_); refine pC (some 23) rfl #[.agg #[.int .i64 a1_0, .string a1_1, .string a1_2]] rfl Try.func33 (spec_OpOk.calls k a1_0 a1_1 a1_2 t450 _ A13.out) ?_; rintro e w14 ⟨rfl, hR⟩; refine ⟨_, rfl, ?_⟩; replace HM := HM.call hR; clear hR))
   go_meet
   case rel => exact ⟨_, (!t450), RS, H', ⟨by first | omega | exact Nat.le_refl _⟩, (MD HM).pick [0, 1, 2, 3]⟩
  ·subst c11
   have H' := Aside0.mk H
   clear H
   obtain ⟨hcz8_0, hcz8_1, hcz8_2, hcz8_3, hcz8_4, hfz8_0, hfz8_1, hfz8_2, hfz8_3, hfz8_4⟩ := bk5 (HM.bx 0 rfl)
   go_wp2_with (first | ((with_reducible refine gate_callee (f := 32) rfl ?_); refine pC (some 19) rfl #[.agg #[.int .i64 a0_0, .int .i64 a0_1, .slice A0_2 l0_2.length c0_2, .slice A0_3 l0_3.length c0_3, .slice A0_4 l0_4.length c0_4]] rfl Try.func32 (spec_ThreeOk.calls k a0_0 a0_1 _ _ l0_2 _ _ l0_3 _ _ l0_4 false _ (HM.came HR0_2.out) HC0_2.out (HM.came HR0_3.out) HC0_3.out (HM.came HR0_4.out) HC0_4.out A9.out) ?_; rintro e w10 ⟨rfl, hR⟩; refine ⟨_, rfl, ?_⟩; replace HM := HM.call hR; clear hR))
   go_meet
   case rel => exact ⟨_, (true), RS, H', ⟨by first | omega | exact Nat.le_refl _⟩, (MD HM).pick [0, 1, 2, 3]⟩
 case rest =>
  clear HC7 HM
  obtain ⟨kq, x25_6, rfl, HA, HJ6, HM⟩ := hcut
  cases kq with
  | zero => exact absurd HA.out (by simp [spec_OpDo.j0])
  | succ kj6 =>
   have H := HA.out
   clear HA
   simp only [spec_OpDo.j0] at H
   go_upto_if 25 with (fail)
   replace H := IB H
   rcases H with ⟨c15, H⟩ | ⟨c15, H⟩
   ·subst c15
    simp only [Option.some.injEq, Prod.mk.injEq] at H
    obtain ⟨rfl, rfl, rfl, rfl, rfl, rfl, rfl, rfl, rfl⟩ := H
    go_wp2_with (first | ((with_reducible refine gate_st (p := 4) rfl ?_); refine pS 2 4 0 [.int .i64 0, .int .i64 0, .slice none 0 0, .slice none 0 0, .slice none 0 0] HM rfl rfl ?_; clear HM; intro w16 HM) | ((with_reducible refine gate_st (p := 5) rfl ?_); refine pS 3 5 0 [.bool false, .string (⟨#[]⟩ : ByteArray), .string (⟨#[]⟩ : ByteArray)] HM rfl rfl ?_; clear HM; intro w17 HM; replace HM := HM.nl k95 95; replace HM := HM.nl k95 95; replace HM := HM.nl (Kd.int .i64) 3; replace HM := HM.toQ 6 rfl))
    refine bodyPost_ret (results_list (rs := [.cell 4 32, .cell 5 34, .tmp 6]) rfl (by simp) (.cell gb447 32 #[.int .i64 0, .int .i64 0, .slice none 0 0, .slice none 0 0, .slice none 0 0] (0, 0) _ rfl (HM.bx 2 rfl) Try.underlying32 rfl (by kernel_rfl) (.cell gb448 34 #[.bool false, .string (⟨#[]⟩ : ByteArray), .string (⟨#[]⟩ : ByteArray)] (0, 0) _ rfl (HM.bx 3 rfl) Try.underlying34 rfl (by kernel_rfl) (.tmp .nil)))) rfl ?_
    exact ⟨_, _, _, ER, (MD HM).pick [4, 5, 6]⟩
   ·subst c15
    obtain ⟨hcz18_0, hcz18_1, hcz18_2, hfz18_0, hfz18_1, hfz18_2⟩ := bk3 (HM.bx 1 rfl)
    go_upto_if 30 with (fail)
    replace H := IT H; rcases H with ⟨c19, H⟩ | ⟨c19, H⟩
    ·have c19b0 : (a1_0 == 1) = true := beq_iff_eq.mpr c19
     have c19b1 : (a1_0 != 1) = false := bne_eq_false_iff_eq.mpr c19
     clear c19
     (first | rw [c19b0] | (simp only [i64_w, i32_w]; rw [c19b0]) | skip)
     replace H := BN H; obtain ⟨⟨t451, t452, t453, t456, t459, t462, t463⟩, A21, H⟩ := H
     simp only [Option.some.injEq, Prod.mk.injEq] at H
     obtain ⟨rfl, rfl, rfl, rfl, rfl, rfl, rfl, rfl, rfl⟩ := H
     obtain ⟨hcz20_0, hcz20_1, hcz20_2, hcz20_3, hcz20_4, hfz20_0, hfz20_1, hfz20_2, hfz20_3, hfz20_4⟩ := bk5 (HM.bx 0 rfl)
     go_wp2_with (first | ((with_reducible refine gate_callee (f := 34) rfl ?_); refine pC (some 36) rfl #[.agg #[.int .i64 a0_0, .int .i64 a0_1, .slice A0_2 l0_2.length c0_2, .slice A0_3 l0_3.length c0_3, .slice A0_4 l0_4.length c0_4], .string a1_1] rfl Try.func34 (spec_Get.calls kj6 a0_0 a0_1 _ _ l0_2 _ _ l0_3 _ _ l0_4 a1_1 t451 t452 t453 t456 t459 t462 t463 _ (HM.came HR0_2.out) HC0_2.out (HM.came HR0_3.out) HC0_3.out (HM.came HR0_4.out) HC0_4.out A21.out) ?_; rintro e w22 ⟨v454, v457, v460, rfl, hR⟩; refine ⟨_, rfl, ?_⟩; replace HM := HM.call hR; clear hR) | ((with_reducible refine gate_dst (N := 7) rfl ?_); refine pB 7 32 [.int .i64 0, .int .i64 0, .slice none 0 0, .slice none 0 0, .slice none 0 0] HM rfl ?_; clear HM; intro gb464 w23 HM; obtain ⟨Xo24, ko24, eo24⟩ := HM.rdR 4 rfl; subst eo24; obtain ⟨Xo25, ko25, eo25⟩ := HM.rdR 5 rfl; subst eo25; obtain ⟨Xo26, ko26, eo26⟩ := HM.rdR 6 rfl; subst eo26) | ((with_reducible refine gate_st (p := 7) rfl ?_); refine pS 7 7 0 [.int .i64 t451, .int .i64 t452, .slice Xo24 t453.length ko24, .slice Xo25 t456.length ko25, .slice Xo26 t459.length ko26] HM rfl rfl ?_; clear HM; intro w27 HM; obtain ⟨hcz28_0, hcz28_1, hcz28_2, hcz28_3, hcz28_4, hfz28_0, hfz28_1, hfz28_2, hfz28_3, hfz28_4⟩ := bk5 (HM.bx 7 rfl)) | ((with_reducible refine gate_st (p := 4) rfl ?_); refine pS 2 4 0 [.int .i64 t451, .int .i64 t452, .slice Xo24 t453.length ko24, .slice Xo25 t456.length ko25, .slice Xo26 t459.length ko26] HM rfl rfl ?_; clear HM; intro w29 HM) | ((with_reducible refine gate_st (p := 5) rfl ?_); refine pS 3 5 0 [.bool t463, .string t462, .string (⟨#[]⟩ : ByteArray)] HM rfl rfl ?_; clear HM; intro w30 HM; replace HM := HM.toQ 6 rfl))
     refine bodyPost_ret (results_list (rs := [.cell 4 32, .cell 5 34, .tmp 6]) rfl (by simp) (.cell gb447 32 #[.int .i64 t451, .int .i64 t452, .slice Xo24 t453.length ko24, .slice Xo25 t456.length ko25, .slice Xo26 t459.length ko26] (0, 0) _ rfl (HM.bx 2 rfl) Try.underlying32 rfl (by kernel_rfl) (.cell gb448 34 #[.bool t463, .string t462, .string (⟨#[]⟩ : ByteArray)] (0, 0) _ rfl (HM.bx 3 rfl) Try.underlying34 rfl (by kernel_rfl) (.tmp .nil)))) rfl ?_
     exact ⟨_, _, _, ER, (MD HM).pick [4, 5, 6]⟩
    ·have c19b0 : (a1_0 == 1) = false := beq_eq_false_iff_ne.mpr c19
     have c19b1 : (a1_0 != 1) = true := bne_iff_ne.mpr c19
     (first | rw [c19b0] | (simp only [i64_w, i32_w]; rw [c19b0]) | skip)
     go_upto_if 44 with (fail)
     replace H := IT H; rcases H with ⟨c31, H⟩ | ⟨c31, H⟩
     ·have c31b0 : (a1_0 == 2) = true := beq_iff_eq.mpr c31
      have c31b1 : (a1_0 != 2) = false := bne_eq_false_iff_eq.mpr c31
      clear c31
      (first | rw [c31b0] | (simp only [i64_w, i32_w]; rw [c31b0]) | skip)
      replace H := BN H; obtain ⟨⟨t465, t466, t467, t470, t473, t476, t479⟩, A33, H⟩ := H
      have H' := Aside0.mk H
      clear H
      obtain ⟨hcz32_0, hcz32_1, hcz32_2, hcz32_3, hcz32_4, hfz32_0, hfz32_1, hfz32_2, hfz32_3, hfz32_4⟩ := bk5 (HM.bx 0 rfl)
      go_wp2_with (first | ((with_reducible refine gate_callee (f := 35) rfl ?_); refine pC (some 52) rfl #[.agg #[.int .i64 a0_0, .int .i64 a0_1, .slice A0_2 l0_2.length c0_2, .slice A0_3 l0_3.length c0_3, .slice A0_4 l0_4.length c0_4], .string a1_1, .string a1_2] rfl Try.func35 (spec_Put.calls kj6 a0_0 a0_1 _ _ l0_2 _ _ l0_3 _ _ l0_4 a1_1 a1_2 t465 t466 t467 t470 t473 t476 t479 _ (HM.came HR0_2.out) HC0_2.out (HM.came HR0_3.out) HC0_3.out (HM.came HR0_4.out) HC0_4.out A33.out) ?_; rintro e w34 ⟨v468, v471, v474, v477, rfl, hR⟩; refine ⟨_, rfl, ?_⟩; replace HM := HM.call hR; clear hR) | ((with_reducible refine gate_dst (N := 10) rfl ?_); refine pB 10 32 [.int .i64 0, .int .i64 0, .slice none 0 0, .slice none 0 0, .slice none 0 0] HM rfl ?_; clear HM; intro gb480 w35 HM; obtain ⟨Xo36, ko36, eo36⟩ := HM.rdR 4 rfl; subst eo36; obtain ⟨Xo37, ko37, eo37⟩ := HM.rdR 5 rfl; subst eo37; obtain ⟨Xo38, ko38, eo38⟩ := HM.rd 6 rfl; subst eo38) | ((with_reducible refine gate_st (p := 10) rfl ?_); refine pS 8 10 0 [.int .i64 t465, .int .i64 t466, .slice Xo36 t467.length ko36, .slice Xo37 t470.length ko37, .slice Xo38 t473.length ko38] HM rfl rfl ?_; clear HM; intro w39 HM) | ((with_reducible refine gate_dst (N := 13) rfl ?_); refine pB 13 34 [.bool false, .string (⟨#[]⟩ : ByteArray), .string (⟨#[]⟩ : ByteArray)] HM rfl ?_; clear HM; intro gb481 w40 HM) | ((with_reducible refine gate_st (p := 13) rfl ?_); refine pS 9 13 0 [.bool true, .string (⟨#[]⟩ : ByteArray), .string (⟨#[]⟩ : ByteArray)] HM rfl rfl ?_; clear HM; intro w41 HM; obtain ⟨Xo42, ko42, eo42⟩ := HM.rdR 7 rfl; subst eo42))
      go_loopg [59] kj6 (fun kq v59 w' => ∃ (x59_2 : Int) (x482002_2 : ByteArray), v59 = .int .i64 x59_2 ∧ Aside0 (spec_OpDo.l0 kq t476 (t476.length : Int) x59_2 t465 t466 t467 t470 t473 true (⟨#[]⟩ : ByteArray) x482002_2 = some (r1, r2, r3, r4, r5, r6, r7, r8, r9)) ∧ Aside0 (kq ≤ kj6) ∧ Mem w [] w' [rowR Kd.string 9 (.slice Xo42 t476.length ko42) t476, rowR k95 95 (.slice Xo36 t467.length ko36) t467, rowR k95 95 (.slice Xo37 t470.length ko37) t470, row (Kd.int .i64) 3 (.slice Xo38 t473.length ko38) t473, box 32 gb445 [.int .i64 a0_0, .int .i64 a0_1, .slice A0_2 l0_2.length c0_2, .slice A0_3 l0_3.length c0_3, .slice A0_4 l0_4.length c0_4], box 38 gb446 [.int .i64 a1_0, .string a1_1, .string a1_2], box 32 gb447 [.int .i64 0, .int .i64 0, .slice none 0 0, .slice none 0 0, .slice none 0 0], box 34 gb448 [.bool false, .string (⟨#[]⟩ : ByteArray), .string (⟨#[]⟩ : ByteArray)], box 32 gb480 [.int .i64 t465, .int .i64 t466, (.slice Xo36 t467.length ko36), (.slice Xo37 t470.length ko37), (.slice Xo38 t473.length ko38)], box 34 gb481 [.bool true, .string (⟨#[]⟩ : ByteArray), .string x482002_2]])
      case atStart => exact ⟨(0), ((⟨#[]⟩ : ByteArray)), RS, H', ⟨Nat.le_refl _⟩, (MD HM).pick [7, 4, 5, 6, 0, 1, 2, 3, 8, 9]⟩
      case round =>
       clear H' HM
       obtain ⟨x59_2, x482002_2, rfl, HA, HK2, HM⟩ := hrel
       cases gk with
       | zero => exact absurd HA.out (by simp [spec_OpDo.l0])
       | succ k2 =>
        have H := HA.out
        clear HA
        simp only [spec_OpDo.l0] at H
        go_upto_if 60 with (fail)
        replace H := IT H; rcases H with ⟨c43, H⟩ | ⟨c43, H⟩
        ·have c43b0 : decide (x59_2 < (t476.length : Int)) = true := decide_eq_true c43
         clear c43
         (first | rw [c43b0] | (simp only [i64_w, i32_w]; rw [c43b0]) | skip)
         replace H := GD H; obtain ⟨c44, H⟩ := H
         have c44b0 : decide (0 ≤ x59_2) = true := decide_eq_true c44
         clear c44
         replace H := GD H; obtain ⟨c45, H⟩ := H
         have c45b0 : decide (x59_2 < (t476.length : Int)) = true := decide_eq_true c45
         clear c45
         have H' := Aside0.mk H
         clear H
         have p482 : 0 ≤ (x59_2 : Int) := of_decide_eq_true AS
         have q482 : (x59_2 : Int) < (t476.length : Int) := of_decide_eq_true AS
         obtain ⟨ad482, e482, hx482_0⟩ := Kd.at_string (HM.CR 0 rfl).2.2 x59_2 p482 q482
         cases e482
         replace p482 := eq_true p482
         replace q482 := eq_true q482
         go_wp2_with (first | ((with_reducible refine gate_st (p := 64) rfl ?_); refine pS 9 64 2 [.string (rdOf ByteArray.empty t476 x59_2)] HM rfl rfl ?_; clear HM; intro w46 HM))
         go_roundg k2
         case measure => have := HJ6.out; have := HK2.out; omega
         case rel => exact ⟨(wrap64 (x59_2 + 1)), (rdOf ByteArray.empty t476 x59_2), RS, H', ⟨by have := HJ6.out; have := HK2.out; omega⟩, (MD HM).pick [0, 1, 2, 3, 4, 5, 6, 7, 8, 9]⟩
        ·have c43b0 : decide (x59_2 < (t476.length : Int)) = false := decide_eq_false c43
         clear c43
         (first | rw [c43b0] | (simp only [i64_w, i32_w]; rw [c43b0]) | skip)
         try go_wp2
         refine RGN 5 [0, 1, 2, 3, 4] (fun a0 b a w' => a = putSel a0 b [(0, 66, .agg #[.int .i64 t465, .int .i64 t466, .slice Xo36 t467.length ko36, .slice Xo37 t470.length ko37, .slice Xo38 t473.length ko38]), (1, 67, .agg #[.bool true, .string (⟨#[]⟩ : ByteArray), .string x482002_2]), (4, 6, .bool true)] ∧ Mem w [] w' [rowR Kd.string 9 (.slice Xo42 t476.length ko42) t476, rowR k95 95 (.slice Xo36 t467.length ko36) t467, rowR k95 95 (.slice Xo37 t470.length ko37) t470, row (Kd.int .i64) 3 (.slice Xo38 t473.length ko38) t473, box 32 gb445 [.int .i64 a0_0, .int .i64 a0_1, .slice A0_2 l0_2.length c0_2, .slice A0_3 l0_3.length c0_3, .slice A0_4 l0_4.length c0_4], box 38 gb446 [.int .i64 a1_0, .string a1_1, .string a1_2], sel (b 2) (box 32 gb447 [.int .i64 t465, .int .i64 t466, .slice Xo36 t467.length ko36, .slice Xo37 t470.length ko37, .slice Xo38 t473.length ko38]) (box 32 gb447 [.int .i64 0, .int .i64 0, .slice none 0 0, .slice none 0 0, .slice none 0 0]), sel (b 3) (box 34 gb448 [.bool true, .string (⟨#[]⟩ : ByteArray), .string x482002_2]) (box 34 gb448 [.bool false, .string (⟨#[]⟩ : ByteArray), .string (⟨#[]⟩ : ByteArray)]), box 32 gb480 [.int .i64 t465, .int .i64 t466, .slice Xo36 t467.length ko36, .slice Xo37 t470.length ko37, .slice Xo38 t473.length ko38], box 34 gb481 [.bool true, .string (⟨#[]⟩ : ByteArray), .string x482002_2]]) spec_OpDo.tab15 spec_OpDo.bits15 ?_ ?_ ?_
         ·exact ⟨PS0' rfl _, (HM.drew).pick [0, 1, 2, 3, 4, 5, 6, 7, 8, 9]⟩
         ·clear HM
          refine steps_cons ?_ ?_
          ·rintro b a w ⟨ha, HM⟩ hb hon hoff
           refine ⟨_, rfl, fun K hK => ?_⟩
           obtain ⟨hcz51_0, hcz51_1, hcz51_2, hcz51_3, hcz51_4, hfz51_0, hfz51_1, hfz51_2, hfz51_3, hfz51_4⟩ := bk5 (HM.bx 8 rfl)
           have e10 := POF ha 10
           replace ha := Aside0.mk ha
           exact VL (.agg #[.int .i64 t465, .int .i64 t466, .slice Xo36 t467.length ko36, .slice Xo37 t470.length ko37, .slice Xo38 t473.length ko38]) (hK.out _ _ ⟨PUT ha 0 hb, HM⟩)
          refine steps_cons ?_ ?_
          ·rintro b a w ⟨ha, HM⟩ hb hon hoff
           refine ⟨_, rfl, fun K hK => ?_⟩
           obtain ⟨hcz52_0, hcz52_1, hcz52_2, hfz52_0, hfz52_1, hfz52_2⟩ := bk3 (HM.bx 9 rfl)
           have e13 := POF ha 13
           replace ha := Aside0.mk ha
           exact VL (.agg #[.bool true, .string (⟨#[]⟩ : ByteArray), .string x482002_2]) (hK.out _ _ ⟨PUT ha 1 hb, HM⟩)
          refine steps_cons ?_ ?_
          ·rintro b a w ⟨ha, HM⟩ hb hon hoff
           refine ⟨_, rfl, fun K hK => ?_⟩
           replace HM := HM.sF 6 rfl hb
           have e4 := POF ha 4
           have e66 := PON ha 0 (hon 0 (by kernel_rfl))
           replace ha := Aside0.mk ha
           refine ST (eS 6 4 0 [.int .i64 t465, .int .i64 t466, .slice Xo36 t467.length ko36, .slice Xo37 t470.length ko37, .slice Xo38 t473.length ko38] HM rfl rfl ?_ (hp := (eval_of e4)) (hx := (by rw [eval_of e66]; rfl)))
           clear HM
           intro w53 HM
           exact hK.out _ _ ⟨PUS ha, (HM).pick [0, 1, 2, 3, 4, 5, 6, 7, 8, 9]⟩
          refine steps_cons ?_ ?_
          ·rintro b a w ⟨ha, HM⟩ hb hon hoff
           refine ⟨_, rfl, fun K hK => ?_⟩
           replace HM := HM.sF 7 rfl hb
           have e5 := POF ha 5
           have e67 := PON ha 1 (hon 1 (by kernel_rfl))
           replace ha := Aside0.mk ha
           refine ST (eS 7 5 0 [.bool true, .string (⟨#[]⟩ : ByteArray), .string x482002_2] HM rfl rfl ?_ (hp := (eval_of e5)) (hx := (by rw [eval_of e67]; rfl)))
           clear HM
           intro w54 HM
           exact hK.out _ _ ⟨PUS ha, (HM).pick [0, 1, 2, 3, 4, 5, 6, 7, 8, 9]⟩
          refine steps_cons ?_ ?_
          ·rintro b a w ⟨ha, HM⟩ hb hon hoff
           refine ⟨_, rfl, fun K hK => ?_⟩
           replace ha := Aside0.mk ha
           exact VL (.bool true) (hK.out _ _ ⟨PUT ha 2 hb, HM⟩)
          exact steps_nil
         rintro _ w55 ⟨rfl, HM⟩
         replace HM := HM.sT 6 rfl rfl
         replace HM := HM.sT 7 rfl rfl
         simp only [putSel, if_true, Act.put, List.setIfInBounds_toArray, List.set_cons_zero, List.set_cons_succ, gt_iff_lt, ge_iff_le]
         simp only [Option.some.injEq, Prod.mk.injEq] at H
         obtain ⟨rfl, rfl, rfl, rfl, rfl, rfl, rfl, rfl, rfl⟩ := H
         go_wp2
         refine bodyPost_ret (results_list (rs := [.cell 4 32, .cell 5 34, .tmp 6]) rfl (by simp) (.cell gb447 32 #[.int .i64 t465, .int .i64 t466, .slice Xo36 t467.length ko36, .slice Xo37 t470.length ko37, .slice Xo38 t473.length ko38] (0, 0) _ rfl (HM.bx 6 rfl) Try.underlying32 rfl (by kernel_rfl) (.cell gb448 34 #[.bool true, .string (⟨#[]⟩ : ByteArray), .string x482002_2] (0, 0) _ rfl (HM.bx 7 rfl) Try.underlying34 rfl (by kernel_rfl) (.tmp .nil)))) rfl ?_
         exact ⟨_, _, _, ER, (MD HM).pick [1, 2, 3]⟩
     ·have c31b0 : (a1_0 == 2) = false := beq_eq_false_iff_ne.mpr c31
      have c31b1 : (a1_0 != 2) = true := bne_iff_ne.mpr c31
      (first | rw [c31b0] | (simp only [i64_w, i32_w]; rw [c31b0]) | skip)
      replace H := BN H; obtain ⟨⟨t483, t484, t485, t488, t491, t494⟩, A57, H⟩ := H
      simp only [Option.some.injEq, Prod.mk.injEq] at H
      obtain ⟨rfl, rfl, rfl, rfl, rfl, rfl, rfl, rfl, rfl⟩ := H
      obtain ⟨hcz56_0, hcz56_1, hcz56_2, hcz56_3, hcz56_4, hfz56_0, hfz56_1, hfz56_2, hfz56_3, hfz56_4⟩ := bk5 (HM.bx 0 rfl)
      go_wp2_with (first | ((with_reducible refine gate_callee (f := 36) rfl ?_); refine pC (some 72) rfl #[.agg #[.int .i64 a0_0, .int .i64 a0_1, .slice A0_2 l0_2.length c0_2, .slice A0_3 l0_3.length c0_3, .slice A0_4 l0_4.length c0_4], .string a1_1] rfl Try.func36 (spec_Drop.calls kj6 a0_0 a0_1 _ _ l0_2 _ _ l0_3 _ _ l0_4 a1_1 t483 t484 t485 t488 t491 t494 _ (HM.came HR0_2.out) HC0_2.out (HM.came HR0_3.out) HC0_3.out (HM.came HR0_4.out) HC0_4.out A57.out) ?_; rintro e w58 ⟨v486, v489, v492, rfl, hR⟩; refine ⟨_, rfl, ?_⟩; replace HM := HM.call hR; clear hR) | ((with_reducible refine gate_dst (N := 16) rfl ?_); refine pB 16 32 [.int .i64 0, .int .i64 0, .slice none 0 0, .slice none 0 0, .slice none 0 0] HM rfl ?_; clear HM; intro gb495 w59 HM; obtain ⟨Xo60, ko60, eo60⟩ := HM.rdR 4 rfl; subst eo60; obtain ⟨Xo61, ko61, eo61⟩ := HM.rdR 5 rfl; subst eo61; obtain ⟨Xo62, ko62, eo62⟩ := HM.rdR 6 rfl; subst eo62) | ((with_reducible refine gate_st (p := 16) rfl ?_); refine pS 7 16 0 [.int .i64 t483, .int .i64 t484, .slice Xo60 t485.length ko60, .slice Xo61 t488.length ko61, .slice Xo62 t491.length ko62] HM rfl rfl ?_; clear HM; intro w63 HM; obtain ⟨hcz64_0, hcz64_1, hcz64_2, hcz64_3, hcz64_4, hfz64_0, hfz64_1, hfz64_2, hfz64_3, hfz64_4⟩ := bk5 (HM.bx 7 rfl)) | ((with_reducible refine gate_st (p := 4) rfl ?_); refine pS 2 4 0 [.int .i64 t483, .int .i64 t484, .slice Xo60 t485.length ko60, .slice Xo61 t488.length ko61, .slice Xo62 t491.length ko62] HM rfl rfl ?_; clear HM; intro w65 HM) | ((with_reducible refine gate_st (p := 5) rfl ?_); refine pS 3 5 0 [.bool t494, .string (⟨#[]⟩ : ByteArray), .string (⟨#[]⟩ : ByteArray)] HM rfl rfl ?_; clear HM; intro w66 HM; replace HM := HM.toQ 6 rfl))
      refine bodyPost_ret (results_list (rs := [.cell 4 32, .cell 5 34, .tmp 6]) rfl (by simp) (.cell gb447 32 #[.int .i64 t483, .int .i64 t484, .slice Xo60 t485.length ko60, .slice Xo61 t488.length ko61, .slice Xo62 t491.length ko62] (0, 0) _ rfl (HM.bx 2 rfl) Try.underlying32 rfl (by kernel_rfl) (.cell gb448 34 #[.bool t494, .string (⟨#[]⟩ : ByteArray), .string (⟨#[]⟩ : ByteArray)] (0, 0) _ rfl (HM.bx 3 rfl) Try.underlying34 rfl (by kernel_rfl) (.tmp .nil)))) rfl ?_
      exact ⟨_, _, _, ER, (MD HM).pick [4, 5, 6]⟩
end Go.Proofs.Ytdeijmofaapgdaa.G
