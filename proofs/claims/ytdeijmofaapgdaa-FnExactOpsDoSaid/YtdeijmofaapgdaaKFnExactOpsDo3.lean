/- Part 3 of the claim FnExactOpsDo, merged by pack.py (this session's program) out of: the print's words, cut to what is needed; texts that gen.py printed (it runs the kit's print in place); texts of this session. -/
import Derived.RegionTactic
import Derived.Shelf.RegionOpenPlain
import Derived.Test.YtdeijmofaapgdaaKFnExactOpsDo0
import Derived.Test.YtdeijmofaapgdaaKFnExactOpsDo1
import Derived.Test.YtdeijmofaapgdaaKFnExactOpsDo2
namespace Go.Proofs.Ytdeijmofaapgdaa.Man
end Go.Proofs.Ytdeijmofaapgdaa.Man
namespace Go.Proofs.Ytdeijmofaapgdaa.Mm
end Go.Proofs.Ytdeijmofaapgdaa.Mm
namespace Go.Proofs.Ytdeijmofaapgdaa.Sh
end Go.Proofs.Ytdeijmofaapgdaa.Sh
namespace Go.Proofs.Ytdeijmofaapgdaa.G
open Go.RowKit Go.Proofs.YtdeijmofaapgdaaW.PrintWords Go.Proofs.YtdeijmofaapgdaaW.PrintLast Go.Proofs.YtdeijmofaapgdaaW.PrintMore Go.Proofs.Ytdeijmofaapgdaa.Sh
attribute [local go_sem] max2_int min2_int max_two min_two max_three min_three max_four min_four
set_option linter.unusedVariables false
set_option linter.unusedSimpArgs false
open Go.Proofs.Ytdeijmofaapgdaa.Mm
mutual
def spec_Put.j0 : Nat → ByteArray → ByteArray → Bool → Int → Int → List (S95) → List (S95) → List Int → Option (Int × Int × (List (S95)) × (List (S95)) × List Int × List ByteArray × Bool)
 | 0, _, _, _, _, _, _, _, _ => none
 | k + 1, x1, x2, x26, x347000, x347001, x347002, x347003, x347004 => if x26 = true then (some (0, 0, ([] : List (S95)), ([] : List (S95)), ([] : List Int), ([] : List ByteArray), false)) else ((spec_l10Copy.f x347000 x347001 x347002 x347003 x347004).bind fun bt350 => ((spec_l10Touch.f k bt350.1 bt350.2.1 bt350.2.2.1 bt350.2.2.2.1 bt350.2.2.2.2 x1 true x2).bind fun bt361 => (if bt361.2.2.2.2.2.2 = true then (some (bt361.1, bt361.2.1, bt361.2.2.1, bt361.2.2.2.1, bt361.2.2.2.2.1, ([] : List ByteArray), true)) else (spec_Put.l0 k x1 x2 (([] : List ByteArray)) bt361.1 bt361.2.1 bt361.2.2.1 bt361.2.2.2.1 bt361.2.2.2.2.1))))
def spec_Put.l0 : Nat → ByteArray → ByteArray → List ByteArray → Int → Int → List (S95) → List (S95) → List Int → Option (Int × Int × (List (S95)) × (List (S95)) × List Int × List ByteArray × Bool)
 | 0, _, _, _, _, _, _, _, _ => none
 | k + 1, x1, x2, x12, x375000, x375001, x375002, x375003, x375004 => if (wrap64 ((x375002.length : Int) + (x375003.length : Int))) ≥ x375000 then ((spec_Evict.f k x375000 x375001 x375002 x375003 x375004).bind fun bt378 => (if x12.length < 8796093022208 then (spec_Put.l0 k x1 x2 (x12 ++ [bt378.2.2.2.2.2.1]) bt378.1 bt378.2.1 bt378.2.2.1 bt378.2.2.2.1 bt378.2.2.2.2.1) else (none))) else ((spec_Hash.f k x1).bind fun t396 => ((spec_l03Has.f k x375004 t396).bind fun t397 => (if t397 = true then ((spec_Hash.f k x1).bind fun t398 => ((spec_l08But.f k x375004 t398).bind fun t399 => (if x375003.length < 3518437208883 then (some (x375000, x375001, x375002, (x375003 ++ [(⟨x1, x2, 0⟩ : S95)]), t399, x12, true)) else (none)))) else (if x375002.length < 3518437208883 then (some (x375000, x375001, (x375002 ++ [(⟨x1, x2, 0⟩ : S95)]), x375003, x375004, x12, true)) else (none)))))
end
def spec_Put.f (k : Nat) (a0_0 : Int) (a0_1 : Int) (l0_2 : List (S95)) (l0_3 : List (S95)) (l0_4 : List Int) (a1 : ByteArray) (a2 : ByteArray) : Option (Int × Int × (List (S95)) × (List (S95)) × List Int × List ByteArray × Bool) := (spec_ThreeOk.f k a0_0 a0_1 l0_2 l0_3 l0_4).bind fun t348 => (if t348 = true then ((spec_ItemOk.f k a1 a2 0).bind fun t349 => (spec_Put.j0 k a1 a2 (!t349) a0_0 a0_1 l0_2 l0_3 l0_4)) else (spec_Put.j0 k a1 a2 true a0_0 a0_1 l0_2 l0_3 l0_4))
theorem spec_Put.mono_l : ∀ k, (∀ y0 y1 y2 y3 y4 y5 y6 y7, LeO (spec_Put.j0 k y0 y1 y2 y3 y4 y5 y6 y7) (spec_Put.j0 (k + 1) y0 y1 y2 y3 y4 y5 y6 y7)) ∧ (∀ y0 y1 y2 y3 y4 y5 y6 y7, LeO (spec_Put.l0 k y0 y1 y2 y3 y4 y5 y6 y7) (spec_Put.l0 (k + 1) y0 y1 y2 y3 y4 y5 y6 y7))
 | 0 => ⟨fun _ _ _ _ _ _ _ _ r h => by simp [spec_Put.j0] at h, fun _ _ _ _ _ _ _ _ r h => by simp [spec_Put.l0] at h⟩
 | k + 1 => by
  obtain ⟨ih0, ih1⟩ := spec_Put.mono_l k
  refine ⟨?_, ?_⟩
  ·intro y0 y1 y2 y3 y4 y5 y6 y7
   unfold spec_Put.j0
   repeat' first | (with_reducible first | exact ih0 _ _ _ _ _ _ _ _ | exact ih1 _ _ _ _ _ _ _ _ | exact spec_Evict.mono _ _ _ _ _ _ | exact spec_Hash.mono _ _ | exact spec_ItemOk.mono _ _ _ _ | exact spec_ThreeOk.mono _ _ _ _ _ _ | exact spec_l03Has.mono _ _ _ | exact spec_l08But.mono _ _ _ | exact spec_l10Touch.mono _ _ _ _ _ _ _ _ _ | exact LeO.refl _ | exact LeO.none _ | refine LeO.ite ?_ ?_ | refine LeO.bind ?_ (fun _ => ?_)) | exact ih0 _ _ _ _ _ _ _ _ | exact ih1 _ _ _ _ _ _ _ _ | exact spec_Evict.mono _ _ _ _ _ _ | exact spec_Hash.mono _ _ | exact spec_ItemOk.mono _ _ _ _ | exact spec_ThreeOk.mono _ _ _ _ _ _ | exact spec_l03Has.mono _ _ _ | exact spec_l08But.mono _ _ _ | exact spec_l10Touch.mono _ _ _ _ _ _ _ _ _ | exact LeO.none _ | refine LeO.ite ?_ ?_ | refine LeO.bind ?_ (fun _ => ?_)
  ·intro y0 y1 y2 y3 y4 y5 y6 y7
   unfold spec_Put.l0
   repeat' first | (with_reducible first | exact ih0 _ _ _ _ _ _ _ _ | exact ih1 _ _ _ _ _ _ _ _ | exact spec_Evict.mono _ _ _ _ _ _ | exact spec_Hash.mono _ _ | exact spec_ItemOk.mono _ _ _ _ | exact spec_ThreeOk.mono _ _ _ _ _ _ | exact spec_l03Has.mono _ _ _ | exact spec_l08But.mono _ _ _ | exact spec_l10Touch.mono _ _ _ _ _ _ _ _ _ | exact LeO.refl _ | exact LeO.none _ | refine LeO.ite ?_ ?_ | refine LeO.bind ?_ (fun _ => ?_)) | exact ih0 _ _ _ _ _ _ _ _ | exact ih1 _ _ _ _ _ _ _ _ | exact spec_Evict.mono _ _ _ _ _ _ | exact spec_Hash.mono _ _ | exact spec_ItemOk.mono _ _ _ _ | exact spec_ThreeOk.mono _ _ _ _ _ _ | exact spec_l03Has.mono _ _ _ | exact spec_l08But.mono _ _ _ | exact spec_l10Touch.mono _ _ _ _ _ _ _ _ _ | exact LeO.none _ | refine LeO.ite ?_ ?_ | refine LeO.bind ?_ (fun _ => ?_)
theorem spec_Put.mono : ∀ a0 a1 a2 a3 a4 a5 a6 k, LeO (spec_Put.f k a0 a1 a2 a3 a4 a5 a6) (spec_Put.f (k + 1) a0 a1 a2 a3 a4 a5 a6) := by
 intro a0 a1 a2 a3 a4 a5 a6 k
 obtain ⟨ih0, ih1⟩ := spec_Put.mono_l k
 unfold spec_Put.f
 repeat' first | (with_reducible first | exact ih0 _ _ _ _ _ _ _ _ | exact ih1 _ _ _ _ _ _ _ _ | exact spec_Evict.mono _ _ _ _ _ _ | exact spec_Hash.mono _ _ | exact spec_ItemOk.mono _ _ _ _ | exact spec_ThreeOk.mono _ _ _ _ _ _ | exact spec_l03Has.mono _ _ _ | exact spec_l08But.mono _ _ _ | exact spec_l10Touch.mono _ _ _ _ _ _ _ _ _ | exact LeO.refl _ | exact LeO.none _ | refine LeO.ite ?_ ?_ | refine LeO.bind ?_ (fun _ => ?_)) | exact ih0 _ _ _ _ _ _ _ _ | exact ih1 _ _ _ _ _ _ _ _ | exact spec_Evict.mono _ _ _ _ _ _ | exact spec_Hash.mono _ _ | exact spec_ItemOk.mono _ _ _ _ | exact spec_ThreeOk.mono _ _ _ _ _ _ | exact spec_l03Has.mono _ _ _ | exact spec_l08But.mono _ _ _ | exact spec_l10Touch.mono _ _ _ _ _ _ _ _ _ | exact LeO.none _ | refine LeO.ite ?_ ?_ | refine LeO.bind ?_ (fun _ => ?_)
def spec_Put.T12 : Bool × List (List Nat × List Nat) := (true, [([], []), ([0], [0]), ([], []), ([2], [2]), ([1, 3, 3], [1, 3])])
def spec_Put.B12 : List Nat := [0, 1, 0, 4, 15]
theorem spec_Put.tab12 : rtab .any (opsOf Try.f35 12) = spec_Put.T12 := by kernel_rfl
theorem spec_Put.bits12 : waitsOk spec_Put.T12.2 spec_Put.B12 = true := by kernel_rfl
def spec_Put.T13 : Bool × List (List Nat × List Nat) := (true, [([], []), ([0], [0]), ([], []), ([2], [2]), ([1, 3, 3], [1, 3]), ([0, 1, 2, 3, 4], []), ([5, 4, 4, 0, 1, 2, 3, 4], [4, 5])])
def spec_Put.B13 : List Nat := [0, 1, 0, 4, 15, 31, 63]
theorem spec_Put.tab13 : rtab .any (opsOf Try.f35 13) = spec_Put.T13 := by kernel_rfl
theorem spec_Put.bits13 : waitsOk spec_Put.T13.2 spec_Put.B13 = true := by kernel_rfl
set_option maxHeartbeats 8000000 in
set_option maxRecDepth 100000 in
theorem spec_Put.calls (k : Nat) (a0_0 : Int) (a0_1 : Int) (A0_2 : Option Addr) (c0_2 : Nat) (l0_2 : List (S95)) (A0_3 : Option Addr) (c0_3 : Nat) (l0_3 : List (S95)) (A0_4 : Option Addr) (c0_4 : Nat) (l0_4 : List Int) (a1 : ByteArray) (a2 : ByteArray) (r1 : Int) (r2 : Int) (r3 : List (S95)) (r4 : List (S95)) (r5 : List Int) (r6 : List ByteArray) (r7 : Bool) (w : World) (hr0_2 : Kd.C k95 w A0_2 l0_2.length l0_2) (hc0_2 : l0_2.length ≤ c0_2) (hr0_3 : Kd.C k95 w A0_3 l0_3.length l0_3) (hc0_3 : l0_3.length ≤ c0_3) (hr0_4 : Kd.C (Kd.int .i64) w A0_4 l0_4.length l0_4) (hc0_4 : l0_4.length ≤ c0_4) (h : spec_Put.f k a0_0 a0_1 l0_2 l0_3 l0_4 a1 a2 = some (r1, r2, r3, r4, r5, r6, r7)) :
  Calls Try.prog 35 #[.agg #[.int .i64 a0_0, .int .i64 a0_1, .slice A0_2 l0_2.length c0_2, .slice A0_3 l0_3.length c0_3, .slice A0_4 l0_4.length c0_4], .string a1, .string a2] w fun e w' => ∃ v2_ v3_ v4_ v5_ : Value, e = .returned (.tuple #[.agg #[.int .i64 r1, .int .i64 r2, v2_, v3_, v4_], v5_, .bool r7]) ∧ Mem w [] w' [rowR k95 95 v2_ r3, rowR k95 95 v3_ r4, row (Kd.int .i64) 3 v4_ r5, rowR Kd.string 9 v5_ r6] := by
 have hu32 := Try.underlying32
 have hu95 := Try.underlying95
 have HR0_2 := Aside0.mk hr0_2
 have HC0_2 := Aside0.mk hc0_2
 clear hr0_2 hc0_2
 have HR0_3 := Aside0.mk hr0_3
 have HC0_3 := Aside0.mk hc0_3
 clear hr0_3 hc0_3
 have HR0_4 := Aside0.mk hr0_4
 have HC0_4 := Aside0.mk hc0_4
 clear hr0_4 hc0_4
 have HM := Mem.nil w
 have H := h
 clear h
 unfold spec_Put.f at H
 go_enter Try.func35, Try.ntmps35
 have HC6 := Aside0.mk H
 clear H
 go_upto_region 1 with (first | ((with_reducible refine gate_dst (N := 3) rfl ?_); refine pB 3 32 [.int .i64 a0_0, .int .i64 a0_1, .slice A0_2 l0_2.length c0_2, .slice A0_3 l0_3.length c0_3, .slice A0_4 l0_4.length c0_4] HM rfl ?_; clear HM; intro gb346 w4 HM) | ((with_reducible refine gate_dst (N := 6) rfl ?_); refine pB 6 32 [.int .i64 0, .int .i64 0, .slice none 0 0, .slice none 0 0, .slice none 0 0] HM rfl ?_; clear HM; intro gb347 w5 HM))
 replace HM := nzM HM
 go_cut [26] (fun v26 wc => ∃ (kq : Nat) (x26_5 : Bool), v26 = .bool x26_5 ∧ Aside0 (spec_Put.j0 kq a1 a2 x26_5 a0_0 a0_1 l0_2 l0_3 l0_4 = some (r1, r2, r3, r4, r5, r6, r7)) ∧ Aside0 (kq ≤ k) ∧ Mem w [] wc [box 32 gb346 [.int .i64 a0_0, .int .i64 a0_1, .slice A0_2 l0_2.length c0_2, .slice A0_3 l0_3.length c0_3, .slice A0_4 l0_4.length c0_4], box 32 gb347 [.int .i64 0, .int .i64 0, .slice none 0 0, .slice none 0 0, .slice none 0 0]])
 case first =>
  have H := HC6.out
  clear HC6
  replace H := BN H; obtain ⟨t348, A8, H⟩ := H
  replace H := IB H
  rcases H with ⟨c10, H⟩ | ⟨c10, H⟩
  ·subst c10
   replace H := BN H; obtain ⟨t349, A11, H⟩ := H
   have H' := Aside0.mk H
   clear H
   obtain ⟨hcz7_0, hcz7_1, hcz7_2, hcz7_3, hcz7_4, hfz7_0, hfz7_1, hfz7_2, hfz7_3, hfz7_4⟩ := bk5 (HM.bx 0 rfl)
   go_wp2_with (first | ((with_reducible refine gate_callee (f := 32) rfl ?_); refine pC (some 18) rfl #[.agg #[.int .i64 a0_0, .int .i64 a0_1, .slice A0_2 l0_2.length c0_2, .slice A0_3 l0_3.length c0_3, .slice A0_4 l0_4.length c0_4]] rfl Try.func32 (spec_ThreeOk.calls k a0_0 a0_1 _ _ l0_2 _ _ l0_3 _ _ l0_4 true _ (HM.came HR0_2.out) HC0_2.out (HM.came HR0_3.out) HC0_3.out (HM.came HR0_4.out) HC0_4.out A8.out) ?_; rintro e w9 ⟨rfl, hR⟩; refine ⟨_, rfl, ?_⟩; replace HM := HM.call hR; clear hR) | ((with_reducible refine gate_callee (f := 65) rfl ?_); refine pC (some 24) rfl #[.agg #[.string a1, .string a2, .int .i64 0]] rfl Try.func65 (spec_ItemOk.calls k a1 a2 0 t349 _ A11.out) ?_; rintro e w12 ⟨rfl, hR⟩; refine ⟨_, rfl, ?_⟩; replace HM := HM.call hR; clear hR))
   go_meet
   case rel => exact ⟨_, (!t349), RS, H', ⟨by first | omega | exact Nat.le_refl _⟩, (MD HM).pick [0, 1]⟩
  ·subst c10
   have H' := Aside0.mk H
   clear H
   obtain ⟨hcz7_0, hcz7_1, hcz7_2, hcz7_3, hcz7_4, hfz7_0, hfz7_1, hfz7_2, hfz7_3, hfz7_4⟩ := bk5 (HM.bx 0 rfl)
   go_wp2_with (first | ((with_reducible refine gate_callee (f := 32) rfl ?_); refine pC (some 18) rfl #[.agg #[.int .i64 a0_0, .int .i64 a0_1, .slice A0_2 l0_2.length c0_2, .slice A0_3 l0_3.length c0_3, .slice A0_4 l0_4.length c0_4]] rfl Try.func32 (spec_ThreeOk.calls k a0_0 a0_1 _ _ l0_2 _ _ l0_3 _ _ l0_4 false _ (HM.came HR0_2.out) HC0_2.out (HM.came HR0_3.out) HC0_3.out (HM.came HR0_4.out) HC0_4.out A8.out) ?_; rintro e w9 ⟨rfl, hR⟩; refine ⟨_, rfl, ?_⟩; replace HM := HM.call hR; clear hR))
   go_meet
   case rel => exact ⟨_, (true), RS, H', ⟨by first | omega | exact Nat.le_refl _⟩, (MD HM).pick [0, 1]⟩
 case rest =>
  clear HC6 HM
  obtain ⟨kq, x26_5, rfl, HA, HJ5, HM⟩ := hcut
  cases kq with
  | zero => exact absurd HA.out (by simp [spec_Put.j0])
  | succ kj5 =>
   have H := HA.out
   clear HA
   simp only [spec_Put.j0] at H
   go_upto_if 26 with (fail)
   replace H := IB H
   rcases H with ⟨c13, H⟩ | ⟨c13, H⟩
   ·subst c13
    simp only [Option.some.injEq, Prod.mk.injEq] at H
    obtain ⟨rfl, rfl, rfl, rfl, rfl, rfl, rfl⟩ := H
    go_wp2_with (first | ((with_reducible refine gate_st (p := 6) rfl ?_); refine pS 1 6 0 [.int .i64 0, .int .i64 0, .slice none 0 0, .slice none 0 0, .slice none 0 0] HM rfl rfl ?_; clear HM; intro w14 HM; replace HM := HM.nl k95 95; replace HM := HM.nl k95 95; replace HM := HM.nl (Kd.int .i64) 3; replace HM := HM.toQ 4 rfl; replace HM := HM.nl Kd.string 9))
    refine bodyPost_ret (results_ctt rfl _ _ gb347 32 #[.int .i64 0, .int .i64 0, .slice none 0 0, .slice none 0 0, .slice none 0 0] (0, 0) _ rfl (HM.bx 1 rfl) Try.underlying32 rfl (by kernel_rfl)) rfl ?_
    exact ⟨_, _, _, _, ER, (MD HM).pick [2, 3, 4, 5]⟩
   ·subst c13
    replace H := BN H; obtain ⟨⟨t350, t351, t352, t355, t358⟩, A16, H⟩ := H
    replace H := BN H; obtain ⟨⟨t361, t362, t363, t366, t369, t372, t373⟩, A18, H⟩ := H
    obtain ⟨hcz15_0, hcz15_1, hcz15_2, hcz15_3, hcz15_4, hfz15_0, hfz15_1, hfz15_2, hfz15_3, hfz15_4⟩ := bk5 (HM.bx 0 rfl)
    go_upto_if 37 with (first | ((with_reducible refine gate_callee (f := 48) rfl ?_); refine pC (some 30) rfl #[.agg #[.int .i64 a0_0, .int .i64 a0_1, .slice A0_2 l0_2.length c0_2, .slice A0_3 l0_3.length c0_3, .slice A0_4 l0_4.length c0_4]] rfl Try.func48 (spec_l10Copy.calls a0_0 a0_1 _ _ l0_2 _ _ l0_3 _ _ l0_4 t350 t351 t352 t355 t358 _ (HM.came HR0_2.out) HC0_2.out (HM.came HR0_3.out) HC0_3.out (HM.came HR0_4.out) HC0_4.out A16.out) ?_; rintro e w17 ⟨v353, v356, v359, rfl, hR⟩; refine ⟨_, rfl, ?_⟩; replace HM := HM.call hR; clear hR) | ((with_reducible refine gate_callee (f := 69) rfl ?_); refine pC (some 33) rfl #[.agg #[.int .i64 t350, .int .i64 t351, v353, v356, v359], .string a1, .bool true, .string a2] rfl Try.func69 (spec_l10Touch.calls kj5 t350 t351 v353 t352 v356 t355 v359 t358 a1 true a2 t361 t362 t363 t366 t369 t372 t373 _ _ _ (HM.focus [0, 1] [2, 3, 4]) A18.out) ?_; rintro e w19 ⟨v364, v367, v370, rfl, hR⟩; refine ⟨_, rfl, ?_⟩; replace HM := nzM hR.unfocus; clear hR) | ((with_reducible refine gate_dst (N := 9) rfl ?_); refine pB 9 32 [.int .i64 0, .int .i64 0, .slice none 0 0, .slice none 0 0, .slice none 0 0] HM rfl ?_; clear HM; intro gb374 w20 HM; obtain ⟨Xo21, ko21, eo21⟩ := HM.rdR 2 rfl; subst eo21; obtain ⟨Xo22, ko22, eo22⟩ := HM.rdR 3 rfl; subst eo22; obtain ⟨Xo23, ko23, eo23⟩ := HM.rdR 4 rfl; subst eo23) | ((with_reducible refine gate_st (p := 9) rfl ?_); refine pS 5 9 0 [.int .i64 t361, .int .i64 t362, .slice Xo21 t363.length ko21, .slice Xo22 t366.length ko22, .slice Xo23 t369.length ko23] HM rfl rfl ?_; clear HM; intro w24 HM))
    replace HM := nzM HM
    replace H := IB H
    rcases H with ⟨c25, H⟩ | ⟨c25, H⟩
    ·subst c25
     simp only [Option.some.injEq, Prod.mk.injEq] at H
     obtain ⟨rfl, rfl, rfl, rfl, rfl, rfl, rfl⟩ := H
     obtain ⟨hcz26_0, hcz26_1, hcz26_2, hcz26_3, hcz26_4, hfz26_0, hfz26_1, hfz26_2, hfz26_3, hfz26_4⟩ := bk5 (HM.bx 5 rfl)
     go_wp2_with (first | ((with_reducible refine gate_st (p := 6) rfl ?_); refine pS 1 6 0 [.int .i64 t361, .int .i64 t362, .slice Xo21 t363.length ko21, .slice Xo22 t366.length ko22, .slice Xo23 t369.length ko23] HM rfl rfl ?_; clear HM; intro w27 HM; replace HM := HM.toQ 4 rfl; replace HM := HM.nl Kd.string 9))
     refine bodyPost_ret (results_ctt rfl _ _ gb347 32 #[.int .i64 t361, .int .i64 t362, .slice Xo21 t363.length ko21, .slice Xo22 t366.length ko22, .slice Xo23 t369.length ko23] (0, 0) _ rfl (HM.bx 1 rfl) Try.underlying32 rfl (by kernel_rfl)) rfl ?_
     exact ⟨_, _, _, _, ER, (MD HM).pick [2, 3, 4, 6]⟩
    ·subst c25
     have H' := Aside0.mk H
     clear H
     go_wp2_with (first | ((with_reducible refine gate_dst (N := 39) rfl ?_); refine pL 39 Kd.string 9 ([] : List ByteArray) [] (Reps.none _ _) HM rfl ?_; clear HM; intro v376 w28 HM; replace HM := HM.toQ 4 rfl))
     go_loopg [12] kj5 (fun kq v12 w' => ∃ (x12_2 : List ByteArray) (x375000_2 : Int) (x375001_2 : Int) (x375002_2 : List (S95)) (x375003_2 : List (S95)) (x375004_2 : List Int) (u375002 : Value) (u375003 : Value) (u375004 : Value), Aside0 (spec_Put.l0 kq a1 a2 x12_2 x375000_2 x375001_2 x375002_2 x375003_2 x375004_2 = some (r1, r2, r3, r4, r5, r6, r7)) ∧ Aside0 (kq ≤ kj5) ∧ Mem w [] w' [rowR Kd.string 9 v12 x12_2, rowR k95 95 u375002 x375002_2, rowR k95 95 u375003 x375003_2, row (Kd.int .i64) 3 u375004 x375004_2, box 32 gb346 [.int .i64 a0_0, .int .i64 a0_1, .slice A0_2 l0_2.length c0_2, .slice A0_3 l0_3.length c0_3, .slice A0_4 l0_4.length c0_4], box 32 gb347 [.int .i64 0, .int .i64 0, .slice none 0 0, .slice none 0 0, .slice none 0 0], box 32 gb374 [.int .i64 x375000_2, .int .i64 x375001_2, u375002, u375003, u375004]])
     case atStart => exact ⟨((([] : List ByteArray))), (t361), (t362), (t363), (t366), (t369), (.slice Xo21 t363.length ko21), (.slice Xo22 t366.length ko22), (.slice Xo23 t369.length ko23), H', ⟨Nat.le_refl _⟩, (MD HM).pick [6, 2, 3, 4, 0, 1, 5]⟩
     case round =>
      clear H' HM
      obtain ⟨x12_2, x375000_2, x375001_2, x375002_2, x375003_2, x375004_2, u375002, u375003, u375004, HA, HK2, HM⟩ := hrel
      cases gk with
      | zero => exact absurd HA.out (by simp [spec_Put.l0])
      | succ k2 =>
       have H := HA.out
       clear HA
       simp only [spec_Put.l0] at H
       obtain ⟨hcz29_0, hcz29_1, hcz29_2, hcz29_3, hcz29_4, hfz29_0, hfz29_1, hfz29_2, hfz29_3, hfz29_4⟩ := bk5 (HM.bx 6 rfl)
       obtain ⟨Xo30, ko30, eo30⟩ := HM.rdR 1 rfl
       subst eo30
       obtain ⟨Xo31, ko31, eo31⟩ := HM.rdR 2 rfl
       subst eo31
       go_upto_if 49 with (fail)
       replace H := IT H; rcases H with ⟨c32, H⟩ | ⟨c32, H⟩
       ·have c32b0 : decide (x375000_2 ≤ (wrap64 ((x375002_2.length : Int) + (x375003_2.length : Int)))) = true := decide_eq_true c32
        clear c32
        (first | rw [c32b0] | (simp only [i64_w, i32_w]; rw [c32b0]) | skip)
        replace H := BN H; obtain ⟨⟨t378, t379, t380, t383, t386, t389, t390⟩, A33, H⟩ := H
        replace H := GD H; obtain ⟨c43, H⟩ := H
        have LMc43 := Aside0.mk c43
        clear c43
        have H' := Aside0.mk H
        clear H
        obtain ⟨Xo35, ko35, eo35⟩ := HM.rd 3 rfl
        subst eo35
        go_wp2_with (first | ((with_reducible refine gate_callee (f := 70) rfl ?_); refine pC (some 52) rfl #[.agg #[.int .i64 x375000_2, .int .i64 x375001_2, .slice Xo30 x375002_2.length ko30, .slice Xo31 x375003_2.length ko31, .slice Xo35 x375004_2.length ko35]] rfl Try.func70 (spec_Evict.calls k2 x375000_2 x375001_2 _ _ x375002_2 _ _ x375003_2 _ _ x375004_2 t378 t379 t380 t383 t386 t389 t390 _ (HM.CR 1 rfl).2.2 (HM.CR 1 rfl).2.1 (HM.CR 2 rfl).2.2 (HM.CR 2 rfl).2.1 (HM.C 3 rfl).2.2 (HM.C 3 rfl).2.1 A33.out) ?_; rintro e w34 ⟨v381, v384, v387, rfl, hR⟩; refine ⟨_, rfl, ?_⟩; replace HM := HM.call hR; clear hR) | ((with_reducible refine gate_dst (N := 13) rfl ?_); refine pB 13 32 [.int .i64 0, .int .i64 0, .slice none 0 0, .slice none 0 0, .slice none 0 0] HM rfl ?_; clear HM; intro gb391 w36 HM; obtain ⟨Xo37, ko37, eo37⟩ := HM.rdR 7 rfl; subst eo37; obtain ⟨Xo38, ko38, eo38⟩ := HM.rdR 8 rfl; subst eo38; obtain ⟨Xo39, ko39, eo39⟩ := HM.rd 9 rfl; subst eo39) | ((with_reducible refine gate_st (p := 13) rfl ?_); refine pS 10 13 0 [.int .i64 t378, .int .i64 t379, .slice Xo37 t380.length ko37, .slice Xo38 t383.length ko38, .slice Xo39 t386.length ko39] HM rfl rfl ?_; clear HM; intro w40 HM; obtain ⟨hcz41_0, hcz41_1, hcz41_2, hcz41_3, hcz41_4, hfz41_0, hfz41_1, hfz41_2, hfz41_3, hfz41_4⟩ := bk5 (HM.bx 10 rfl)) | ((with_reducible refine gate_st (p := 9) rfl ?_); refine pS 6 9 0 [.int .i64 t378, .int .i64 t379, .slice Xo37 t380.length ko37, .slice Xo38 t383.length ko38, .slice Xo39 t386.length ko39] HM rfl rfl ?_; clear HM; intro w42 HM) | ((with_reducible refine gate_dst (N := 59) rfl ?_); refine pL 59 Kd.string 9 [t389] [.string t389] (Reps.one (show Kd.M Kd.string _ _ _ t389 [.string t389] from rfl) (Reps.none _ _)) HM rfl ?_; clear HM; intro v45 w44 HM; obtain ⟨Xv45, kv45, ev45⟩ := HM.rdR 11 rfl; subst ev45) | ((with_reducible refine gate_builtin (b := .append) (xs := #[.tmp 57, .tmp 59]) rfl ?_); refine pA 0 (.tmp 57) (.tmp 59) 67 9 Kd.string u12 x12_2 [t389] Xv45 ([t389].length) kv45 HM rfl Try.underlying67 info9 rfl (HM.CR 11 rfl).2.2 (by have h_ := LMc43.out; simp only [List.length_singleton]; omega) ?_; clear HM; intro v393 w46 HM))
        go_roundg k2
        case measure => have := HJ5.out; have := HK2.out; omega
        case rel => exact ⟨((x12_2 ++ [t389])), (t378), (t379), (t380), (t383), (t386), (.slice Xo37 t380.length ko37), (.slice Xo38 t383.length ko38), (.slice Xo39 t386.length ko39), H', ⟨by have := HJ5.out; have := HK2.out; omega⟩, (MD HM).pick [0, 7, 8, 9, 4, 5, 6]⟩
       ·have c32b0 : decide (x375000_2 ≤ (wrap64 ((x375002_2.length : Int) + (x375003_2.length : Int)))) = false := decide_eq_false c32
        clear c32
        (first | rw [c32b0] | (simp only [i64_w, i32_w]; rw [c32b0]) | skip)
        try go_wp2_with (first | ((with_reducible refine gate_dst (N := 16) rfl ?_); refine pB 16 95 [.string (⟨#[]⟩ : ByteArray), .string (⟨#[]⟩ : ByteArray), .int .i64 0] HM rfl ?_; clear HM; intro gb395 w47 HM) | ((with_reducible refine gate_st (p := 16) rfl ?_); refine pS 7 16 0 [.string a1, .string a2, .int .i64 0] HM rfl rfl ?_; clear HM; intro w48 HM))
        replace H := BN H; obtain ⟨t396, A49, H⟩ := H
        replace H := BN H; obtain ⟨t397, A50, H⟩ := H
        obtain ⟨Xo55, ko55, eo55⟩ := HM.rd 3 rfl
        subst eo55
        refine RGN 5 [0, 1, 2, 3, 4] (fun a0 b a w' => a = putSel a0 b [(0, 64, .pointer (some ⟨gb374, 4, none⟩)), (1, 65, .slice Xo55 x375004_2.length ko55), (2, 66, .string a1), (3, 67, .int .i64 t396), (4, 68, .bool t397)] ∧ Mem w [] w' [rowR Kd.string 9 u12 x12_2, rowR k95 95 (.slice Xo30 x375002_2.length ko30) x375002_2, rowR k95 95 (.slice Xo31 x375003_2.length ko31) x375003_2, row (Kd.int .i64) 3 (.slice Xo55 x375004_2.length ko55) x375004_2, box 32 gb346 [.int .i64 a0_0, .int .i64 a0_1, .slice A0_2 l0_2.length c0_2, .slice A0_3 l0_3.length c0_3, .slice A0_4 l0_4.length c0_4], box 32 gb347 [.int .i64 0, .int .i64 0, .slice none 0 0, .slice none 0 0, .slice none 0 0], box 32 gb374 [.int .i64 x375000_2, .int .i64 x375001_2, .slice Xo30 x375002_2.length ko30, .slice Xo31 x375003_2.length ko31, .slice Xo55 x375004_2.length ko55], box 95 gb395 [.string a1, .string a2, .int .i64 0]]) spec_Put.tab12 spec_Put.bits12 ?_ ?_ ?_
        ·exact ⟨PS0' rfl _, (HM.drew).pick [0, 1, 2, 3, 4, 5, 6, 7]⟩
        ·clear HM
         refine steps_cons ?_ ?_
         ·rintro b a w ⟨ha, HM⟩ hb hon hoff
          refine ⟨_, rfl, fun K hK => ?_⟩
          have e9 := POF ha 9
          replace ha := Aside0.mk ha
          exact VL (.pointer (some ⟨gb374, 4, none⟩)) (hK.out _ _ ⟨PUT ha 0 hb, HM⟩)
         refine steps_cons ?_ ?_
         ·rintro b a w ⟨ha, HM⟩ hb hon hoff
          refine ⟨_, rfl, fun K hK => ?_⟩
          obtain ⟨hcz56_0, hcz56_1, hcz56_2, hcz56_3, hcz56_4, hfz56_0, hfz56_1, hfz56_2, hfz56_3, hfz56_4⟩ := bk5 (HM.bx 6 rfl)
          have e64 := PON ha 0 (hon 0 (by kernel_rfl))
          replace ha := Aside0.mk ha
          exact VL (.slice Xo55 x375004_2.length ko55) (hK.out _ _ ⟨PUT ha 1 hb, HM⟩)
         refine steps_cons ?_ ?_
         ·rintro b a w ⟨ha, HM⟩ hb hon hoff
          refine ⟨_, rfl, fun K hK => ?_⟩
          have e1 := POF ha 1
          replace ha := Aside0.mk ha
          exact VL (.string a1) (hK.out _ _ ⟨PUT ha 2 hb, HM⟩)
         refine steps_cons ?_ ?_
         ·rintro b a w ⟨ha, HM⟩ hb hon hoff
          refine ⟨_, rfl, fun K hK => ?_⟩
          have e66 := PON ha 2 (hon 2 (by kernel_rfl))
          replace ha := Aside0.mk ha
          refine ST (eC (some 67) rfl #[.string a1] rfl Try.func71 (spec_Hash.calls k2 a1 t396 _ A49.out) ?_ (hargs := by (simp only [List.map_toArray, List.map_cons, List.map_nil, evc, eval_of e66]) <;> rfl))
          rintro e w57 ⟨rfl, hd⟩
          refine ⟨_, rfl, ?_⟩
          replace HM := HM.drawn hd
          clear hd
          exact hK.out _ _ ⟨PUT ha 3 hb, (HM).pick [0, 1, 2, 3, 4, 5, 6, 7]⟩
         refine steps_cons ?_ ?_
         ·rintro b a w ⟨ha, HM⟩ hb hon hoff
          refine ⟨_, rfl, fun K hK => ?_⟩
          have e65 := PON ha 1 (hon 1 (by kernel_rfl))
          have e67 := PON ha 3 (hon 3 (by kernel_rfl))
          replace ha := Aside0.mk ha
          refine ST (eC (some 68) rfl #[.slice Xo55 x375004_2.length ko55, .int .i64 t396] rfl Try.func68 (spec_l03Has.calls k2 _ _ x375004_2 t396 t397 _ (HM.C 3 rfl).2.2 (HM.C 3 rfl).2.1 A50.out) ?_ (hargs := by (simp only [List.map_toArray, List.map_cons, List.map_nil, evc, eval_of e65, eval_of e67]) <;> rfl))
          rintro e w58 ⟨rfl, hd⟩
          refine ⟨_, rfl, ?_⟩
          replace HM := HM.drawn hd
          clear hd
          exact hK.out _ _ ⟨PUT ha 4 hb, (HM).pick [0, 1, 2, 3, 4, 5, 6, 7]⟩
         exact steps_nil
        rintro _ w59 ⟨rfl, HM⟩
        simp only [putSel, if_true, Act.put, List.setIfInBounds_toArray, List.set_cons_zero, List.set_cons_succ, gt_iff_lt, ge_iff_le]
        go_upto_if 68 with (fail)
        replace H := IB H
        rcases H with ⟨c60, H⟩ | ⟨c60, H⟩
        ·subst c60
         try go_wp2
         replace H := BN H; obtain ⟨t398, A61, H⟩ := H
         replace H := BN H; obtain ⟨t399, A62, H⟩ := H
         refine RGN 7 [0, 1, 2, 3, 4, 5, 6] (fun a0 b a w' => ∃ (v400 : Value), a = putSel a0 b [(0, 69, .pointer (some ⟨gb374, 4, none⟩)), (1, 70, .slice Xo55 x375004_2.length ko55), (2, 71, .string a1), (3, 72, .int .i64 t398), (4, 73, v400), (5, 74, .pointer (some ⟨gb374, 4, none⟩))] ∧ Mem w [] w' [rowR Kd.string 9 u12 x12_2, rowR k95 95 (.slice Xo30 x375002_2.length ko30) x375002_2, rowR k95 95 (.slice Xo31 x375003_2.length ko31) x375003_2, row (Kd.int .i64) 3 (.slice Xo55 x375004_2.length ko55) x375004_2, box 32 gb346 [.int .i64 a0_0, .int .i64 a0_1, .slice A0_2 l0_2.length c0_2, .slice A0_3 l0_3.length c0_3, .slice A0_4 l0_4.length c0_4], box 32 gb347 [.int .i64 0, .int .i64 0, .slice none 0 0, .slice none 0 0, .slice none 0 0], sel (b 6) (box 32 gb374 [.int .i64 x375000_2, .int .i64 x375001_2, .slice Xo30 x375002_2.length ko30, .slice Xo31 x375003_2.length ko31, v400]) (box 32 gb374 [.int .i64 x375000_2, .int .i64 x375001_2, .slice Xo30 x375002_2.length ko30, .slice Xo31 x375003_2.length ko31, .slice Xo55 x375004_2.length ko55]), box 95 gb395 [.string a1, .string a2, .int .i64 0], sel (b 4) (rowR (Kd.int .i64) 3 v400 t399) (emp)]) spec_Put.tab13 spec_Put.bits13 ?_ ?_ ?_
         ·exact ⟨.bool false, PS0' rfl _, (HM.drew.ems 1).pick [0, 1, 2, 3, 4, 5, 6, 7, 8]⟩
         ·clear HM
          refine steps_cons ?_ ?_
          ·rintro b a w ⟨v400, ha, HM⟩ hb hon hoff
           refine ⟨_, rfl, fun K hK => ?_⟩
           have e9 := POF ha 9
           replace ha := Aside0.mk ha
           exact VL (.pointer (some ⟨gb374, 4, none⟩)) (hK.out _ _ ⟨v400, PUT ha 0 hb, HM⟩)
          refine steps_cons ?_ ?_
          ·rintro b a w ⟨v400, ha, HM⟩ hb hon hoff
           refine ⟨_, rfl, fun K hK => ?_⟩
           have HZ := HM
           replace HM := HM.sF 6 rfl (hoff 6 (by kernel_rfl))
           obtain ⟨hcz68_0, hcz68_1, hcz68_2, hcz68_3, hcz68_4, hfz68_0, hfz68_1, hfz68_2, hfz68_3, hfz68_4⟩ := bk5 (HM.bx 6 rfl)
           have e69 := PON ha 0 (hon 0 (by kernel_rfl))
           replace ha := Aside0.mk ha
           exact VL (.slice Xo55 x375004_2.length ko55) (hK.out _ _ ⟨v400, PUT ha 1 hb, HZ⟩)
          refine steps_cons ?_ ?_
          ·rintro b a w ⟨v400, ha, HM⟩ hb hon hoff
           refine ⟨_, rfl, fun K hK => ?_⟩
           have e1 := POF ha 1
           replace ha := Aside0.mk ha
           exact VL (.string a1) (hK.out _ _ ⟨v400, PUT ha 2 hb, HM⟩)
          refine steps_cons ?_ ?_
          ·rintro b a w ⟨v400, ha, HM⟩ hb hon hoff
           refine ⟨_, rfl, fun K hK => ?_⟩
           have e71 := PON ha 2 (hon 2 (by kernel_rfl))
           replace ha := Aside0.mk ha
           refine ST (eC (some 72) rfl #[.string a1] rfl Try.func71 (spec_Hash.calls k2 a1 t398 _ A61.out) ?_ (hargs := by (simp only [List.map_toArray, List.map_cons, List.map_nil, evc, eval_of e71]) <;> rfl))
           rintro e w69 ⟨rfl, hd⟩
           refine ⟨_, rfl, ?_⟩
           replace HM := HM.drawn hd
           clear hd
           exact hK.out _ _ ⟨v400, PUT ha 3 hb, (HM).pick [0, 1, 2, 3, 4, 5, 6, 7, 8]⟩
          refine steps_cons ?_ ?_
          ·rintro b a w ⟨v400, ha, HM⟩ hb hon hoff
           refine ⟨_, rfl, fun K hK => ?_⟩
           have e70 := PON ha 1 (hon 1 (by kernel_rfl))
           have e72 := PON ha 3 (hon 3 (by kernel_rfl))
           replace ha := Aside0.mk ha
           refine ST (eC (some 73) rfl #[.slice Xo55 x375004_2.length ko55, .int .i64 t398] rfl Try.func72 (spec_l08But.calls k2 _ _ x375004_2 t398 t399 _ (HM.C 3 rfl).2.2 (HM.C 3 rfl).2.1 A62.out) ?_ (hargs := by (simp only [List.map_toArray, List.map_cons, List.map_nil, evc, eval_of e70, eval_of e72]) <;> rfl))
           rintro e w70 ⟨v400, rfl, hR⟩
           refine ⟨_, rfl, ?_⟩
           replace HM := HM.call hR
           clear hR
           exact hK.out _ _ ⟨v400, PUT ha 4 hb, ((HM.sF 6 rfl (hoff 6 (by kernel_rfl))).iF 6 rfl (hoff 6 (by kernel_rfl))).pick [0, 1, 2, 3, 4, 5, 6, 7, 9]⟩
          refine steps_cons ?_ ?_
          ·rintro b a w ⟨v400, ha, HM⟩ hb hon hoff
           refine ⟨_, rfl, fun K hK => ?_⟩
           have e9 := POF ha 9
           replace ha := Aside0.mk ha
           exact VL (.pointer (some ⟨gb374, 4, none⟩)) (hK.out _ _ ⟨v400, PUT ha 5 hb, HM⟩)
          refine steps_cons ?_ ?_
          ·rintro b a w ⟨v400, ha, HM⟩ hb hon hoff
           refine ⟨_, rfl, fun K hK => ?_⟩
           replace HM := HM.sF 6 rfl hb
           replace HM := HM.sT 8 rfl (hon 4 (by kernel_rfl))
           obtain ⟨Xo71, ko71, eo71⟩ := HM.rdR 8 rfl
           subst eo71
           have e74 := PON ha 5 (hon 5 (by kernel_rfl))
           have e73 := PON ha 4 (hon 4 (by kernel_rfl))
           replace ha := Aside0.mk ha
           refine ST (eS 6 74 4 [.slice Xo71 t399.length ko71] HM rfl rfl ?_ (hp := (eval_of e74)) (hx := (by rw [eval_of e73]; rfl)))
           clear HM
           intro w72 HM
           exact hK.out _ _ ⟨.slice Xo71 t399.length ko71, PUS ha, (HM.iT 8 rfl (hon 4 (by kernel_rfl))).pick [0, 1, 2, 3, 4, 5, 6, 7, 8]⟩
          exact steps_nil
         rintro _ w73 ⟨v400, rfl, HM⟩
         replace HM := HM.sT 6 rfl rfl
         replace HM := HM.sT 8 rfl rfl
         simp only [putSel, if_true, Act.put, List.setIfInBounds_toArray, List.set_cons_zero, List.set_cons_succ, gt_iff_lt, ge_iff_le]
         replace H := GD H; obtain ⟨c76, H⟩ := H
         have LMc76 := Aside0.mk c76
         clear c76
         simp only [Option.some.injEq, Prod.mk.injEq] at H
         obtain ⟨rfl, rfl, rfl, rfl, rfl, rfl, rfl⟩ := H
         obtain ⟨hcz74_0, hcz74_1, hcz74_2, hcz74_3, hcz74_4, hfz74_0, hfz74_1, hfz74_2, hfz74_3, hfz74_4⟩ := bk5 (HM.bx 6 rfl)
         obtain ⟨hcz75_0, hcz75_1, hcz75_2, hfz75_0, hfz75_1, hfz75_2⟩ := bk3 (HM.bx 7 rfl)
         go_wp2_with (first | ((with_reducible refine gate_dst (N := 78) rfl ?_); refine pL 78 k95 95 [(⟨a1, a2, 0⟩ : S95)] [.string a1, .string a2, .int .i64 0] (Reps.c3 (show Kd.M k95 _ _ _ (⟨a1, a2, 0⟩ : S95) [.string a1, .string a2, .int .i64 0] from (k95_mkM _ _ _ (⟨a1, a2, 0⟩ : S95))) (Reps.none _ _)) HM rfl ?_; clear HM; intro v78 w77 HM; obtain ⟨Xv78, kv78, ev78⟩ := HM.rdR 9 rfl; subst ev78) | ((with_reducible refine gate_builtin (b := .append) (xs := #[.tmp 76, .tmp 78]) rfl ?_); refine pA 2 (.tmp 76) (.tmp 78) 30 95 k95 (.slice Xo31 x375003_2.length ko31) x375003_2 [(⟨a1, a2, 0⟩ : S95)] Xv78 ([(⟨a1, a2, 0⟩ : S95)].length) kv78 HM rfl Try.underlying30 info95 rfl (HM.CR 9 rfl).2.2 (by have h_ := LMc76.out; simp only [List.length_singleton]; omega) ?_; clear HM; intro v403 w79 HM; obtain ⟨Xo80, ko80, eo80⟩ := HM.rdR 2 rfl; subst eo80) | ((with_reducible refine gate_st (p := 80) rfl ?_); refine pS 6 80 3 [.slice Xo80 (x375003_2 ++ [(⟨a1, a2, 0⟩ : S95)]).length ko80] HM rfl rfl ?_; clear HM; intro w81 HM; obtain ⟨hcz82_0, hcz82_1, hcz82_2, hcz82_3, hcz82_4, hfz82_0, hfz82_1, hfz82_2, hfz82_3, hfz82_4⟩ := bk5 (HM.bx 6 rfl); obtain ⟨Xo83, ko83, eo83⟩ := HM.rdR 8 rfl; subst eo83) | ((with_reducible refine gate_st (p := 6) rfl ?_); refine pS 5 6 0 [.int .i64 x375000_2, .int .i64 x375001_2, .slice Xo30 x375002_2.length ko30, .slice Xo80 (x375003_2 ++ [(⟨a1, a2, 0⟩ : S95)]).length ko80, .slice Xo83 t399.length ko83] HM rfl rfl ?_; clear HM; intro w84 HM; replace HM := HM.toQ 8 rfl))
         refine bodyPost_ret (results_ctt rfl _ _ gb347 32 #[.int .i64 x375000_2, .int .i64 x375001_2, .slice Xo30 x375002_2.length ko30, .slice Xo80 (x375003_2 ++ [(⟨a1, a2, 0⟩ : S95)]).length ko80, .slice Xo83 t399.length ko83] (0, 0) _ rfl (HM.bx 5 rfl) Try.underlying32 rfl (by kernel_rfl)) rfl ?_
         exact ⟨_, _, _, _, ER, (MD HM).pick [1, 2, 8, 0]⟩
        ·subst c60
         replace H := GD H; obtain ⟨c87, H⟩ := H
         have LMc87 := Aside0.mk c87
         clear c87
         simp only [Option.some.injEq, Prod.mk.injEq] at H
         obtain ⟨rfl, rfl, rfl, rfl, rfl, rfl, rfl⟩ := H
         obtain ⟨hcz85_0, hcz85_1, hcz85_2, hcz85_3, hcz85_4, hfz85_0, hfz85_1, hfz85_2, hfz85_3, hfz85_4⟩ := bk5 (HM.bx 6 rfl)
         obtain ⟨hcz86_0, hcz86_1, hcz86_2, hfz86_0, hfz86_1, hfz86_2⟩ := bk3 (HM.bx 7 rfl)
         go_wp2_with (first | ((with_reducible refine gate_dst (N := 84) rfl ?_); refine pL 84 k95 95 [(⟨a1, a2, 0⟩ : S95)] [.string a1, .string a2, .int .i64 0] (Reps.c3 (show Kd.M k95 _ _ _ (⟨a1, a2, 0⟩ : S95) [.string a1, .string a2, .int .i64 0] from (k95_mkM _ _ _ (⟨a1, a2, 0⟩ : S95))) (Reps.none _ _)) HM rfl ?_; clear HM; intro v89 w88 HM; obtain ⟨Xv89, kv89, ev89⟩ := HM.rdR 8 rfl; subst ev89) | ((with_reducible refine gate_builtin (b := .append) (xs := #[.tmp 82, .tmp 84]) rfl ?_); refine pA 1 (.tmp 82) (.tmp 84) 30 95 k95 (.slice Xo30 x375002_2.length ko30) x375002_2 [(⟨a1, a2, 0⟩ : S95)] Xv89 ([(⟨a1, a2, 0⟩ : S95)].length) kv89 HM rfl Try.underlying30 info95 rfl (HM.CR 8 rfl).2.2 (by have h_ := LMc87.out; simp only [List.length_singleton]; omega) ?_; clear HM; intro v406 w90 HM; obtain ⟨Xo91, ko91, eo91⟩ := HM.rdR 1 rfl; subst eo91) | ((with_reducible refine gate_st (p := 86) rfl ?_); refine pS 6 86 2 [.slice Xo91 (x375002_2 ++ [(⟨a1, a2, 0⟩ : S95)]).length ko91] HM rfl rfl ?_; clear HM; intro w92 HM; obtain ⟨hcz93_0, hcz93_1, hcz93_2, hcz93_3, hcz93_4, hfz93_0, hfz93_1, hfz93_2, hfz93_3, hfz93_4⟩ := bk5 (HM.bx 6 rfl)) | ((with_reducible refine gate_st (p := 6) rfl ?_); refine pS 5 6 0 [.int .i64 x375000_2, .int .i64 x375001_2, .slice Xo91 (x375002_2 ++ [(⟨a1, a2, 0⟩ : S95)]).length ko91, .slice Xo31 x375003_2.length ko31, .slice Xo55 x375004_2.length ko55] HM rfl rfl ?_; clear HM; intro w94 HM))
         refine bodyPost_ret (results_ctt rfl _ _ gb347 32 #[.int .i64 x375000_2, .int .i64 x375001_2, .slice Xo91 (x375002_2 ++ [(⟨a1, a2, 0⟩ : S95)]).length ko91, .slice Xo31 x375003_2.length ko31, .slice Xo55 x375004_2.length ko55] (0, 0) _ rfl (HM.bx 5 rfl) Try.underlying32 rfl (by kernel_rfl)) rfl ?_
         exact ⟨_, _, _, _, ER, (MD HM).pick [1, 2, 3, 0]⟩
def spec_l10Without.l0 : Nat → ByteArray → List (S95) → List (S95) → Int → Int → Option ((List (S95)))
 | 0, _, _, _, _, _ => none
 | k + 1, x1, x5, x9, x10, x11 => if x11 < x10 then (if 0 ≤ x11 then (if x11 < (x9.length : Int) then (if ((rd_T95 x9 x11).f0).toList = x1.toList then (spec_l10Without.l0 k x1 x5 x9 x10 (wrap64 (x11 + 1))) else (if x5.length < 3518437208883 then (spec_l10Without.l0 k x1 (x5 ++ [(⟨(rd_T95 x9 x11).f0, (rd_T95 x9 x11).f1, (rd_T95 x9 x11).f2⟩ : S95)]) x9 x10 (wrap64 (x11 + 1))) else (none))) else (none)) else (none)) else (some x5)
def spec_l10Without.f (k : Nat) (l0 : List (S95)) (a1 : ByteArray) : Option ((List (S95))) := spec_l10Without.l0 k a1 (([] : List (S95))) l0 (l0.length : Int) 0
theorem spec_l10Without.mono_l : ∀ k, (∀ y0 y1 y2 y3 y4, LeO (spec_l10Without.l0 k y0 y1 y2 y3 y4) (spec_l10Without.l0 (k + 1) y0 y1 y2 y3 y4))
 | 0 => fun _ _ _ _ _ r h => by simp [spec_l10Without.l0] at h
 | k + 1 => by
  have ih0 := spec_l10Without.mono_l k
  ·intro y0 y1 y2 y3 y4
   unfold spec_l10Without.l0
   repeat' first | (with_reducible first | exact ih0 _ _ _ _ _ | exact LeO.refl _ | exact LeO.none _ | refine LeO.ite ?_ ?_ | refine LeO.bind ?_ (fun _ => ?_)) | exact ih0 _ _ _ _ _ | exact LeO.none _ | refine LeO.ite ?_ ?_ | refine LeO.bind ?_ (fun _ => ?_)
theorem spec_l10Without.mono : ∀ a0 a1 k, LeO (spec_l10Without.f k a0 a1) (spec_l10Without.f (k + 1) a0 a1) := by
 intro a0 a1 k
 have ih0 := spec_l10Without.mono_l k
 unfold spec_l10Without.f
 repeat' first | (with_reducible first | exact ih0 _ _ _ _ _ | exact LeO.refl _ | exact LeO.none _ | refine LeO.ite ?_ ?_ | refine LeO.bind ?_ (fun _ => ?_)) | exact ih0 _ _ _ _ _ | exact LeO.none _ | refine LeO.ite ?_ ?_ | refine LeO.bind ?_ (fun _ => ?_)
set_option maxHeartbeats 8000000 in
set_option maxRecDepth 100000 in
theorem spec_l10Without.calls (k : Nat) (A0 : Option Addr) (c0 : Nat) (l0 : List (S95)) (a1 : ByteArray) (r : List (S95)) (w : World) (hr0 : Kd.C k95 w A0 l0.length l0) (hc0 : l0.length ≤ c0) (h : spec_l10Without.f k l0 a1 = some r) :
  Calls Try.prog 73 #[.slice A0 l0.length c0, .string a1] w fun e w' => ∃ v0_ : Value, e = .returned (v0_) ∧ Mem w [] w' [rowR k95 95 v0_ r] := by
 have hu95 := Try.underlying95
 have HR0 := Aside0.mk hr0
 have HC0 := Aside0.mk hc0
 clear hr0 hc0
 have HM := Mem.nil w
 have H := h
 clear h
 unfold spec_l10Without.f at H
 go_enter Try.func73, Try.ntmps73
 have H' := Aside0.mk H
 clear H
 go_wp2_with (first | ((with_reducible refine gate_dst (N := 8) rfl ?_); refine pL 8 k95 95 ([] : List (S95)) [] (Reps.none _ _) HM rfl ?_; clear HM; intro v414 w3 HM))
 go_loopg [5, 11] k (fun kq v5 v11 w' => ∃ (x5_1 : List (S95)) (x11_1 : Int), v11 = .int .i64 x11_1 ∧ Aside0 (spec_l10Without.l0 kq a1 x5_1 l0 (l0.length : Int) x11_1 = some r) ∧ Aside0 (kq ≤ k) ∧ Mem w [] w' [rowR k95 95 v5 x5_1])
 case atStart => exact ⟨((([] : List (S95)))), (0), RS, H', ⟨Nat.le_refl _⟩, (MD HM).pick [0]⟩
 case round =>
  clear H' HM
  obtain ⟨x5_1, x11_1, rfl, HA, HK1, HM⟩ := hrel
  cases gk with
  | zero => exact absurd HA.out (by simp [spec_l10Without.l0])
  | succ k1 =>
   have H := HA.out
   clear HA
   simp only [spec_l10Without.l0] at H
   go_upto_if 12 with (fail)
   replace H := IT H; rcases H with ⟨c4, H⟩ | ⟨c4, H⟩
   ·have c4b0 : decide (x11_1 < (l0.length : Int)) = true := decide_eq_true c4
    clear c4
    (first | rw [c4b0] | (simp only [i64_w, i32_w]; rw [c4b0]) | skip)
    replace H := GD H; obtain ⟨c5, H⟩ := H
    have c5b0 : decide (0 ≤ x11_1) = true := decide_eq_true c5
    clear c5
    replace H := GD H; obtain ⟨c6, H⟩ := H
    have c6b0 : decide (x11_1 < (l0.length : Int)) = true := decide_eq_true c6
    clear c6
    have p416 : 0 ≤ (x11_1 : Int) := of_decide_eq_true AS
    have q416 : (x11_1 : Int) < (l0.length : Int) := of_decide_eq_true AS
    obtain ⟨ad416, e416, hx416_0, hx416_1, hx416_2⟩ := at_T95 (HM.came HR0.out) x11_1 p416 q416
    cases e416
    replace p416 := eq_true p416
    replace q416 := eq_true q416
    go_upto_if 18 with (first | ((with_reducible refine gate_dst (N := 7) rfl ?_); refine pB 7 95 [.string (⟨#[]⟩ : ByteArray), .string (⟨#[]⟩ : ByteArray), .int .i64 0] HM rfl ?_; clear HM; intro gb417 w7 HM) | ((with_reducible refine gate_st (p := 7) rfl ?_); refine pS 1 7 0 [.string ((rd_T95 l0 x11_1).f0), .string ((rd_T95 l0 x11_1).f1), .int .i64 ((rd_T95 l0 x11_1).f2)] HM rfl rfl ?_; clear HM; intro w8 HM; obtain ⟨hcz9_0, hcz9_1, hcz9_2, hfz9_0, hfz9_1, hfz9_2⟩ := bk3 (HM.bx 1 rfl)))
    replace HM := nzM HM
    replace H := IT H; rcases H with ⟨c10, H⟩ | ⟨c10, H⟩
    ·have c10b0 : (((rd_T95 l0 x11_1).f0).toList == a1.toList) = true := beq_iff_eq.mpr c10
     have c10b1 : (((rd_T95 l0 x11_1).f0).toList != a1.toList) = false := bne_eq_false_iff_eq.mpr c10
     clear c10
     (first | rw [c10b0] | (simp only [i64_w, i32_w]; rw [c10b0]) | skip)
     have H' := Aside0.mk H
     clear H
     go_wp2
     go_roundg k1
     case measure => have := HK1.out; omega
     case rel => exact ⟨(x5_1), (wrap64 (x11_1 + 1)), RS, H', ⟨by have := HK1.out; omega⟩, (MD HM).pick [0]⟩
    ·have c10b0 : (((rd_T95 l0 x11_1).f0).toList == a1.toList) = false := beq_eq_false_iff_ne.mpr c10
     have c10b1 : (((rd_T95 l0 x11_1).f0).toList != a1.toList) = true := bne_iff_ne.mpr c10
     (first | rw [c10b0] | (simp only [i64_w, i32_w]; rw [c10b0]) | skip)
     replace H := GD H; obtain ⟨c11, H⟩ := H
     have LMc11 := Aside0.mk c11
     clear c11
     have H' := Aside0.mk H
     clear H
     go_wp2_with (first | ((with_reducible refine gate_dst (N := 21) rfl ?_); refine pL 21 k95 95 [(⟨(rd_T95 l0 x11_1).f0, (rd_T95 l0 x11_1).f1, (rd_T95 l0 x11_1).f2⟩ : S95)] [.string ((rd_T95 l0 x11_1).f0), .string ((rd_T95 l0 x11_1).f1), .int .i64 ((rd_T95 l0 x11_1).f2)] (Reps.c3 (show Kd.M k95 _ _ _ (⟨(rd_T95 l0 x11_1).f0, (rd_T95 l0 x11_1).f1, (rd_T95 l0 x11_1).f2⟩ : S95) [.string ((rd_T95 l0 x11_1).f0), .string ((rd_T95 l0 x11_1).f1), .int .i64 ((rd_T95 l0 x11_1).f2)] from (k95_mkM _ _ _ (⟨(rd_T95 l0 x11_1).f0, (rd_T95 l0 x11_1).f1, (rd_T95 l0 x11_1).f2⟩ : S95))) (Reps.none _ _)) HM rfl ?_; clear HM; intro v13 w12 HM; obtain ⟨Xv13, kv13, ev13⟩ := HM.rdR 2 rfl; subst ev13) | ((with_reducible refine gate_builtin (b := .append) (xs := #[.tmp 19, .tmp 21]) rfl ?_); refine pA 0 (.tmp 19) (.tmp 21) 30 95 k95 u5 x5_1 [(⟨(rd_T95 l0 x11_1).f0, (rd_T95 l0 x11_1).f1, (rd_T95 l0 x11_1).f2⟩ : S95)] Xv13 ([(⟨(rd_T95 l0 x11_1).f0, (rd_T95 l0 x11_1).f1, (rd_T95 l0 x11_1).f2⟩ : S95)].length) kv13 HM rfl Try.underlying30 info95 rfl (HM.CR 2 rfl).2.2 (by have h_ := LMc11.out; simp only [List.length_singleton]; omega) ?_; clear HM; intro v419 w14 HM))
     go_roundg k1
     case measure => have := HK1.out; omega
     case rel => exact ⟨((x5_1 ++ [(⟨(rd_T95 l0 x11_1).f0, (rd_T95 l0 x11_1).f1, (rd_T95 l0 x11_1).f2⟩ : S95)])), (wrap64 (x11_1 + 1)), RS, H', ⟨by have := HK1.out; omega⟩, (MD HM).pick [0]⟩
   ·have c4b0 : decide (x11_1 < (l0.length : Int)) = false := decide_eq_false c4
    clear c4
    (first | rw [c4b0] | (simp only [i64_w, i32_w]; rw [c4b0]) | skip)
    obtain rfl := Option.some.inj H
    go_wp2
    go_ret
    exact ⟨_, ER, (MD HM).pick [0]⟩
def spec_Drop.f (k : Nat) (a0_0 : Int) (a0_1 : Int) (l0_2 : List (S95)) (l0_3 : List (S95)) (l0_4 : List Int) (a1 : ByteArray) : Option (Int × Int × (List (S95)) × (List (S95)) × List Int × Bool) := (spec_ThreeOk.f k a0_0 a0_1 l0_2 l0_3 l0_4).bind fun t423 => (if t423 = true then ((spec_l10Copy.f a0_0 a0_1 l0_2 l0_3 l0_4).bind fun bt424 => ((spec_l10Without.f k bt424.2.2.1 a1).bind fun t436 => ((spec_l10Without.f k bt424.2.2.2.1 a1).bind fun t439 => (some (bt424.1, bt424.2.1, t436, t439, bt424.2.2.2.2, decide ((wrap64 ((t436.length : Int) + (t439.length : Int))) < (wrap64 ((l0_2.length : Int) + (l0_3.length : Int))))))))) else (some (0, 0, ([] : List (S95)), ([] : List (S95)), ([] : List Int), false)))
theorem spec_Drop.mono : ∀ a0 a1 a2 a3 a4 a5 k, LeO (spec_Drop.f k a0 a1 a2 a3 a4 a5) (spec_Drop.f (k + 1) a0 a1 a2 a3 a4 a5) := by
 intro a0 a1 a2 a3 a4 a5 k
 unfold spec_Drop.f
 repeat' first | (with_reducible first | exact spec_ThreeOk.mono _ _ _ _ _ _ | exact spec_l10Without.mono _ _ _ | exact LeO.refl _ | exact LeO.none _ | refine LeO.ite ?_ ?_ | refine LeO.bind ?_ (fun _ => ?_)) | exact spec_ThreeOk.mono _ _ _ _ _ _ | exact spec_l10Without.mono _ _ _ | exact LeO.none _ | refine LeO.ite ?_ ?_ | refine LeO.bind ?_ (fun _ => ?_)
def spec_Drop.T6 : Bool × List (List Nat × List Nat) := (true, [([], []), ([], []), ([1], [1]), ([2], [2]), ([], []), ([4], [4]), ([5], [5]), ([3, 6], [3, 6]), ([], []), ([8], [8]), ([9], [9]), ([], []), ([11], [11]), ([12], [12]), ([10, 13], [10, 13]), ([7, 14], [7, 14]), ([0, 0], [0]), ([15, 16, 0, 1, 2, 3, 4, 5, 6, 7, 8, 9, 10, 11, 12, 13, 14, 15, 16], [15])])
def spec_Drop.B6 : List Nat := [0, 0, 2, 6, 0, 16, 48, 126, 0, 256, 768, 0, 2048, 6144, 16128, 32766, 1, 131071]
theorem spec_Drop.tab6 : rtab .any (opsOf Try.f36 6) = spec_Drop.T6 := by kernel_rfl
theorem spec_Drop.bits6 : waitsOk spec_Drop.T6.2 spec_Drop.B6 = true := by kernel_rfl
set_option maxHeartbeats 8000000 in
set_option maxRecDepth 100000 in
theorem spec_Drop.calls (k : Nat) (a0_0 : Int) (a0_1 : Int) (A0_2 : Option Addr) (c0_2 : Nat) (l0_2 : List (S95)) (A0_3 : Option Addr) (c0_3 : Nat) (l0_3 : List (S95)) (A0_4 : Option Addr) (c0_4 : Nat) (l0_4 : List Int) (a1 : ByteArray) (r1 : Int) (r2 : Int) (r3 : List (S95)) (r4 : List (S95)) (r5 : List Int) (r6 : Bool) (w : World) (hr0_2 : Kd.C k95 w A0_2 l0_2.length l0_2) (hc0_2 : l0_2.length ≤ c0_2) (hr0_3 : Kd.C k95 w A0_3 l0_3.length l0_3) (hc0_3 : l0_3.length ≤ c0_3) (hr0_4 : Kd.C (Kd.int .i64) w A0_4 l0_4.length l0_4) (hc0_4 : l0_4.length ≤ c0_4) (h : spec_Drop.f k a0_0 a0_1 l0_2 l0_3 l0_4 a1 = some (r1, r2, r3, r4, r5, r6)) :
  Calls Try.prog 36 #[.agg #[.int .i64 a0_0, .int .i64 a0_1, .slice A0_2 l0_2.length c0_2, .slice A0_3 l0_3.length c0_3, .slice A0_4 l0_4.length c0_4], .string a1] w fun e w' => ∃ v2_ v3_ v4_ : Value, e = .returned (.tuple #[.agg #[.int .i64 r1, .int .i64 r2, v2_, v3_, v4_], .bool r6]) ∧ Mem w [] w' [rowR k95 95 v2_ r3, rowR k95 95 v3_ r4, rowR (Kd.int .i64) 3 v4_ r5] := by
 have hu32 := Try.underlying32
 have HR0_2 := Aside0.mk hr0_2
 have HC0_2 := Aside0.mk hc0_2
 clear hr0_2 hc0_2
 have HR0_3 := Aside0.mk hr0_3
 have HC0_3 := Aside0.mk hc0_3
 clear hr0_3 hc0_3
 have HR0_4 := Aside0.mk hr0_4
 have HC0_4 := Aside0.mk hc0_4
 clear hr0_4 hc0_4
 have HM := Mem.nil w
 have H := h
 clear h
 unfold spec_Drop.f at H
 go_enter Try.func36, Try.ntmps36
 replace H := BN H; obtain ⟨t423, A6, H⟩ := H
 go_upto_if 9 with (first | ((with_reducible refine gate_dst (N := 2) rfl ?_); refine pB 2 32 [.int .i64 a0_0, .int .i64 a0_1, .slice A0_2 l0_2.length c0_2, .slice A0_3 l0_3.length c0_3, .slice A0_4 l0_4.length c0_4] HM rfl ?_; clear HM; intro gb421 w3 HM) | ((with_reducible refine gate_dst (N := 4) rfl ?_); refine pB 4 32 [.int .i64 0, .int .i64 0, .slice none 0 0, .slice none 0 0, .slice none 0 0] HM rfl ?_; clear HM; intro gb422 w4 HM; obtain ⟨hcz5_0, hcz5_1, hcz5_2, hcz5_3, hcz5_4, hfz5_0, hfz5_1, hfz5_2, hfz5_3, hfz5_4⟩ := bk5 (HM.bx 0 rfl)) | ((with_reducible refine gate_callee (f := 32) rfl ?_); refine pC (some 8) rfl #[.agg #[.int .i64 a0_0, .int .i64 a0_1, .slice A0_2 l0_2.length c0_2, .slice A0_3 l0_3.length c0_3, .slice A0_4 l0_4.length c0_4]] rfl Try.func32 (spec_ThreeOk.calls k a0_0 a0_1 _ _ l0_2 _ _ l0_3 _ _ l0_4 t423 _ (HM.came HR0_2.out) HC0_2.out (HM.came HR0_3.out) HC0_3.out (HM.came HR0_4.out) HC0_4.out A6.out) ?_; rintro e w7 ⟨rfl, hR⟩; refine ⟨_, rfl, ?_⟩; replace HM := HM.call hR; clear hR))
 replace HM := nzM HM
 replace H := IB H
 rcases H with ⟨c8, H⟩ | ⟨c8, H⟩
 ·subst c8
  replace H := BN H; obtain ⟨⟨t424, t425, t426, t429, t432⟩, A10, H⟩ := H
  replace H := BN H; obtain ⟨t436, A18, H⟩ := H
  replace H := BN H; obtain ⟨t439, A23, H⟩ := H
  obtain ⟨hcz9_0, hcz9_1, hcz9_2, hcz9_3, hcz9_4, hfz9_0, hfz9_1, hfz9_2, hfz9_3, hfz9_4⟩ := bk5 (HM.bx 0 rfl)
  try go_wp2_with (first | ((with_reducible refine gate_callee (f := 48) rfl ?_); refine pC (some 12) rfl #[.agg #[.int .i64 a0_0, .int .i64 a0_1, .slice A0_2 l0_2.length c0_2, .slice A0_3 l0_3.length c0_3, .slice A0_4 l0_4.length c0_4]] rfl Try.func48 (spec_l10Copy.calls a0_0 a0_1 _ _ l0_2 _ _ l0_3 _ _ l0_4 t424 t425 t426 t429 t432 _ (HM.came HR0_2.out) HC0_2.out (HM.came HR0_3.out) HC0_3.out (HM.came HR0_4.out) HC0_4.out A10.out) ?_; rintro e w11 ⟨v427, v430, v433, rfl, hR⟩; refine ⟨_, rfl, ?_⟩; replace HM := HM.call hR; clear hR) | ((with_reducible refine gate_dst (N := 6) rfl ?_); refine pB 6 32 [.int .i64 0, .int .i64 0, .slice none 0 0, .slice none 0 0, .slice none 0 0] HM rfl ?_; clear HM; intro gb435 w12 HM; obtain ⟨Xo13, ko13, eo13⟩ := HM.rdR 2 rfl; subst eo13; obtain ⟨Xo14, ko14, eo14⟩ := HM.rdR 3 rfl; subst eo14; obtain ⟨Xo15, ko15, eo15⟩ := HM.rdR 4 rfl; subst eo15) | ((with_reducible refine gate_st (p := 6) rfl ?_); refine pS 5 6 0 [.int .i64 t424, .int .i64 t425, .slice Xo13 t426.length ko13, .slice Xo14 t429.length ko14, .slice Xo15 t432.length ko15] HM rfl rfl ?_; clear HM; intro w16 HM; obtain ⟨hcz17_0, hcz17_1, hcz17_2, hcz17_3, hcz17_4, hfz17_0, hfz17_1, hfz17_2, hfz17_3, hfz17_4⟩ := bk5 (HM.bx 5 rfl)) | ((with_reducible refine gate_callee (f := 73) rfl ?_); refine pC (some 16) rfl #[.slice Xo13 t426.length ko13, .string a1] rfl Try.func73 (spec_l10Without.calls k _ _ t426 a1 t436 _ (HM.CR 2 rfl).2.2 (HM.CR 2 rfl).2.1 A18.out) ?_; rintro e w19 ⟨v437, rfl, hR⟩; refine ⟨_, rfl, ?_⟩; replace HM := HM.call hR; clear hR; obtain ⟨Xo20, ko20, eo20⟩ := HM.rdR 6 rfl; subst eo20) | ((with_reducible refine gate_st (p := 17) rfl ?_); refine pS 5 17 2 [.slice Xo20 t436.length ko20] HM rfl rfl ?_; clear HM; intro w21 HM; obtain ⟨hcz22_0, hcz22_1, hcz22_2, hcz22_3, hcz22_4, hfz22_0, hfz22_1, hfz22_2, hfz22_3, hfz22_4⟩ := bk5 (HM.bx 5 rfl)) | ((with_reducible refine gate_callee (f := 73) rfl ?_); refine pC (some 21) rfl #[.slice Xo14 t429.length ko14, .string a1] rfl Try.func73 (spec_l10Without.calls k _ _ t429 a1 t439 _ (HM.CR 3 rfl).2.2 (HM.CR 3 rfl).2.1 A23.out) ?_; rintro e w24 ⟨v440, rfl, hR⟩; refine ⟨_, rfl, ?_⟩; replace HM := HM.call hR; clear hR; obtain ⟨Xo25, ko25, eo25⟩ := HM.rdR 7 rfl; subst eo25) | ((with_reducible refine gate_st (p := 22) rfl ?_); refine pS 5 22 3 [.slice Xo25 t439.length ko25] HM rfl rfl ?_; clear HM; intro w26 HM))
  refine RGN 18 [0, 1, 2, 3, 4, 5, 6, 7, 8, 9, 10, 11, 12, 13, 14, 15, 16, 17] (fun a0 b a w' => a = putSel a0 b [(0, 23, .agg #[.int .i64 t424, .int .i64 t425, .slice Xo20 t436.length ko20, .slice Xo25 t439.length ko25, .slice Xo15 t432.length ko15]), (1, 24, .pointer (some ⟨gb435, 2, none⟩)), (2, 25, .slice Xo20 t436.length ko20), (3, 26, .int .i64 (t436.length : Int)), (4, 27, .pointer (some ⟨gb435, 3, none⟩)), (5, 28, .slice Xo25 t439.length ko25), (6, 29, .int .i64 (t439.length : Int)), (7, 30, .int .i64 (wrap64 ((t436.length : Int) + (t439.length : Int)))), (8, 31, .pointer (some ⟨gb421, 2, none⟩)), (9, 32, .slice A0_2 l0_2.length c0_2), (10, 33, .int .i64 (l0_2.length : Int)), (11, 34, .pointer (some ⟨gb421, 3, none⟩)), (12, 35, .slice A0_3 l0_3.length c0_3), (13, 36, .int .i64 (l0_3.length : Int)), (14, 37, .int .i64 (wrap64 ((l0_2.length : Int) + (l0_3.length : Int)))), (15, 38, .bool (decide ((wrap64 ((t436.length : Int) + (t439.length : Int))) < (wrap64 ((l0_2.length : Int) + (l0_3.length : Int)))))), (17, 5, .bool (decide ((wrap64 ((t436.length : Int) + (t439.length : Int))) < (wrap64 ((l0_2.length : Int) + (l0_3.length : Int))))))] ∧ Mem w [] w' [box 32 gb421 [.int .i64 a0_0, .int .i64 a0_1, .slice A0_2 l0_2.length c0_2, .slice A0_3 l0_3.length c0_3, .slice A0_4 l0_4.length c0_4], sel (b 16) (box 32 gb422 [.int .i64 t424, .int .i64 t425, .slice Xo20 t436.length ko20, .slice Xo25 t439.length ko25, .slice Xo15 t432.length ko15]) (box 32 gb422 [.int .i64 0, .int .i64 0, .slice none 0 0, .slice none 0 0, .slice none 0 0]), rowR k95 95 (.slice Xo13 t426.length ko13) t426, rowR k95 95 (.slice Xo14 t429.length ko14) t429, rowR (Kd.int .i64) 3 (.slice Xo15 t432.length ko15) t432, box 32 gb435 [.int .i64 t424, .int .i64 t425, .slice Xo20 t436.length ko20, .slice Xo25 t439.length ko25, .slice Xo15 t432.length ko15], rowR k95 95 (.slice Xo20 t436.length ko20) t436, rowR k95 95 (.slice Xo25 t439.length ko25) t439]) spec_Drop.tab6 spec_Drop.bits6 ?_ ?_ ?_
  ·exact ⟨PS0' rfl _, (HM.drew).pick [0, 1, 2, 3, 4, 5, 6, 7]⟩
  ·clear HM
   refine steps_cons ?_ ?_
   ·rintro b a w ⟨ha, HM⟩ hb hon hoff
    refine ⟨_, rfl, fun K hK => ?_⟩
    obtain ⟨hcz33_0, hcz33_1, hcz33_2, hcz33_3, hcz33_4, hfz33_0, hfz33_1, hfz33_2, hfz33_3, hfz33_4⟩ := bk5 (HM.bx 5 rfl)
    have e6 := POF ha 6
    replace ha := Aside0.mk ha
    exact VL (.agg #[.int .i64 t424, .int .i64 t425, .slice Xo20 t436.length ko20, .slice Xo25 t439.length ko25, .slice Xo15 t432.length ko15]) (hK.out _ _ ⟨PUT ha 0 hb, HM⟩)
   refine steps_cons ?_ ?_
   ·rintro b a w ⟨ha, HM⟩ hb hon hoff
    refine ⟨_, rfl, fun K hK => ?_⟩
    have e6 := POF ha 6
    replace ha := Aside0.mk ha
    exact VL (.pointer (some ⟨gb435, 2, none⟩)) (hK.out _ _ ⟨PUT ha 1 hb, HM⟩)
   refine steps_cons ?_ ?_
   ·rintro b a w ⟨ha, HM⟩ hb hon hoff
    refine ⟨_, rfl, fun K hK => ?_⟩
    obtain ⟨hcz34_0, hcz34_1, hcz34_2, hcz34_3, hcz34_4, hfz34_0, hfz34_1, hfz34_2, hfz34_3, hfz34_4⟩ := bk5 (HM.bx 5 rfl)
    have e24 := PON ha 1 (hon 1 (by kernel_rfl))
    replace ha := Aside0.mk ha
    exact VL (.slice Xo20 t436.length ko20) (hK.out _ _ ⟨PUT ha 2 hb, HM⟩)
   refine steps_cons ?_ ?_
   ·rintro b a w ⟨ha, HM⟩ hb hon hoff
    refine ⟨_, rfl, fun K hK => ?_⟩
    have e25 := PON ha 2 (hon 2 (by kernel_rfl))
    replace ha := Aside0.mk ha
    exact VL (.int .i64 (t436.length : Int)) (hK.out _ _ ⟨PUT ha 3 hb, HM⟩)
   refine steps_cons ?_ ?_
   ·rintro b a w ⟨ha, HM⟩ hb hon hoff
    refine ⟨_, rfl, fun K hK => ?_⟩
    have e6 := POF ha 6
    replace ha := Aside0.mk ha
    exact VL (.pointer (some ⟨gb435, 3, none⟩)) (hK.out _ _ ⟨PUT ha 4 hb, HM⟩)
   refine steps_cons ?_ ?_
   ·rintro b a w ⟨ha, HM⟩ hb hon hoff
    refine ⟨_, rfl, fun K hK => ?_⟩
    obtain ⟨hcz35_0, hcz35_1, hcz35_2, hcz35_3, hcz35_4, hfz35_0, hfz35_1, hfz35_2, hfz35_3, hfz35_4⟩ := bk5 (HM.bx 5 rfl)
    have e27 := PON ha 4 (hon 4 (by kernel_rfl))
    replace ha := Aside0.mk ha
    exact VL (.slice Xo25 t439.length ko25) (hK.out _ _ ⟨PUT ha 5 hb, HM⟩)
   refine steps_cons ?_ ?_
   ·rintro b a w ⟨ha, HM⟩ hb hon hoff
    refine ⟨_, rfl, fun K hK => ?_⟩
    have e28 := PON ha 5 (hon 5 (by kernel_rfl))
    replace ha := Aside0.mk ha
    exact VL (.int .i64 (t439.length : Int)) (hK.out _ _ ⟨PUT ha 6 hb, HM⟩)
   refine steps_cons ?_ ?_
   ·rintro b a w ⟨ha, HM⟩ hb hon hoff
    refine ⟨_, rfl, fun K hK => ?_⟩
    have e26 := PON ha 3 (hon 3 (by kernel_rfl))
    have e29 := PON ha 6 (hon 6 (by kernel_rfl))
    replace ha := Aside0.mk ha
    exact VL (.int .i64 (wrap64 ((t436.length : Int) + (t439.length : Int)))) (hK.out _ _ ⟨PUT ha 7 hb, HM⟩)
   refine steps_cons ?_ ?_
   ·rintro b a w ⟨ha, HM⟩ hb hon hoff
    refine ⟨_, rfl, fun K hK => ?_⟩
    have e2 := POF ha 2
    replace ha := Aside0.mk ha
    exact VL (.pointer (some ⟨gb421, 2, none⟩)) (hK.out _ _ ⟨PUT ha 8 hb, HM⟩)
   refine steps_cons ?_ ?_
   ·rintro b a w ⟨ha, HM⟩ hb hon hoff
    refine ⟨_, rfl, fun K hK => ?_⟩
    obtain ⟨hcz36_0, hcz36_1, hcz36_2, hcz36_3, hcz36_4, hfz36_0, hfz36_1, hfz36_2, hfz36_3, hfz36_4⟩ := bk5 (HM.bx 0 rfl)
    have e31 := PON ha 8 (hon 8 (by kernel_rfl))
    replace ha := Aside0.mk ha
    exact VL (.slice A0_2 l0_2.length c0_2) (hK.out _ _ ⟨PUT ha 9 hb, HM⟩)
   refine steps_cons ?_ ?_
   ·rintro b a w ⟨ha, HM⟩ hb hon hoff
    refine ⟨_, rfl, fun K hK => ?_⟩
    have e32 := PON ha 9 (hon 9 (by kernel_rfl))
    replace ha := Aside0.mk ha
    exact VL (.int .i64 (l0_2.length : Int)) (hK.out _ _ ⟨PUT ha 10 hb, HM⟩)
   refine steps_cons ?_ ?_
   ·rintro b a w ⟨ha, HM⟩ hb hon hoff
    refine ⟨_, rfl, fun K hK => ?_⟩
    have e2 := POF ha 2
    replace ha := Aside0.mk ha
    exact VL (.pointer (some ⟨gb421, 3, none⟩)) (hK.out _ _ ⟨PUT ha 11 hb, HM⟩)
   refine steps_cons ?_ ?_
   ·rintro b a w ⟨ha, HM⟩ hb hon hoff
    refine ⟨_, rfl, fun K hK => ?_⟩
    obtain ⟨hcz37_0, hcz37_1, hcz37_2, hcz37_3, hcz37_4, hfz37_0, hfz37_1, hfz37_2, hfz37_3, hfz37_4⟩ := bk5 (HM.bx 0 rfl)
    have e34 := PON ha 11 (hon 11 (by kernel_rfl))
    replace ha := Aside0.mk ha
    exact VL (.slice A0_3 l0_3.length c0_3) (hK.out _ _ ⟨PUT ha 12 hb, HM⟩)
   refine steps_cons ?_ ?_
   ·rintro b a w ⟨ha, HM⟩ hb hon hoff
    refine ⟨_, rfl, fun K hK => ?_⟩
    have e35 := PON ha 12 (hon 12 (by kernel_rfl))
    replace ha := Aside0.mk ha
    exact VL (.int .i64 (l0_3.length : Int)) (hK.out _ _ ⟨PUT ha 13 hb, HM⟩)
   refine steps_cons ?_ ?_
   ·rintro b a w ⟨ha, HM⟩ hb hon hoff
    refine ⟨_, rfl, fun K hK => ?_⟩
    have e33 := PON ha 10 (hon 10 (by kernel_rfl))
    have e36 := PON ha 13 (hon 13 (by kernel_rfl))
    replace ha := Aside0.mk ha
    exact VL (.int .i64 (wrap64 ((l0_2.length : Int) + (l0_3.length : Int)))) (hK.out _ _ ⟨PUT ha 14 hb, HM⟩)
   refine steps_cons ?_ ?_
   ·rintro b a w ⟨ha, HM⟩ hb hon hoff
    refine ⟨_, rfl, fun K hK => ?_⟩
    have e30 := PON ha 7 (hon 7 (by kernel_rfl))
    have e37 := PON ha 14 (hon 14 (by kernel_rfl))
    replace ha := Aside0.mk ha
    exact VL (.bool (decide ((wrap64 ((t436.length : Int) + (t439.length : Int))) < (wrap64 ((l0_2.length : Int) + (l0_3.length : Int)))))) (hK.out _ _ ⟨PUT ha 15 hb, HM⟩)
   refine steps_cons ?_ ?_
   ·rintro b a w ⟨ha, HM⟩ hb hon hoff
    refine ⟨_, rfl, fun K hK => ?_⟩
    replace HM := HM.sF 1 rfl hb
    have e4 := POF ha 4
    have e23 := PON ha 0 (hon 0 (by kernel_rfl))
    replace ha := Aside0.mk ha
    refine ST (eS 1 4 0 [.int .i64 t424, .int .i64 t425, .slice Xo20 t436.length ko20, .slice Xo25 t439.length ko25, .slice Xo15 t432.length ko15] HM rfl rfl ?_ (hp := (eval_of e4)) (hx := (by rw [eval_of e23]; rfl)))
    clear HM
    intro w38 HM
    exact hK.out _ _ ⟨PUS ha, (HM).pick [0, 1, 2, 3, 4, 5, 6, 7]⟩
   refine steps_cons ?_ ?_
   ·rintro b a w ⟨ha, HM⟩ hb hon hoff
    refine ⟨_, rfl, fun K hK => ?_⟩
    have e38 := PON ha 15 (hon 15 (by kernel_rfl))
    replace ha := Aside0.mk ha
    exact VL (.bool (decide ((wrap64 ((t436.length : Int) + (t439.length : Int))) < (wrap64 ((l0_2.length : Int) + (l0_3.length : Int)))))) (hK.out _ _ ⟨PUT ha 16 hb, HM⟩)
   exact steps_nil
  rintro _ w39 ⟨rfl, HM⟩
  replace HM := HM.sT 1 rfl rfl
  simp only [putSel, if_true, Act.put, List.setIfInBounds_toArray, List.set_cons_zero, List.set_cons_succ, gt_iff_lt, ge_iff_le]
  simp only [Option.some.injEq, Prod.mk.injEq] at H
  obtain ⟨rfl, rfl, rfl, rfl, rfl, rfl⟩ := H
  go_wp2
  refine bodyPost_ret (results_ct rfl _ _ gb422 32 #[.int .i64 t424, .int .i64 t425, .slice Xo20 t436.length ko20, .slice Xo25 t439.length ko25, .slice Xo15 t432.length ko15] (0, 0) _ rfl (HM.bx 1 rfl) Try.underlying32 rfl (by kernel_rfl)) rfl ?_
  exact ⟨_, _, _, ER, (MD HM).pick [6, 7, 4]⟩
 ·subst c8
  simp only [Option.some.injEq, Prod.mk.injEq] at H
  obtain ⟨rfl, rfl, rfl, rfl, rfl, rfl⟩ := H
  go_wp2_with (first | ((with_reducible refine gate_st (p := 4) rfl ?_); refine pS 1 4 0 [.int .i64 0, .int .i64 0, .slice none 0 0, .slice none 0 0, .slice none 0 0] HM rfl rfl ?_; clear HM; intro w40 HM; replace HM := HM.nl k95 95; replace HM := HM.nl k95 95; replace HM := HM.nl (Kd.int .i64) 3))
  refine bodyPost_ret (results_ct rfl _ _ gb422 32 #[.int .i64 0, .int .i64 0, .slice none 0 0, .slice none 0 0, .slice none 0 0] (0, 0) _ rfl (HM.bx 1 rfl) Try.underlying32 rfl (by kernel_rfl)) rfl ?_
  exact ⟨_, _, _, ER, (MD HM).pick [2, 3, 4]⟩
mutual
def spec_OpDo.j0 : Nat → Bool → Int → Int → List (S95) → List (S95) → List Int → Int → ByteArray → ByteArray → Option (Int × Int × (List (S95)) × (List (S95)) × List Int × Bool × ByteArray × ByteArray × Bool)
 | 0, _, _, _, _, _, _, _, _, _ => none
 | k + 1, x25, x446000, x446001, x446002, x446003, x446004, x447000, x447001, x447002 => if x25 = true then (some (0, 0, ([] : List (S95)), ([] : List (S95)), ([] : List Int), false, (⟨#[]⟩ : ByteArray), (⟨#[]⟩ : ByteArray), false)) else (if x447000 = 1 then ((spec_Get.f k x446000 x446001 x446002 x446003 x446004 x447001).bind fun bt451 => (some (bt451.1, bt451.2.1, bt451.2.2.1, bt451.2.2.2.1, bt451.2.2.2.2.1, bt451.2.2.2.2.2.2, bt451.2.2.2.2.2.1, (⟨#[]⟩ : ByteArray), true))) else (if x447000 = 2 then ((spec_Put.f k x446000 x446001 x446002 x446003 x446004 x447001 x447002).bind fun bt465 => (spec_OpDo.l0 k bt465.2.2.2.2.2.1 (bt465.2.2.2.2.2.1.length : Int) 0 bt465.1 bt465.2.1 bt465.2.2.1 bt465.2.2.2.1 bt465.2.2.2.2.1 true (⟨#[]⟩ : ByteArray) (⟨#[]⟩ : ByteArray))) else ((spec_Drop.f k x446000 x446001 x446002 x446003 x446004 x447001).bind fun bt483 => (some (bt483.1, bt483.2.1, bt483.2.2.1, bt483.2.2.2.1, bt483.2.2.2.2.1, bt483.2.2.2.2.2, (⟨#[]⟩ : ByteArray), (⟨#[]⟩ : ByteArray), true)))))
def spec_OpDo.l0 : Nat → List ByteArray → Int → Int → Int → Int → List (S95) → List (S95) → List Int → Bool → ByteArray → ByteArray → Option (Int × Int × (List (S95)) × (List (S95)) × List Int × Bool × ByteArray × ByteArray × Bool)
 | 0, _, _, _, _, _, _, _, _, _, _, _ => none
 | k + 1, x57, x58, x59, x481000, x481001, x481002, x481003, x481004, x482000, x482001, x482002 => if x59 < x58 then (if 0 ≤ x59 then (if x59 < (x57.length : Int) then (spec_OpDo.l0 k x57 x58 (wrap64 (x59 + 1)) x481000 x481001 x481002 x481003 x481004 x482000 x482001 (rdOf ByteArray.empty x57 x59)) else (none)) else (none)) else (some (x481000, x481001, x481002, x481003, x481004, x482000, x482001, x482002, true))
end
def spec_OpDo.f (k : Nat) (a0_0 : Int) (a0_1 : Int) (l0_2 : List (S95)) (l0_3 : List (S95)) (l0_4 : List Int) (a1_0 : Int) (a1_1 : ByteArray) (a1_2 : ByteArray) : Option (Int × Int × (List (S95)) × (List (S95)) × List Int × Bool × ByteArray × ByteArray × Bool) := (spec_ThreeOk.f k a0_0 a0_1 l0_2 l0_3 l0_4).bind fun t449 => (if t449 = true then ((spec_OpOk.f k a1_0 a1_1 a1_2).bind fun t450 => (spec_OpDo.j0 k (!t450) a0_0 a0_1 l0_2 l0_3 l0_4 a1_0 a1_1 a1_2)) else (spec_OpDo.j0 k true a0_0 a0_1 l0_2 l0_3 l0_4 a1_0 a1_1 a1_2))
theorem spec_OpDo.mono_l : ∀ k, (∀ y0 y1 y2 y3 y4 y5 y6 y7 y8, LeO (spec_OpDo.j0 k y0 y1 y2 y3 y4 y5 y6 y7 y8) (spec_OpDo.j0 (k + 1) y0 y1 y2 y3 y4 y5 y6 y7 y8)) ∧ (∀ y0 y1 y2 y3 y4 y5 y6 y7 y8 y9 y10, LeO (spec_OpDo.l0 k y0 y1 y2 y3 y4 y5 y6 y7 y8 y9 y10) (spec_OpDo.l0 (k + 1) y0 y1 y2 y3 y4 y5 y6 y7 y8 y9 y10))
 | 0 => ⟨fun _ _ _ _ _ _ _ _ _ r h => by simp [spec_OpDo.j0] at h, fun _ _ _ _ _ _ _ _ _ _ _ r h => by simp [spec_OpDo.l0] at h⟩
 | k + 1 => by
  obtain ⟨ih0, ih1⟩ := spec_OpDo.mono_l k
  refine ⟨?_, ?_⟩
  ·intro y0 y1 y2 y3 y4 y5 y6 y7 y8
   unfold spec_OpDo.j0
   repeat' first | (with_reducible first | exact ih0 _ _ _ _ _ _ _ _ _ | exact ih1 _ _ _ _ _ _ _ _ _ _ _ | exact spec_Drop.mono _ _ _ _ _ _ _ | exact spec_Get.mono _ _ _ _ _ _ _ | exact spec_OpOk.mono _ _ _ _ | exact spec_Put.mono _ _ _ _ _ _ _ _ | exact spec_ThreeOk.mono _ _ _ _ _ _ | exact LeO.refl _ | exact LeO.none _ | refine LeO.ite ?_ ?_ | refine LeO.bind ?_ (fun _ => ?_)) | exact ih0 _ _ _ _ _ _ _ _ _ | exact ih1 _ _ _ _ _ _ _ _ _ _ _ | exact spec_Drop.mono _ _ _ _ _ _ _ | exact spec_Get.mono _ _ _ _ _ _ _ | exact spec_OpOk.mono _ _ _ _ | exact spec_Put.mono _ _ _ _ _ _ _ _ | exact spec_ThreeOk.mono _ _ _ _ _ _ | exact LeO.none _ | refine LeO.ite ?_ ?_ | refine LeO.bind ?_ (fun _ => ?_)
  ·intro y0 y1 y2 y3 y4 y5 y6 y7 y8 y9 y10
   unfold spec_OpDo.l0
   repeat' first | (with_reducible first | exact ih0 _ _ _ _ _ _ _ _ _ | exact ih1 _ _ _ _ _ _ _ _ _ _ _ | exact spec_Drop.mono _ _ _ _ _ _ _ | exact spec_Get.mono _ _ _ _ _ _ _ | exact spec_OpOk.mono _ _ _ _ | exact spec_Put.mono _ _ _ _ _ _ _ _ | exact spec_ThreeOk.mono _ _ _ _ _ _ | exact LeO.refl _ | exact LeO.none _ | refine LeO.ite ?_ ?_ | refine LeO.bind ?_ (fun _ => ?_)) | exact ih0 _ _ _ _ _ _ _ _ _ | exact ih1 _ _ _ _ _ _ _ _ _ _ _ | exact spec_Drop.mono _ _ _ _ _ _ _ | exact spec_Get.mono _ _ _ _ _ _ _ | exact spec_OpOk.mono _ _ _ _ | exact spec_Put.mono _ _ _ _ _ _ _ _ | exact spec_ThreeOk.mono _ _ _ _ _ _ | exact LeO.none _ | refine LeO.ite ?_ ?_ | refine LeO.bind ?_ (fun _ => ?_)
theorem spec_OpDo.mono : ∀ a0 a1 a2 a3 a4 a5 a6 a7 k, LeO (spec_OpDo.f k a0 a1 a2 a3 a4 a5 a6 a7) (spec_OpDo.f (k + 1) a0 a1 a2 a3 a4 a5 a6 a7) := by
 intro a0 a1 a2 a3 a4 a5 a6 a7 k
 obtain ⟨ih0, ih1⟩ := spec_OpDo.mono_l k
 unfold spec_OpDo.f
 repeat' first | (with_reducible first | exact ih0 _ _ _ _ _ _ _ _ _ | exact ih1 _ _ _ _ _ _ _ _ _ _ _ | exact spec_Drop.mono _ _ _ _ _ _ _ | exact spec_Get.mono _ _ _ _ _ _ _ | exact spec_OpOk.mono _ _ _ _ | exact spec_Put.mono _ _ _ _ _ _ _ _ | exact spec_ThreeOk.mono _ _ _ _ _ _ | exact LeO.refl _ | exact LeO.none _ | refine LeO.ite ?_ ?_ | refine LeO.bind ?_ (fun _ => ?_)) | exact ih0 _ _ _ _ _ _ _ _ _ | exact ih1 _ _ _ _ _ _ _ _ _ _ _ | exact spec_Drop.mono _ _ _ _ _ _ _ | exact spec_Get.mono _ _ _ _ _ _ _ | exact spec_OpOk.mono _ _ _ _ | exact spec_Put.mono _ _ _ _ _ _ _ _ | exact spec_ThreeOk.mono _ _ _ _ _ _ | exact LeO.none _ | refine LeO.ite ?_ ?_ | refine LeO.bind ?_ (fun _ => ?_)
def spec_OpDo.T15 : Bool × List (List Nat × List Nat) := (true, [([], []), ([], []), ([0, 0], [0]), ([1, 2, 0, 1, 2], [1]), ([3, 0, 1, 2, 3], [])])
def spec_OpDo.B15 : List Nat := [0, 0, 1, 7, 15]
theorem spec_OpDo.tab15 : rtab .any (opsOf Try.f8 15) = spec_OpDo.T15 := by kernel_rfl
theorem spec_OpDo.bits15 : waitsOk spec_OpDo.T15.2 spec_OpDo.B15 = true := by kernel_rfl
set_option maxHeartbeats 8000000 in
set_option maxRecDepth 100000 in
theorem spec_OpDo.calls (k : Nat) (a0_0 : Int) (a0_1 : Int) (A0_2 : Option Addr) (c0_2 : Nat) (l0_2 : List (S95)) (A0_3 : Option Addr) (c0_3 : Nat) (l0_3 : List (S95)) (A0_4 : Option Addr) (c0_4 : Nat) (l0_4 : List Int) (a1_0 : Int) (a1_1 : ByteArray) (a1_2 : ByteArray) (r1 : Int) (r2 : Int) (r3 : List (S95)) (r4 : List (S95)) (r5 : List Int) (r6 : Bool) (r7 : ByteArray) (r8 : ByteArray) (r9 : Bool) (w : World) (hr0_2 : Kd.C k95 w A0_2 l0_2.length l0_2) (hc0_2 : l0_2.length ≤ c0_2) (hr0_3 : Kd.C k95 w A0_3 l0_3.length l0_3) (hc0_3 : l0_3.length ≤ c0_3) (hr0_4 : Kd.C (Kd.int .i64) w A0_4 l0_4.length l0_4) (hc0_4 : l0_4.length ≤ c0_4) (h : spec_OpDo.f k a0_0 a0_1 l0_2 l0_3 l0_4 a1_0 a1_1 a1_2 = some (r1, r2, r3, r4, r5, r6, r7, r8, r9)) :
  Calls Try.prog 8 #[.agg #[.int .i64 a0_0, .int .i64 a0_1, .slice A0_2 l0_2.length c0_2, .slice A0_3 l0_3.length c0_3, .slice A0_4 l0_4.length c0_4], .agg #[.int .i64 a1_0, .string a1_1, .string a1_2]] w fun e w' => ∃ v2_ v3_ v4_ : Value, e = .returned (.tuple #[.agg #[.int .i64 r1, .int .i64 r2, v2_, v3_, v4_], .agg #[.bool r6, .string r7, .string r8], .bool r9]) ∧ Mem w [] w' [rowR k95 95 v2_ r3, rowR k95 95 v3_ r4, row (Kd.int .i64) 3 v4_ r5] := by
 have hu32 := Try.underlying32
 have hu38 := Try.underlying38
 have hu34 := Try.underlying34
 have HR0_2 := Aside0.mk hr0_2
 have HC0_2 := Aside0.mk hc0_2
 clear hr0_2 hc0_2
 have HR0_3 := Aside0.mk hr0_3
 have HC0_3 := Aside0.mk hc0_3
 clear hr0_3 hc0_3
 have HR0_4 := Aside0.mk hr0_4
 have HC0_4 := Aside0.mk hc0_4
 clear hr0_4 hc0_4
 have HM := Mem.nil w
 have H := h
 clear h
 unfold spec_OpDo.f at H
 go_enter Try.func8, Try.ntmps8
 have HC7 := Aside0.mk H
 clear H
 go_upto_region 1 with (first | ((with_reducible refine gate_dst (N := 2) rfl ?_); refine pB 2 32 [.int .i64 a0_0, .int .i64 a0_1, .slice A0_2 l0_2.length c0_2, .slice A0_3 l0_3.length c0_3, .slice A0_4 l0_4.length c0_4] HM rfl ?_; clear HM; intro gb445 w3 HM) | ((with_reducible refine gate_dst (N := 3) rfl ?_); refine pB 3 38 [.int .i64 a1_0, .string a1_1, .string a1_2] HM rfl ?_; clear HM; intro gb446 w4 HM) | ((with_reducible refine gate_dst (N := 4) rfl ?_); refine pB 4 32 [.int .i64 0, .int .i64 0, .slice none 0 0, .slice none 0 0, .slice none 0 0] HM rfl ?_; clear HM; intro gb447 w5 HM) | ((with_reducible refine gate_dst (N := 5) rfl ?_); refine pB 5 34 [.bool false, .string (⟨#[]⟩ : ByteArray), .string (⟨#[]⟩ : ByteArray)] HM rfl ?_; clear HM; intro gb448 w6 HM))
 replace HM := nzM HM
 go_cut [25] (fun v25 wc => ∃ (kq : Nat) (x25_6 : Bool), v25 = .bool x25_6 ∧ Aside0 (spec_OpDo.j0 kq x25_6 a0_0 a0_1 l0_2 l0_3 l0_4 a1_0 a1_1 a1_2 = some (r1, r2, r3, r4, r5, r6, r7, r8, r9)) ∧ Aside0 (kq ≤ k) ∧ Mem w [] wc [box 32 gb445 [.int .i64 a0_0, .int .i64 a0_1, .slice A0_2 l0_2.length c0_2, .slice A0_3 l0_3.length c0_3, .slice A0_4 l0_4.length c0_4], box 38 gb446 [.int .i64 a1_0, .string a1_1, .string a1_2], box 32 gb447 [.int .i64 0, .int .i64 0, .slice none 0 0, .slice none 0 0, .slice none 0 0], box 34 gb448 [.bool false, .string (⟨#[]⟩ : ByteArray), .string (⟨#[]⟩ : ByteArray)]])
 case first =>
  have H := HC7.out
  clear HC7
  replace H := BN H; obtain ⟨t449, A9, H⟩ := H
  replace H := IB H
  rcases H with ⟨c11, H⟩ | ⟨c11, H⟩
  ·subst c11
   replace H := BN H; obtain ⟨t450, A13, H⟩ := H
   have H' := Aside0.mk H
   clear H
   obtain ⟨hcz8_0, hcz8_1, hcz8_2, hcz8_3, hcz8_4, hfz8_0, hfz8_1, hfz8_2, hfz8_3, hfz8_4⟩ := bk5 (HM.bx 0 rfl)
   go_wp2_with (first | ((with_reducible refine gate_callee (f := 32) rfl ?_); refine pC (some 19) rfl #[.agg #[.int .i64 a0_0, .int .i64 a0_1, .slice A0_2 l0_2.length c0_2, .slice A0_3 l0_3.length c0_3, .slice A0_4 l0_4.length c0_4]] rfl Try.func32 (spec_ThreeOk.calls k a0_0 a0_1 _ _ l0_2 _ _ l0_3 _ _ l0_4 true _ (HM.came HR0_2.out) HC0_2.out (HM.came HR0_3.out) HC0_3.out (HM.came HR0_4.out) HC0_4.out A9.out) ?_; rintro e w10 ⟨rfl, hR⟩; refine ⟨_, rfl, ?_⟩; replace HM := HM.call hR; clear hR; obtain ⟨hcz12_0, hcz12_1, hcz12_2, hfz12_0, hfz12_1, hfz12_2⟩ := bk3 (HM.bx 1 rfl)) | ((with_reducible refine gate_callee (f := 33) rfl ?_); refine pC (some 23) rfl #[.agg #[.int .i64 a1_0, .string a1_1, .string a1_2]] rfl Try.func33 (spec_OpOk.calls k a1_0 a1_1 a1_2 t450 _ A13.out) ?_; rintro e w14 ⟨rfl, hR⟩; refine ⟨_, rfl, ?_⟩; replace HM := HM.call hR; clear hR))
   go_meet
   case rel => exact ⟨_, (!t450), RS, H', ⟨by first | omega | exact Nat.le_refl _⟩, (MD HM).pick [0, 1, 2, 3]⟩
  ·subst c11
   have H' := Aside0.mk H
   clear H
   obtain ⟨hcz8_0, hcz8_1, hcz8_2, hcz8_3, hcz8_4, hfz8_0, hfz8_1, hfz8_2, hfz8_3, hfz8_4⟩ := bk5 (HM.bx 0 rfl)
   go_wp2_with (first | ((with_reducible refine gate_callee (f := 32) rfl ?_); refine pC (some 19) rfl #[.agg #[.int .i64 a0_0, .int .i64 a0_1, .slice A0_2 l0_2.length c0_2, .slice A0_3 l0_3.length c0_3, .slice A0_4 l0_4.length c0_4]] rfl Try.func32 (spec_ThreeOk.calls k a0_0 a0_1 _ _ l0_2 _ _ l0_3 _ _ l0_4 false _ (HM.came HR0_2.out) HC0_2.out (HM.came HR0_3.out) HC0_3.out (HM.came HR0_4.out) HC0_4.out A9.out) ?_; rintro e w10 ⟨rfl, hR⟩; refine ⟨_, rfl, ?_⟩; replace HM := HM.call hR; clear hR))
   go_meet
   case rel => exact ⟨_, (true), RS, H', ⟨by first | omega | exact Nat.le_refl _⟩, (MD HM).pick [0, 1, 2, 3]⟩
 case rest =>
  clear HC7 HM
  obtain ⟨kq, x25_6, rfl, HA, HJ6, HM⟩ := hcut
  cases kq with
  | zero => exact absurd HA.out (by simp [spec_OpDo.j0])
  | succ kj6 =>
   have H := HA.out
   clear HA
   simp only [spec_OpDo.j0] at H
   go_upto_if 25 with (fail)
   replace H := IB H
   rcases H with ⟨c15, H⟩ | ⟨c15, H⟩
   ·subst c15
    simp only [Option.some.injEq, Prod.mk.injEq] at H
    obtain ⟨rfl, rfl, rfl, rfl, rfl, rfl, rfl, rfl, rfl⟩ := H
    go_wp2_with (first | ((with_reducible refine gate_st (p := 4) rfl ?_); refine pS 2 4 0 [.int .i64 0, .int .i64 0, .slice none 0 0, .slice none 0 0, .slice none 0 0] HM rfl rfl ?_; clear HM; intro w16 HM) | ((with_reducible refine gate_st (p := 5) rfl ?_); refine pS 3 5 0 [.bool false, .string (⟨#[]⟩ : ByteArray), .string (⟨#[]⟩ : ByteArray)] HM rfl rfl ?_; clear HM; intro w17 HM; replace HM := HM.nl k95 95; replace HM := HM.nl k95 95; replace HM := HM.nl (Kd.int .i64) 3; replace HM := HM.toQ 6 rfl))
    refine bodyPost_ret (results_list (rs := [.cell 4 32, .cell 5 34, .tmp 6]) rfl (by simp) (.cell gb447 32 #[.int .i64 0, .int .i64 0, .slice none 0 0, .slice none 0 0, .slice none 0 0] (0, 0) _ rfl (HM.bx 2 rfl) Try.underlying32 rfl (by kernel_rfl) (.cell gb448 34 #[.bool false, .string (⟨#[]⟩ : ByteArray), .string (⟨#[]⟩ : ByteArray)] (0, 0) _ rfl (HM.bx 3 rfl) Try.underlying34 rfl (by kernel_rfl) (.tmp .nil)))) rfl ?_
    exact ⟨_, _, _, ER, (MD HM).pick [4, 5, 6]⟩
   ·subst c15
    obtain ⟨hcz18_0, hcz18_1, hcz18_2, hfz18_0, hfz18_1, hfz18_2⟩ := bk3 (HM.bx 1 rfl)
    go_upto_if 30 with (fail)
    replace H := IT H; rcases H with ⟨c19, H⟩ | ⟨c19, H⟩
    ·have c19b0 : (a1_0 == 1) = true := beq_iff_eq.mpr c19
     have c19b1 : (a1_0 != 1) = false := bne_eq_false_iff_eq.mpr c19
     clear c19
     (first | rw [c19b0] | (simp only [i64_w, i32_w]; rw [c19b0]) | skip)
     replace H := BN H; obtain ⟨⟨t451, t452, t453, t456, t459, t462, t463⟩, A21, H⟩ := H
     simp only [Option.some.injEq, Prod.mk.injEq] at H
     obtain ⟨rfl, rfl, rfl, rfl, rfl, rfl, rfl, rfl, rfl⟩ := H
     obtain ⟨hcz20_0, hcz20_1, hcz20_2, hcz20_3, hcz20_4, hfz20_0, hfz20_1, hfz20_2, hfz20_3, hfz20_4⟩ := bk5 (HM.bx 0 rfl)
     go_wp2_with (first | ((with_reducible refine gate_callee (f := 34) rfl ?_); refine pC (some 36) rfl #[.agg #[.int .i64 a0_0, .int .i64 a0_1, .slice A0_2 l0_2.length c0_2, .slice A0_3 l0_3.length c0_3, .slice A0_4 l0_4.length c0_4], .string a1_1] rfl Try.func34 (spec_Get.calls kj6 a0_0 a0_1 _ _ l0_2 _ _ l0_3 _ _ l0_4 a1_1 t451 t452 t453 t456 t459 t462 t463 _ (HM.came HR0_2.out) HC0_2.out (HM.came HR0_3.out) HC0_3.out (HM.came HR0_4.out) HC0_4.out A21.out) ?_; rintro e w22 ⟨v454, v457, v460, rfl, hR⟩; refine ⟨_, rfl, ?_⟩; replace HM := HM.call hR; clear hR) | ((with_reducible refine gate_dst (N := 7) rfl ?_); refine pB 7 32 [.int .i64 0, .int .i64 0, .slice none 0 0, .slice none 0 0, .slice none 0 0] HM rfl ?_; clear HM; intro gb464 w23 HM; obtain ⟨Xo24, ko24, eo24⟩ := HM.rdR 4 rfl; subst eo24; obtain ⟨Xo25, ko25, eo25⟩ := HM.rdR 5 rfl; subst eo25; obtain ⟨Xo26, ko26, eo26⟩ := HM.rdR 6 rfl; subst eo26) | ((with_reducible refine gate_st (p := 7) rfl ?_); refine pS 7 7 0 [.int .i64 t451, .int .i64 t452, .slice Xo24 t453.length ko24, .slice Xo25 t456.length ko25, .slice Xo26 t459.length ko26] HM rfl rfl ?_; clear HM; intro w27 HM; obtain ⟨hcz28_0, hcz28_1, hcz28_2, hcz28_3, hcz28_4, hfz28_0, hfz28_1, hfz28_2, hfz28_3, hfz28_4⟩ := bk5 (HM.bx 7 rfl)) | ((with_reducible refine gate_st (p := 4) rfl ?_); refine pS 2 4 0 [.int .i64 t451, .int .i64 t452, .slice Xo24 t453.length ko24, .slice Xo25 t456.length ko25, .slice Xo26 t459.length ko26] HM rfl rfl ?_; clear HM; intro w29 HM) | ((with_reducible refine gate_st (p := 5) rfl ?_); refine pS 3 5 0 [.bool t463, .string t462, .string (⟨#[]⟩ : ByteArray)] HM rfl rfl ?_; clear HM; intro w30 HM; replace HM := HM.toQ 6 rfl))
     refine bodyPost_ret (results_list (rs := [.cell 4 32, .cell 5 34, .tmp 6]) rfl (by simp) (.cell gb447 32 #[.int .i64 t451, .int .i64 t452, .slice Xo24 t453.length ko24, .slice Xo25 t456.length ko25, .slice Xo26 t459.length ko26] (0, 0) _ rfl (HM.bx 2 rfl) Try.underlying32 rfl (by kernel_rfl) (.cell gb448 34 #[.bool t463, .string t462, .string (⟨#[]⟩ : ByteArray)] (0, 0) _ rfl (HM.bx 3 rfl) Try.underlying34 rfl (by kernel_rfl) (.tmp .nil)))) rfl ?_
     exact ⟨_, _, _, ER, (MD HM).pick [4, 5, 6]⟩
    ·have c19b0 : (a1_0 == 1) = false := beq_eq_false_iff_ne.mpr c19
     have c19b1 : (a1_0 != 1) = true := bne_iff_ne.mpr c19
     (first | rw [c19b0] | (simp only [i64_w, i32_w]; rw [c19b0]) | skip)
     go_upto_if 44 with (fail)
     replace H := IT H; rcases H with ⟨c31, H⟩ | ⟨c31, H⟩
     ·have c31b0 : (a1_0 == 2) = true := beq_iff_eq.mpr c31
      have c31b1 : (a1_0 != 2) = false := bne_eq_false_iff_eq.mpr c31
      clear c31
      (first | rw [c31b0] | (simp only [i64_w, i32_w]; rw [c31b0]) | skip)
      replace H := BN H; obtain ⟨⟨t465, t466, t467, t470, t473, t476, t479⟩, A33, H⟩ := H
      have H' := Aside0.mk H
      clear H
      obtain ⟨hcz32_0, hcz32_1, hcz32_2, hcz32_3, hcz32_4, hfz32_0, hfz32_1, hfz32_2, hfz32_3, hfz32_4⟩ := bk5 (HM.bx 0 rfl)
      go_wp2_with (first | ((with_reducible refine gate_callee (f := 35) rfl ?_); refine pC (some 52) rfl #[.agg #[.int .i64 a0_0, .int .i64 a0_1, .slice A0_2 l0_2.length c0_2, .slice A0_3 l0_3.length c0_3, .slice A0_4 l0_4.length c0_4], .string a1_1, .string a1_2] rfl Try.func35 (spec_Put.calls kj6 a0_0 a0_1 _ _ l0_2 _ _ l0_3 _ _ l0_4 a1_1 a1_2 t465 t466 t467 t470 t473 t476 t479 _ (HM.came HR0_2.out) HC0_2.out (HM.came HR0_3.out) HC0_3.out (HM.came HR0_4.out) HC0_4.out A33.out) ?_; rintro e w34 ⟨v468, v471, v474, v477, rfl, hR⟩; refine ⟨_, rfl, ?_⟩; replace HM := HM.call hR; clear hR) | ((with_reducible refine gate_dst (N := 10) rfl ?_); refine pB 10 32 [.int .i64 0, .int .i64 0, .slice none 0 0, .slice none 0 0, .slice none 0 0] HM rfl ?_; clear HM; intro gb480 w35 HM; obtain ⟨Xo36, ko36, eo36⟩ := HM.rdR 4 rfl; subst eo36; obtain ⟨Xo37, ko37, eo37⟩ := HM.rdR 5 rfl; subst eo37; obtain ⟨Xo38, ko38, eo38⟩ := HM.rd 6 rfl; subst eo38) | ((with_reducible refine gate_st (p := 10) rfl ?_); refine pS 8 10 0 [.int .i64 t465, .int .i64 t466, .slice Xo36 t467.length ko36, .slice Xo37 t470.length ko37, .slice Xo38 t473.length ko38] HM rfl rfl ?_; clear HM; intro w39 HM) | ((with_reducible refine gate_dst (N := 13) rfl ?_); refine pB 13 34 [.bool false, .string (⟨#[]⟩ : ByteArray), .string (⟨#[]⟩ : ByteArray)] HM rfl ?_; clear HM; intro gb481 w40 HM) | ((with_reducible refine gate_st (p := 13) rfl ?_); refine pS 9 13 0 [.bool true, .string (⟨#[]⟩ : ByteArray), .string (⟨#[]⟩ : ByteArray)] HM rfl rfl ?_; clear HM; intro w41 HM; obtain ⟨Xo42, ko42, eo42⟩ := HM.rdR 7 rfl; subst eo42))
      go_loopg [59] kj6 (fun kq v59 w' => ∃ (x59_2 : Int) (x482002_2 : ByteArray), v59 = .int .i64 x59_2 ∧ Aside0 (spec_OpDo.l0 kq t476 (t476.length : Int) x59_2 t465 t466 t467 t470 t473 true (⟨#[]⟩ : ByteArray) x482002_2 = some (r1, r2, r3, r4, r5, r6, r7, r8, r9)) ∧ Aside0 (kq ≤ kj6) ∧ Mem w [] w' [rowR Kd.string 9 (.slice Xo42 t476.length ko42) t476, rowR k95 95 (.slice Xo36 t467.length ko36) t467, rowR k95 95 (.slice Xo37 t470.length ko37) t470, row (Kd.int .i64) 3 (.slice Xo38 t473.length ko38) t473, box 32 gb445 [.int .i64 a0_0, .int .i64 a0_1, .slice A0_2 l0_2.length c0_2, .slice A0_3 l0_3.length c0_3, .slice A0_4 l0_4.length c0_4], box 38 gb446 [.int .i64 a1_0, .string a1_1, .string a1_2], box 32 gb447 [.int .i64 0, .int .i64 0, .slice none 0 0, .slice none 0 0, .slice none 0 0], box 34 gb448 [.bool false, .string (⟨#[]⟩ : ByteArray), .string (⟨#[]⟩ : ByteArray)], box 32 gb480 [.int .i64 t465, .int .i64 t466, (.slice Xo36 t467.length ko36), (.slice Xo37 t470.length ko37), (.slice Xo38 t473.length ko38)], box 34 gb481 [.bool true, .string (⟨#[]⟩ : ByteArray), .string x482002_2]])
      case atStart => exact ⟨(0), ((⟨#[]⟩ : ByteArray)), RS, H', ⟨Nat.le_refl _⟩, (MD HM).pick [7, 4, 5, 6, 0, 1, 2, 3, 8, 9]⟩
      case round =>
       clear H' HM
       obtain ⟨x59_2, x482002_2, rfl, HA, HK2, HM⟩ := hrel
       cases gk with
       | zero => exact absurd HA.out (by simp [spec_OpDo.l0])
       | succ k2 =>
        have H := HA.out
        clear HA
        simp only [spec_OpDo.l0] at H
        go_upto_if 60 with (fail)
        replace H := IT H; rcases H with ⟨c43, H⟩ | ⟨c43, H⟩
        ·have c43b0 : decide (x59_2 < (t476.length : Int)) = true := decide_eq_true c43
         clear c43
         (first | rw [c43b0] | (simp only [i64_w, i32_w]; rw [c43b0]) | skip)
         replace H := GD H; obtain ⟨c44, H⟩ := H
         have c44b0 : decide (0 ≤ x59_2) = true := decide_eq_true c44
         clear c44
         replace H := GD H; obtain ⟨c45, H⟩ := H
         have c45b0 : decide (x59_2 < (t476.length : Int)) = true := decide_eq_true c45
         clear c45
         have H' := Aside0.mk H
         clear H
         have p482 : 0 ≤ (x59_2 : Int) := of_decide_eq_true AS
         have q482 : (x59_2 : Int) < (t476.length : Int) := of_decide_eq_true AS
         obtain ⟨ad482, e482, hx482_0⟩ := Kd.at_string (HM.CR 0 rfl).2.2 x59_2 p482 q482
         cases e482
         replace p482 := eq_true p482
         replace q482 := eq_true q482
         go_wp2_with (first | ((with_reducible refine gate_st (p := 64) rfl ?_); refine pS 9 64 2 [.string (rdOf ByteArray.empty t476 x59_2)] HM rfl rfl ?_; clear HM; intro w46 HM))
         go_roundg k2
         case measure => have := HJ6.out; have := HK2.out; omega
         case rel => exact ⟨(wrap64 (x59_2 + 1)), (rdOf ByteArray.empty t476 x59_2), RS, H', ⟨by have := HJ6.out; have := HK2.out; omega⟩, (MD HM).pick [0, 1, 2, 3, 4, 5, 6, 7, 8, 9]⟩
        ·have c43b0 : decide (x59_2 < (t476.length : Int)) = false := decide_eq_false c43
         clear c43
         (first | rw [c43b0] | (simp only [i64_w, i32_w]; rw [c43b0]) | skip)
         try go_wp2
         refine RGN 5 [0, 1, 2, 3, 4] (fun a0 b a w' => a = putSel a0 b [(0, 66, .agg #[.int .i64 t465, .int .i64 t466, .slice Xo36 t467.length ko36, .slice Xo37 t470.length ko37, .slice Xo38 t473.length ko38]), (1, 67, .agg #[.bool true, .string (⟨#[]⟩ : ByteArray), .string x482002_2]), (4, 6, .bool true)] ∧ Mem w [] w' [rowR Kd.string 9 (.slice Xo42 t476.length ko42) t476, rowR k95 95 (.slice Xo36 t467.length ko36) t467, rowR k95 95 (.slice Xo37 t470.length ko37) t470, row (Kd.int .i64) 3 (.slice Xo38 t473.length ko38) t473, box 32 gb445 [.int .i64 a0_0, .int .i64 a0_1, .slice A0_2 l0_2.length c0_2, .slice A0_3 l0_3.length c0_3, .slice A0_4 l0_4.length c0_4], box 38 gb446 [.int .i64 a1_0, .string a1_1, .string a1_2], sel (b 2) (box 32 gb447 [.int .i64 t465, .int .i64 t466, .slice Xo36 t467.length ko36, .slice Xo37 t470.length ko37, .slice Xo38 t473.length ko38]) (box 32 gb447 [.int .i64 0, .int .i64 0, .slice none 0 0, .slice none 0 0, .slice none 0 0]), sel (b 3) (box 34 gb448 [.bool true, .string (⟨#[]⟩ : ByteArray), .string x482002_2]) (box 34 gb448 [.bool false, .string (⟨#[]⟩ : ByteArray), .string (⟨#[]⟩ : ByteArray)]), box 32 gb480 [.int .i64 t465, .int .i64 t466, .slice Xo36 t467.length ko36, .slice Xo37 t470.length ko37, .slice Xo38 t473.length ko38], box 34 gb481 [.bool true, .string (⟨#[]⟩ : ByteArray), .string x482002_2]]) spec_OpDo.tab15 spec_OpDo.bits15 ?_ ?_ ?_
         ·exact ⟨PS0' rfl _, (HM.drew).pick [0, 1, 2, 3, 4, 5, 6, 7, 8, 9]⟩
         ·clear HM
          refine steps_cons ?_ ?_
          ·rintro b a w ⟨ha, HM⟩ hb hon hoff
           refine ⟨_, rfl, fun K hK => ?_⟩
           obtain ⟨hcz51_0, hcz51_1, hcz51_2, hcz51_3, hcz51_4, hfz51_0, hfz51_1, hfz51_2, hfz51_3, hfz51_4⟩ := bk5 (HM.bx 8 rfl)
           have e10 := POF ha 10
           replace ha := Aside0.mk ha
           exact VL (.agg #[.int .i64 t465, .int .i64 t466, .slice Xo36 t467.length ko36, .slice Xo37 t470.length ko37, .slice Xo38 t473.length ko38]) (hK.out _ _ ⟨PUT ha 0 hb, HM⟩)
          refine steps_cons ?_ ?_
          ·rintro b a w ⟨ha, HM⟩ hb hon hoff
           refine ⟨_, rfl, fun K hK => ?_⟩
           obtain ⟨hcz52_0, hcz52_1, hcz52_2, hfz52_0, hfz52_1, hfz52_2⟩ := bk3 (HM.bx 9 rfl)
           have e13 := POF ha 13
           replace ha := Aside0.mk ha
           exact VL (.agg #[.bool true, .string (⟨#[]⟩ : ByteArray), .string x482002_2]) (hK.out _ _ ⟨PUT ha 1 hb, HM⟩)
          refine steps_cons ?_ ?_
          ·rintro b a w ⟨ha, HM⟩ hb hon hoff
           refine ⟨_, rfl, fun K hK => ?_⟩
           replace HM := HM.sF 6 rfl hb
           have e4 := POF ha 4
           have e66 := PON ha 0 (hon 0 (by kernel_rfl))
           replace ha := Aside0.mk ha
           refine ST (eS 6 4 0 [.int .i64 t465, .int .i64 t466, .slice Xo36 t467.length ko36, .slice Xo37 t470.length ko37, .slice Xo38 t473.length ko38] HM rfl rfl ?_ (hp := (eval_of e4)) (hx := (by rw [eval_of e66]; rfl)))
           clear HM
           intro w53 HM
           exact hK.out _ _ ⟨PUS ha, (HM).pick [0, 1, 2, 3, 4, 5, 6, 7, 8, 9]⟩
          refine steps_cons ?_ ?_
          ·rintro b a w ⟨ha, HM⟩ hb hon hoff
           refine ⟨_, rfl, fun K hK => ?_⟩
           replace HM := HM.sF 7 rfl hb
           have e5 := POF ha 5
           have e67 := PON ha 1 (hon 1 (by kernel_rfl))
           replace ha := Aside0.mk ha
           refine ST (eS 7 5 0 [.bool true, .string (⟨#[]⟩ : ByteArray), .string x482002_2] HM rfl rfl ?_ (hp := (eval_of e5)) (hx := (by rw [eval_of e67]; rfl)))
           clear HM
           intro w54 HM
           exact hK.out _ _ ⟨PUS ha, (HM).pick [0, 1, 2, 3, 4, 5, 6, 7, 8, 9]⟩
          refine steps_cons ?_ ?_
          ·rintro b a w ⟨ha, HM⟩ hb hon hoff
           refine ⟨_, rfl, fun K hK => ?_⟩
           replace ha := Aside0.mk ha
           exact VL (.bool true) (hK.out _ _ ⟨PUT ha 2 hb, HM⟩)
          exact steps_nil
         rintro _ w55 ⟨rfl, HM⟩
         replace HM := HM.sT 6 rfl rfl
         replace HM := HM.sT 7 rfl rfl
         simp only [putSel, if_true, Act.put, List.setIfInBounds_toArray, List.set_cons_zero, List.set_cons_succ, gt_iff_lt, ge_iff_le]
         simp only [Option.some.injEq, Prod.mk.injEq] at H
         obtain ⟨rfl, rfl, rfl, rfl, rfl, rfl, rfl, rfl, rfl⟩ := H
         go_wp2
         refine bodyPost_ret (results_list (rs := [.cell 4 32, .cell 5 34, .tmp 6]) rfl (by simp) (.cell gb447 32 #[.int .i64 t465, .int .i64 t466, .slice Xo36 t467.length ko36, .slice Xo37 t470.length ko37, .slice Xo38 t473.length ko38] (0, 0) _ rfl (HM.bx 6 rfl) Try.underlying32 rfl (by kernel_rfl) (.cell gb448 34 #[.bool true, .string (⟨#[]⟩ : ByteArray), .string x482002_2] (0, 0) _ rfl (HM.bx 7 rfl) Try.underlying34 rfl (by kernel_rfl) (.tmp .nil)))) rfl ?_
         exact ⟨_, _, _, ER, (MD HM).pick [1, 2, 3]⟩
     ·have c31b0 : (a1_0 == 2) = false := beq_eq_false_iff_ne.mpr c31
      have c31b1 : (a1_0 != 2) = true := bne_iff_ne.mpr c31
      (first | rw [c31b0] | (simp only [i64_w, i32_w]; rw [c31b0]) | skip)
      replace H := BN H; obtain ⟨⟨t483, t484, t485, t488, t491, t494⟩, A57, H⟩ := H
      simp only [Option.some.injEq, Prod.mk.injEq] at H
      obtain ⟨rfl, rfl, rfl, rfl, rfl, rfl, rfl, rfl, rfl⟩ := H
      obtain ⟨hcz56_0, hcz56_1, hcz56_2, hcz56_3, hcz56_4, hfz56_0, hfz56_1, hfz56_2, hfz56_3, hfz56_4⟩ := bk5 (HM.bx 0 rfl)
      go_wp2_with (first | ((with_reducible refine gate_callee (f := 36) rfl ?_); refine pC (some 72) rfl #[.agg #[.int .i64 a0_0, .int .i64 a0_1, .slice A0_2 l0_2.length c0_2, .slice A0_3 l0_3.length c0_3, .slice A0_4 l0_4.length c0_4], .string a1_1] rfl Try.func36 (spec_Drop.calls kj6 a0_0 a0_1 _ _ l0_2 _ _ l0_3 _ _ l0_4 a1_1 t483 t484 t485 t488 t491 t494 _ (HM.came HR0_2.out) HC0_2.out (HM.came HR0_3.out) HC0_3.out (HM.came HR0_4.out) HC0_4.out A57.out) ?_; rintro e w58 ⟨v486, v489, v492, rfl, hR⟩; refine ⟨_, rfl, ?_⟩; replace HM := HM.call hR; clear hR) | ((with_reducible refine gate_dst (N := 16) rfl ?_); refine pB 16 32 [.int .i64 0, .int .i64 0, .slice none 0 0, .slice none 0 0, .slice none 0 0] HM rfl ?_; clear HM; intro gb495 w59 HM; obtain ⟨Xo60, ko60, eo60⟩ := HM.rdR 4 rfl; subst eo60; obtain ⟨Xo61, ko61, eo61⟩ := HM.rdR 5 rfl; subst eo61; obtain ⟨Xo62, ko62, eo62⟩ := HM.rdR 6 rfl; subst eo62) | ((with_reducible refine gate_st (p := 16) rfl ?_); refine pS 7 16 0 [.int .i64 t483, .int .i64 t484, .slice Xo60 t485.length ko60, .slice Xo61 t488.length ko61, .slice Xo62 t491.length ko62] HM rfl rfl ?_; clear HM; intro w63 HM; obtain ⟨hcz64_0, hcz64_1, hcz64_2, hcz64_3, hcz64_4, hfz64_0, hfz64_1, hfz64_2, hfz64_3, hfz64_4⟩ := bk5 (HM.bx 7 rfl)) | ((with_reducible refine gate_st (p := 4) rfl ?_); refine pS 2 4 0 [.int .i64 t483, .int .i64 t484, .slice Xo60 t485.length ko60, .slice Xo61 t488.length ko61, .slice Xo62 t491.length ko62] HM rfl rfl ?_; clear HM; intro w65 HM) | ((with_reducible refine gate_st (p := 5) rfl ?_); refine pS 3 5 0 [.bool t494, .string (⟨#[]⟩ : ByteArray), .string (⟨#[]⟩ : ByteArray)] HM rfl rfl ?_; clear HM; intro w66 HM; replace HM := HM.toQ 6 rfl))
      refine bodyPost_ret (results_list (rs := [.cell 4 32, .cell 5 34, .tmp 6]) rfl (by simp) (.cell gb447 32 #[.int .i64 t483, .int .i64 t484, .slice Xo60 t485.length ko60, .slice Xo61 t488.length ko61, .slice Xo62 t491.length ko62] (0, 0) _ rfl (HM.bx 2 rfl) Try.underlying32 rfl (by kernel_rfl) (.cell gb448 34 #[.bool t494, .string (⟨#[]⟩ : ByteArray), .string (⟨#[]⟩ : ByteArray)] (0, 0) _ rfl (HM.bx 3 rfl) Try.underlying34 rfl (by kernel_rfl) (.tmp .nil)))) rfl ?_
      exact ⟨_, _, _, ER, (MD HM).pick [4, 5, 6]⟩
def spec_OpsDo.l0 : Nat → List (S34) → List (S38) → Int → Int → Int → Int → List (S95) → List (S95) → List Int → Option (Int × Int × (List (S95)) × (List (S95)) × List Int × (List (S34)))
 | 0, _, _, _, _, _, _, _, _, _ => none
 | k + 1, x7, x20, x21, x22, x1016000, x1016001, x1016002, x1016003, x1016004 => if x22 < x21 then (if 0 ≤ x22 then (if x22 < (x20.length : Int) then ((spec_OpDo.f k x1016000 x1016001 x1016002 x1016003 x1016004 ((rd_T38 x20 x22).f0) ((rd_T38 x20 x22).f1) ((rd_T38 x20 x22).f2)).bind fun bt1021 => (if bt1021.2.2.2.2.2.2.2.2 = true then (if x7.length < 3518437208883 then (spec_OpsDo.l0 k (x7 ++ [(⟨bt1021.2.2.2.2.2.1, bt1021.2.2.2.2.2.2.1, bt1021.2.2.2.2.2.2.2.1⟩ : S34)]) x20 x21 (wrap64 (x22 + 1)) bt1021.1 bt1021.2.1 bt1021.2.2.1 bt1021.2.2.2.1 bt1021.2.2.2.2.1) else (none)) else (some (x1016000, x1016001, x1016002, x1016003, x1016004, x7)))) else (none)) else (none)) else (some (x1016000, x1016001, x1016002, x1016003, x1016004, x7))
def spec_OpsDo.f (k : Nat) (a0_0 : Int) (a0_1 : Int) (l0_2 : List (S95)) (l0_3 : List (S95)) (l0_4 : List Int) (l1 : List (S38)) : Option (Int × Int × (List (S95)) × (List (S95)) × List Int × (List (S34))) := (spec_ThreeOk.f k a0_0 a0_1 l0_2 l0_3 l0_4).bind fun t1003 => (if t1003 = true then ((spec_l10Copy.f a0_0 a0_1 l0_2 l0_3 l0_4).bind fun bt1004 => (spec_OpsDo.l0 k (([] : List (S34))) l1 (l1.length : Int) 0 bt1004.1 bt1004.2.1 bt1004.2.2.1 bt1004.2.2.2.1 bt1004.2.2.2.2)) else (some (0, 0, ([] : List (S95)), ([] : List (S95)), ([] : List Int), ([] : List (S34)))))
theorem spec_OpsDo.mono_l : ∀ k, (∀ y0 y1 y2 y3 y4 y5 y6 y7 y8, LeO (spec_OpsDo.l0 k y0 y1 y2 y3 y4 y5 y6 y7 y8) (spec_OpsDo.l0 (k + 1) y0 y1 y2 y3 y4 y5 y6 y7 y8))
 | 0 => fun _ _ _ _ _ _ _ _ _ r h => by simp [spec_OpsDo.l0] at h
 | k + 1 => by
  have ih0 := spec_OpsDo.mono_l k
  ·intro y0 y1 y2 y3 y4 y5 y6 y7 y8
   unfold spec_OpsDo.l0
   repeat' first | (with_reducible first | exact ih0 _ _ _ _ _ _ _ _ _ | exact spec_OpDo.mono _ _ _ _ _ _ _ _ _ | exact spec_ThreeOk.mono _ _ _ _ _ _ | exact LeO.refl _ | exact LeO.none _ | refine LeO.ite ?_ ?_ | refine LeO.bind ?_ (fun _ => ?_)) | exact ih0 _ _ _ _ _ _ _ _ _ | exact spec_OpDo.mono _ _ _ _ _ _ _ _ _ | exact spec_ThreeOk.mono _ _ _ _ _ _ | exact LeO.none _ | refine LeO.ite ?_ ?_ | refine LeO.bind ?_ (fun _ => ?_)
theorem spec_OpsDo.mono : ∀ a0 a1 a2 a3 a4 a5 k, LeO (spec_OpsDo.f k a0 a1 a2 a3 a4 a5) (spec_OpsDo.f (k + 1) a0 a1 a2 a3 a4 a5) := by
 intro a0 a1 a2 a3 a4 a5 k
 have ih0 := spec_OpsDo.mono_l k
 unfold spec_OpsDo.f
 repeat' first | (with_reducible first | exact ih0 _ _ _ _ _ _ _ _ _ | exact spec_OpDo.mono _ _ _ _ _ _ _ _ _ | exact spec_ThreeOk.mono _ _ _ _ _ _ | exact LeO.refl _ | exact LeO.none _ | refine LeO.ite ?_ ?_ | refine LeO.bind ?_ (fun _ => ?_)) | exact ih0 _ _ _ _ _ _ _ _ _ | exact spec_OpDo.mono _ _ _ _ _ _ _ _ _ | exact spec_ThreeOk.mono _ _ _ _ _ _ | exact LeO.none _ | refine LeO.ite ?_ ?_ | refine LeO.bind ?_ (fun _ => ?_)
set_option maxHeartbeats 8000000 in
set_option maxRecDepth 100000 in
theorem spec_OpsDo.calls (k : Nat) (a0_0 : Int) (a0_1 : Int) (A0_2 : Option Addr) (c0_2 : Nat) (l0_2 : List (S95)) (A0_3 : Option Addr) (c0_3 : Nat) (l0_3 : List (S95)) (A0_4 : Option Addr) (c0_4 : Nat) (l0_4 : List Int) (A1 : Option Addr) (c1 : Nat) (l1 : List (S38)) (r1 : Int) (r2 : Int) (r3 : List (S95)) (r4 : List (S95)) (r5 : List Int) (r6 : List (S34)) (w : World) (hr0_2 : Kd.C k95 w A0_2 l0_2.length l0_2) (hc0_2 : l0_2.length ≤ c0_2) (hr0_3 : Kd.C k95 w A0_3 l0_3.length l0_3) (hc0_3 : l0_3.length ≤ c0_3) (hr0_4 : Kd.C (Kd.int .i64) w A0_4 l0_4.length l0_4) (hc0_4 : l0_4.length ≤ c0_4) (hr1 : Kd.C k38 w A1 l1.length l1) (hc1 : l1.length ≤ c1) (h : spec_OpsDo.f k a0_0 a0_1 l0_2 l0_3 l0_4 l1 = some (r1, r2, r3, r4, r5, r6)) :
  Calls Try.prog 17 #[.agg #[.int .i64 a0_0, .int .i64 a0_1, .slice A0_2 l0_2.length c0_2, .slice A0_3 l0_3.length c0_3, .slice A0_4 l0_4.length c0_4], .slice A1 l1.length c1] w fun e w' => ∃ v2_ v3_ v4_ v5_ : Value, e = .returned (.tuple #[.agg #[.int .i64 r1, .int .i64 r2, v2_, v3_, v4_], v5_]) ∧ Mem w [] w' [rowR k95 95 v2_ r3, rowR k95 95 v3_ r4, row (Kd.int .i64) 3 v4_ r5, rowR k34 34 v5_ r6] := by
 have hu32 := Try.underlying32
 have hu38 := Try.underlying38
 have hu34 := Try.underlying34
 have HR0_2 := Aside0.mk hr0_2
 have HC0_2 := Aside0.mk hc0_2
 clear hr0_2 hc0_2
 have HR0_3 := Aside0.mk hr0_3
 have HC0_3 := Aside0.mk hc0_3
 clear hr0_3 hc0_3
 have HR0_4 := Aside0.mk hr0_4
 have HC0_4 := Aside0.mk hc0_4
 clear hr0_4 hc0_4
 have HR1 := Aside0.mk hr1
 have HC1 := Aside0.mk hc1
 clear hr1 hc1
 have HM := Mem.nil w
 have H := h
 clear h
 unfold spec_OpsDo.f at H
 go_enter Try.func17, Try.ntmps17
 replace H := BN H; obtain ⟨t1003, A6, H⟩ := H
 go_upto_if 15 with (first | ((with_reducible refine gate_dst (N := 2) rfl ?_); refine pB 2 32 [.int .i64 a0_0, .int .i64 a0_1, .slice A0_2 l0_2.length c0_2, .slice A0_3 l0_3.length c0_3, .slice A0_4 l0_4.length c0_4] HM rfl ?_; clear HM; intro gb1001 w3 HM) | ((with_reducible refine gate_dst (N := 4) rfl ?_); refine pB 4 32 [.int .i64 0, .int .i64 0, .slice none 0 0, .slice none 0 0, .slice none 0 0] HM rfl ?_; clear HM; intro gb1002 w4 HM; obtain ⟨hcz5_0, hcz5_1, hcz5_2, hcz5_3, hcz5_4, hfz5_0, hfz5_1, hfz5_2, hfz5_3, hfz5_4⟩ := bk5 (HM.bx 0 rfl)) | ((with_reducible refine gate_callee (f := 32) rfl ?_); refine pC (some 14) rfl #[.agg #[.int .i64 a0_0, .int .i64 a0_1, .slice A0_2 l0_2.length c0_2, .slice A0_3 l0_3.length c0_3, .slice A0_4 l0_4.length c0_4]] rfl Try.func32 (spec_ThreeOk.calls k a0_0 a0_1 _ _ l0_2 _ _ l0_3 _ _ l0_4 t1003 _ (HM.came HR0_2.out) HC0_2.out (HM.came HR0_3.out) HC0_3.out (HM.came HR0_4.out) HC0_4.out A6.out) ?_; rintro e w7 ⟨rfl, hR⟩; refine ⟨_, rfl, ?_⟩; replace HM := HM.call hR; clear hR))
 replace HM := nzM HM
 replace H := IB H
 rcases H with ⟨c8, H⟩ | ⟨c8, H⟩
 ·subst c8
  replace H := BN H; obtain ⟨⟨t1004, t1005, t1006, t1009, t1012⟩, A10, H⟩ := H
  have H' := Aside0.mk H
  clear H
  obtain ⟨hcz9_0, hcz9_1, hcz9_2, hcz9_3, hcz9_4, hfz9_0, hfz9_1, hfz9_2, hfz9_3, hfz9_4⟩ := bk5 (HM.bx 0 rfl)
  go_wp2_with (first | ((with_reducible refine gate_callee (f := 48) rfl ?_); refine pC (some 18) rfl #[.agg #[.int .i64 a0_0, .int .i64 a0_1, .slice A0_2 l0_2.length c0_2, .slice A0_3 l0_3.length c0_3, .slice A0_4 l0_4.length c0_4]] rfl Try.func48 (spec_l10Copy.calls a0_0 a0_1 _ _ l0_2 _ _ l0_3 _ _ l0_4 t1004 t1005 t1006 t1009 t1012 _ (HM.came HR0_2.out) HC0_2.out (HM.came HR0_3.out) HC0_3.out (HM.came HR0_4.out) HC0_4.out A10.out) ?_; rintro e w11 ⟨v1007, v1010, v1013, rfl, hR⟩; refine ⟨_, rfl, ?_⟩; replace HM := HM.call hR; clear hR) | ((with_reducible refine gate_dst (N := 6) rfl ?_); refine pB 6 32 [.int .i64 0, .int .i64 0, .slice none 0 0, .slice none 0 0, .slice none 0 0] HM rfl ?_; clear HM; intro gb1015 w12 HM; obtain ⟨Xo13, ko13, eo13⟩ := HM.rdR 2 rfl; subst eo13; obtain ⟨Xo14, ko14, eo14⟩ := HM.rdR 3 rfl; subst eo14; obtain ⟨Xo15, ko15, eo15⟩ := HM.rdR 4 rfl; subst eo15) | ((with_reducible refine gate_st (p := 6) rfl ?_); refine pS 5 6 0 [.int .i64 t1004, .int .i64 t1005, .slice Xo13 t1006.length ko13, .slice Xo14 t1009.length ko14, .slice Xo15 t1012.length ko15] HM rfl rfl ?_; clear HM; intro w16 HM) | ((with_reducible refine gate_dst (N := 19) rfl ?_); refine pL 19 k34 34 ([] : List (S34)) [] (Reps.none _ _) HM rfl ?_; clear HM; intro v1017 w17 HM; replace HM := HM.toQ 4 rfl))
  go_loopg [7, 22] k (fun kq v7 v22 w' => ∃ (x7_1 : List (S34)) (x22_1 : Int) (x1016000_1 : Int) (x1016001_1 : Int) (x1016002_1 : List (S95)) (x1016003_1 : List (S95)) (x1016004_1 : List Int) (u1016002 : Value) (u1016003 : Value) (u1016004 : Value), v22 = .int .i64 x22_1 ∧ Aside0 (spec_OpsDo.l0 kq x7_1 l1 (l1.length : Int) x22_1 x1016000_1 x1016001_1 x1016002_1 x1016003_1 x1016004_1 = some (r1, r2, r3, r4, r5, r6)) ∧ Aside0 (kq ≤ k) ∧ Mem w [] w' [rowR k34 34 v7 x7_1, rowR k95 95 u1016002 x1016002_1, rowR k95 95 u1016003 x1016003_1, row (Kd.int .i64) 3 u1016004 x1016004_1, box 32 gb1001 [.int .i64 a0_0, .int .i64 a0_1, .slice A0_2 l0_2.length c0_2, .slice A0_3 l0_3.length c0_3, .slice A0_4 l0_4.length c0_4], box 32 gb1002 [.int .i64 0, .int .i64 0, .slice none 0 0, .slice none 0 0, .slice none 0 0], box 32 gb1015 [.int .i64 x1016000_1, .int .i64 x1016001_1, u1016002, u1016003, u1016004]])
  case atStart => exact ⟨((([] : List (S34)))), (0), (t1004), (t1005), (t1006), (t1009), (t1012), (.slice Xo13 t1006.length ko13), (.slice Xo14 t1009.length ko14), (.slice Xo15 t1012.length ko15), RS, H', ⟨Nat.le_refl _⟩, (MD HM).pick [6, 2, 3, 4, 0, 1, 5]⟩
  case round =>
   clear H' HM
   obtain ⟨x7_1, x22_1, x1016000_1, x1016001_1, x1016002_1, x1016003_1, x1016004_1, u1016002, u1016003, u1016004, rfl, HA, HK1, HM⟩ := hrel
   cases gk with
   | zero => exact absurd HA.out (by simp [spec_OpsDo.l0])
   | succ k1 =>
    have H := HA.out
    clear HA
    simp only [spec_OpsDo.l0] at H
    go_upto_if 23 with (fail)
    replace H := IT H; rcases H with ⟨c18, H⟩ | ⟨c18, H⟩
    ·have c18b0 : decide (x22_1 < (l1.length : Int)) = true := decide_eq_true c18
     clear c18
     (first | rw [c18b0] | (simp only [i64_w, i32_w]; rw [c18b0]) | skip)
     replace H := GD H; obtain ⟨c19, H⟩ := H
     have c19b0 : decide (0 ≤ x22_1) = true := decide_eq_true c19
     clear c19
     replace H := GD H; obtain ⟨c20, H⟩ := H
     have c20b0 : decide (x22_1 < (l1.length : Int)) = true := decide_eq_true c20
     clear c20
     replace H := BN H; obtain ⟨⟨t1021, t1022, t1023, t1026, t1029, t1032, t1033, t1034, t1035⟩, A25, H⟩ := H
     have p1019 : 0 ≤ (x22_1 : Int) := of_decide_eq_true AS
     have q1019 : (x22_1 : Int) < (l1.length : Int) := of_decide_eq_true AS
     obtain ⟨ad1019, e1019, hx1019_0, hx1019_1, hx1019_2⟩ := at_T38 (HM.came HR1.out) x22_1 p1019 q1019
     cases e1019
     replace p1019 := eq_true p1019
     replace q1019 := eq_true q1019
     go_upto_if 34 with (first | ((with_reducible refine gate_dst (N := 9) rfl ?_); refine pB 9 38 [.int .i64 0, .string (⟨#[]⟩ : ByteArray), .string (⟨#[]⟩ : ByteArray)] HM rfl ?_; clear HM; intro gb1020 w21 HM) | ((with_reducible refine gate_st (p := 9) rfl ?_); refine pS 7 9 0 [.int .i64 ((rd_T38 l1 x22_1).f0), .string ((rd_T38 l1 x22_1).f1), .string ((rd_T38 l1 x22_1).f2)] HM rfl rfl ?_; clear HM; intro w22 HM; obtain ⟨hcz23_0, hcz23_1, hcz23_2, hcz23_3, hcz23_4, hfz23_0, hfz23_1, hfz23_2, hfz23_3, hfz23_4⟩ := bk5 (HM.bx 6 rfl); obtain ⟨hcz24_0, hcz24_1, hcz24_2, hfz24_0, hfz24_1, hfz24_2⟩ := bk3 (HM.bx 7 rfl); obtain ⟨Xo27, ko27, eo27⟩ := HM.rdR 1 rfl; subst eo27; obtain ⟨Xo28, ko28, eo28⟩ := HM.rdR 2 rfl; subst eo28; obtain ⟨Xo29, ko29, eo29⟩ := HM.rd 3 rfl; subst eo29) | ((with_reducible refine gate_callee (f := 8) rfl ?_); refine pC (some 29) rfl #[.agg #[.int .i64 x1016000_1, .int .i64 x1016001_1, .slice Xo27 x1016002_1.length ko27, .slice Xo28 x1016003_1.length ko28, .slice Xo29 x1016004_1.length ko29], .agg #[.int .i64 ((rd_T38 l1 x22_1).f0), .string ((rd_T38 l1 x22_1).f1), .string ((rd_T38 l1 x22_1).f2)]] rfl Try.func8 (spec_OpDo.calls k1 x1016000_1 x1016001_1 _ _ x1016002_1 _ _ x1016003_1 _ _ x1016004_1 ((rd_T38 l1 x22_1).f0) ((rd_T38 l1 x22_1).f1) ((rd_T38 l1 x22_1).f2) t1021 t1022 t1023 t1026 t1029 t1032 t1033 t1034 t1035 _ (HM.CR 1 rfl).2.2 (HM.CR 1 rfl).2.1 (HM.CR 2 rfl).2.2 (HM.CR 2 rfl).2.1 (HM.C 3 rfl).2.2 (HM.C 3 rfl).2.1 A25.out) ?_; rintro e w26 ⟨v1024, v1027, v1030, rfl, hR⟩; refine ⟨_, rfl, ?_⟩; replace HM := HM.call hR; clear hR) | ((with_reducible refine gate_dst (N := 10) rfl ?_); refine pB 10 32 [.int .i64 0, .int .i64 0, .slice none 0 0, .slice none 0 0, .slice none 0 0] HM rfl ?_; clear HM; intro gb1036 w30 HM) | ((with_reducible refine gate_dst (N := 11) rfl ?_); refine pB 11 34 [.bool false, .string (⟨#[]⟩ : ByteArray), .string (⟨#[]⟩ : ByteArray)] HM rfl ?_; clear HM; intro gb1037 w31 HM; obtain ⟨Xo32, ko32, eo32⟩ := HM.rdR 8 rfl; subst eo32; obtain ⟨Xo33, ko33, eo33⟩ := HM.rdR 9 rfl; subst eo33; obtain ⟨Xo34, ko34, eo34⟩ := HM.rd 10 rfl; subst eo34) | ((with_reducible refine gate_st (p := 10) rfl ?_); refine pS 11 10 0 [.int .i64 t1021, .int .i64 t1022, .slice Xo32 t1023.length ko32, .slice Xo33 t1026.length ko33, .slice Xo34 t1029.length ko34] HM rfl rfl ?_; clear HM; intro w35 HM) | ((with_reducible refine gate_st (p := 11) rfl ?_); refine pS 12 11 0 [.bool t1032, .string t1033, .string t1034] HM rfl rfl ?_; clear HM; intro w36 HM))
     replace HM := nzM HM
     replace H := IB H
     rcases H with ⟨c37, H⟩ | ⟨c37, H⟩
     ·subst c37
      replace H := GD H; obtain ⟨c41, H⟩ := H
      have LMc41 := Aside0.mk c41
      clear c41
      have H' := Aside0.mk H
      clear H
      obtain ⟨hcz38_0, hcz38_1, hcz38_2, hcz38_3, hcz38_4, hfz38_0, hfz38_1, hfz38_2, hfz38_3, hfz38_4⟩ := bk5 (HM.bx 11 rfl)
      go_wp2_with (first | ((with_reducible refine gate_st (p := 6) rfl ?_); refine pS 6 6 0 [.int .i64 t1021, .int .i64 t1022, .slice Xo32 t1023.length ko32, .slice Xo33 t1026.length ko33, .slice Xo34 t1029.length ko34] HM rfl rfl ?_; clear HM; intro w39 HM; obtain ⟨hcz40_0, hcz40_1, hcz40_2, hfz40_0, hfz40_1, hfz40_2⟩ := bk3 (HM.bx 12 rfl)) | ((with_reducible refine gate_dst (N := 38) rfl ?_); refine pL 38 k34 34 [(⟨t1032, t1033, t1034⟩ : S34)] [.bool t1032, .string t1033, .string t1034] (Reps.c3 (show Kd.M k34 _ _ _ (⟨t1032, t1033, t1034⟩ : S34) [.bool t1032, .string t1033, .string t1034] from (k34_mkM _ _ _ (⟨t1032, t1033, t1034⟩ : S34))) (Reps.none _ _)) HM rfl ?_; clear HM; intro v43 w42 HM; obtain ⟨Xv43, kv43, ev43⟩ := HM.rdR 13 rfl; subst ev43) | ((with_reducible refine gate_builtin (b := .append) (xs := #[.tmp 36, .tmp 38]) rfl ?_); refine pA 0 (.tmp 36) (.tmp 38) 46 34 k34 u7 x7_1 [(⟨t1032, t1033, t1034⟩ : S34)] Xv43 ([(⟨t1032, t1033, t1034⟩ : S34)].length) kv43 HM rfl Try.underlying46 info34 rfl (HM.CR 13 rfl).2.2 (by have h_ := LMc41.out; simp only [List.length_singleton]; omega) ?_; clear HM; intro v1039 w44 HM))
      go_roundg k1
      case measure => have := HK1.out; omega
      case rel => exact ⟨((x7_1 ++ [(⟨t1032, t1033, t1034⟩ : S34)])), (wrap64 (x22_1 + 1)), (t1021), (t1022), (t1023), (t1026), (t1029), (.slice Xo32 t1023.length ko32), (.slice Xo33 t1026.length ko33), (.slice Xo34 t1029.length ko34), RS, H', ⟨by have := HK1.out; omega⟩, (MD HM).pick [0, 8, 9, 10, 4, 5, 6]⟩
     ·subst c37
      simp only [Option.some.injEq, Prod.mk.injEq] at H
      obtain ⟨rfl, rfl, rfl, rfl, rfl, rfl⟩ := H
      obtain ⟨hcz45_0, hcz45_1, hcz45_2, hcz45_3, hcz45_4, hfz45_0, hfz45_1, hfz45_2, hfz45_3, hfz45_4⟩ := bk5 (HM.bx 6 rfl)
      go_wp2_with (first | ((with_reducible refine gate_st (p := 4) rfl ?_); refine pS 5 4 0 [.int .i64 x1016000_1, .int .i64 x1016001_1, .slice Xo27 x1016002_1.length ko27, .slice Xo28 x1016003_1.length ko28, .slice Xo29 x1016004_1.length ko29] HM rfl rfl ?_; clear HM; intro w46 HM))
      refine bodyPost_ret (results_ct rfl _ _ gb1002 32 #[.int .i64 x1016000_1, .int .i64 x1016001_1, .slice Xo27 x1016002_1.length ko27, .slice Xo28 x1016003_1.length ko28, .slice Xo29 x1016004_1.length ko29] (0, 0) _ rfl (HM.bx 5 rfl) Try.underlying32 rfl (by kernel_rfl)) rfl ?_
      exact ⟨_, _, _, _, ER, (MD HM).pick [1, 2, 3, 0]⟩
    ·have c18b0 : decide (x22_1 < (l1.length : Int)) = false := decide_eq_false c18
     clear c18
     (first | rw [c18b0] | (simp only [i64_w, i32_w]; rw [c18b0]) | skip)
     simp only [Option.some.injEq, Prod.mk.injEq] at H
     obtain ⟨rfl, rfl, rfl, rfl, rfl, rfl⟩ := H
     obtain ⟨hcz47_0, hcz47_1, hcz47_2, hcz47_3, hcz47_4, hfz47_0, hfz47_1, hfz47_2, hfz47_3, hfz47_4⟩ := bk5 (HM.bx 6 rfl)
     obtain ⟨Xo48, ko48, eo48⟩ := HM.rdR 1 rfl
     subst eo48
     obtain ⟨Xo49, ko49, eo49⟩ := HM.rdR 2 rfl
     subst eo49
     obtain ⟨Xo50, ko50, eo50⟩ := HM.rd 3 rfl
     subst eo50
     go_wp2_with (first | ((with_reducible refine gate_st (p := 4) rfl ?_); refine pS 5 4 0 [.int .i64 x1016000_1, .int .i64 x1016001_1, .slice Xo48 x1016002_1.length ko48, .slice Xo49 x1016003_1.length ko49, .slice Xo50 x1016004_1.length ko50] HM rfl rfl ?_; clear HM; intro w51 HM))
     refine bodyPost_ret (results_ct rfl _ _ gb1002 32 #[.int .i64 x1016000_1, .int .i64 x1016001_1, .slice Xo48 x1016002_1.length ko48, .slice Xo49 x1016003_1.length ko49, .slice Xo50 x1016004_1.length ko50] (0, 0) _ rfl (HM.bx 5 rfl) Try.underlying32 rfl (by kernel_rfl)) rfl ?_
     exact ⟨_, _, _, _, ER, (MD HM).pick [1, 2, 3, 0]⟩
 ·subst c8
  simp only [Option.some.injEq, Prod.mk.injEq] at H
  obtain ⟨rfl, rfl, rfl, rfl, rfl, rfl⟩ := H
  go_wp2_with (first | ((with_reducible refine gate_st (p := 4) rfl ?_); refine pS 1 4 0 [.int .i64 0, .int .i64 0, .slice none 0 0, .slice none 0 0, .slice none 0 0] HM rfl rfl ?_; clear HM; intro w52 HM; replace HM := HM.nl k95 95; replace HM := HM.nl k95 95; replace HM := HM.nl (Kd.int .i64) 3; replace HM := HM.toQ 4 rfl; replace HM := HM.nl k34 34))
  refine bodyPost_ret (results_ct rfl _ _ gb1002 32 #[.int .i64 0, .int .i64 0, .slice none 0 0, .slice none 0 0, .slice none 0 0] (0, 0) _ rfl (HM.bx 1 rfl) Try.underlying32 rfl (by kernel_rfl)) rfl ?_
  exact ⟨_, _, _, _, ER, (MD HM).pick [2, 3, 4, 5]⟩
def laws_toOp.f (a0_0 : Int) (a0_1 : ByteArray) (a0_2 : ByteArray) : Option (Int × ByteArray × ByteArray) := some (a0_0, a0_1, a0_2)
set_option maxHeartbeats 8000000 in
set_option maxRecDepth 100000 in
theorem laws_toOp.calls (a0_0 : Int) (a0_1 : ByteArray) (a0_2 : ByteArray) (r1 : Int) (r2 : ByteArray) (r3 : ByteArray) (w : World)  (h : laws_toOp.f a0_0 a0_1 a0_2 = some (r1, r2, r3)) :
  Calls Try.prog 10 #[.agg #[.int .i64 a0_0, .string a0_1, .string a0_2]] w fun e w' => e = .returned (.agg #[.int .i64 r1, .string r2, .string r3]) ∧ Mem w [] w' [] := by
 have hu27 := Try.underlying27
 have hu38 := Try.underlying38
 have HM := Mem.nil w
 have H := h
 clear h
 unfold laws_toOp.f at H
 go_enter Try.func10, Try.ntmps10
 simp only [Option.some.injEq, Prod.mk.injEq] at H
 obtain ⟨rfl, rfl, rfl⟩ := H
 go_wp2_with (first | ((with_reducible refine gate_dst (N := 1) rfl ?_); refine pB 1 27 [.int .i64 a0_0, .string a0_1, .string a0_2] HM rfl ?_; clear HM; intro gb527 w2 HM) | ((with_reducible refine gate_dst (N := 2) rfl ?_); refine pB 2 38 [.int .i64 0, .string (⟨#[]⟩ : ByteArray), .string (⟨#[]⟩ : ByteArray)] HM rfl ?_; clear HM; intro gb528 w3 HM) | ((with_reducible refine gate_dst (N := 3) rfl ?_); refine pB 3 38 [.int .i64 0, .string (⟨#[]⟩ : ByteArray), .string (⟨#[]⟩ : ByteArray)] HM rfl ?_; clear HM; intro gb529 w4 HM; obtain ⟨hcz5_0, hcz5_1, hcz5_2, hfz5_0, hfz5_1, hfz5_2⟩ := bk3 (HM.bx 0 rfl)) | ((with_reducible refine gate_st (p := 6) rfl ?_); refine pS 2 6 0 [.int .i64 a0_0] HM rfl rfl ?_; clear HM; intro w6 HM; obtain ⟨hcz7_0, hcz7_1, hcz7_2, hfz7_0, hfz7_1, hfz7_2⟩ := bk3 (HM.bx 0 rfl)) | ((with_reducible refine gate_st (p := 9) rfl ?_); refine pS 2 9 1 [.string a0_1] HM rfl rfl ?_; clear HM; intro w8 HM; obtain ⟨hcz9_0, hcz9_1, hcz9_2, hfz9_0, hfz9_1, hfz9_2⟩ := bk3 (HM.bx 0 rfl)) | ((with_reducible refine gate_st (p := 12) rfl ?_); refine pS 2 12 2 [.string a0_2] HM rfl rfl ?_; clear HM; intro w10 HM; obtain ⟨hcz11_0, hcz11_1, hcz11_2, hfz11_0, hfz11_1, hfz11_2⟩ := bk3 (HM.bx 2 rfl)) | ((with_reducible refine gate_st (p := 2) rfl ?_); refine pS 1 2 0 [.int .i64 a0_0, .string a0_1, .string a0_2] HM rfl rfl ?_; clear HM; intro w12 HM))
 refine bodyPost_ret (results_cell_row rfl _ _ gb528 38 #[.int .i64 a0_0, .string a0_1, .string a0_2] (0, 0) _ rfl (HM.bx 1 rfl) Try.underlying38 rfl (by kernel_rfl)) rfl ?_
 exact ⟨ER, (MD HM).pick []⟩
def laws_toOpS.l0 : Nat → List (S27) → List (S38) → Int → Option ((List (S38)))
 | 0, _, _, _ => none
 | k + 1, x0, x3, x4 => if x4 < (x0.length : Int) then (if 0 ≤ x4 then ((laws_toOp.f ((rd_T27 x0 x4).f0) ((rd_T27 x0 x4).f1) ((rd_T27 x0 x4).f2)).bind fun bt1049 => (if x4 < (x3.length : Int) then (laws_toOpS.l0 k x0 (x3.set (x4 : Int).toNat (⟨bt1049.1, bt1049.2.1, bt1049.2.2⟩ : S38)) (wrap64 (x4 + 1))) else (none))) else (none)) else (some x3)
def laws_toOpS.f (k : Nat) (l0 : List (S27)) : Option ((List (S38))) := if 0 ≤ (l0.length : Int) then (if ((l0.length : Int) : Int).toNat ≤ 7036874417766 then (laws_toOpS.l0 k l0 (List.replicate ((l0.length : Int) : Int).toNat z38) 0) else (none)) else (none)
theorem laws_toOpS.mono_l : ∀ k, (∀ y0 y1 y2, LeO (laws_toOpS.l0 k y0 y1 y2) (laws_toOpS.l0 (k + 1) y0 y1 y2))
 | 0 => fun _ _ _ r h => by simp [laws_toOpS.l0] at h
 | k + 1 => by
  have ih0 := laws_toOpS.mono_l k
  ·intro y0 y1 y2
   unfold laws_toOpS.l0
   repeat' first | (with_reducible first | exact ih0 _ _ _ | exact LeO.refl _ | exact LeO.none _ | refine LeO.ite ?_ ?_ | refine LeO.bind ?_ (fun _ => ?_)) | exact ih0 _ _ _ | exact LeO.none _ | refine LeO.ite ?_ ?_ | refine LeO.bind ?_ (fun _ => ?_)
theorem laws_toOpS.mono : ∀ a0 k, LeO (laws_toOpS.f k a0) (laws_toOpS.f (k + 1) a0) := by
 intro a0 k
 have ih0 := laws_toOpS.mono_l k
 unfold laws_toOpS.f
 repeat' first | (with_reducible first | exact ih0 _ _ _ | exact LeO.refl _ | exact LeO.none _ | refine LeO.ite ?_ ?_ | refine LeO.bind ?_ (fun _ => ?_)) | exact ih0 _ _ _ | exact LeO.none _ | refine LeO.ite ?_ ?_ | refine LeO.bind ?_ (fun _ => ?_)
set_option maxHeartbeats 8000000 in
set_option maxRecDepth 100000 in
theorem laws_toOpS.calls (k : Nat) (A0 : Option Addr) (c0 : Nat) (l0 : List (S27)) (r : List (S38)) (w : World) (hr0 : Kd.C k27 w A0 l0.length l0) (hc0 : l0.length ≤ c0) (h : laws_toOpS.f k l0 = some r) :
  Calls Try.prog 18 #[.slice A0 l0.length c0] w fun e w' => ∃ v0_ : Value, e = .returned (v0_) ∧ Mem w [] w' [rowR k38 38 v0_ r] := by
 have hu27 := Try.underlying27
 have hu38 := Try.underlying38
 have HR0 := Aside0.mk hr0
 have HC0 := Aside0.mk hc0
 clear hr0 hc0
 have HM := Mem.nil w
 have H := h
 clear h
 unfold laws_toOpS.f at H
 go_enter Try.func18, Try.ntmps18
 replace H := GD H; obtain ⟨c2, H⟩ := H
 have c2b0 := eq_true c2
 have c2b1 : decide (0 ≤ (l0.length : Int)) = true := decide_eq_true c2
 clear c2
 replace H := GD H; obtain ⟨c3, H⟩ := H
 have c3b0 := eq_true c3
 have c3b1 : decide (((l0.length : Int) : Int).toNat ≤ 7036874417766) = true := decide_eq_true c3
 clear c3
 have H' := Aside0.mk H
 clear H
 go_wp2_with (first | ((with_reducible refine gate_dst (N := 7) rfl ?_); refine pM 7 k38 38 49 _ _ (l0.length : Int) (.agg #[(.int .i64 0), (.string ⟨#[]⟩), (.string ⟨#[]⟩)]) 40 z38 HM rfl Try.underlying49 info38 (of_decide_eq_true AS) (Nat.le_trans (Nat.mul_le_mul_right _ (of_decide_eq_true AS : (l0.length : Int).toNat ≤ 7036874417766)) (by omega)) (hzero := (k38_mkM _ _ _ z38)) ?_; clear HM; intro v1046 w4 HM))
 go_loopg [4] k (fun kq v4 w' => ∃ (x3_1 : List (S38)) (x4_1 : Int), v4 = .int .i64 x4_1 ∧ Aside0 (laws_toOpS.l0 kq l0 x3_1 x4_1 = some r) ∧ Aside0 (kq ≤ k) ∧ Mem w [] w' [rowR k38 38 v1046 x3_1])
 case atStart => exact ⟨((List.replicate ((l0.length : Int) : Int).toNat z38)), (0), RS, H', ⟨Nat.le_refl _⟩, (MD HM).pick [0]⟩
 case round =>
  clear H' HM
  obtain ⟨x3_1, x4_1, rfl, HA, HK1, HM⟩ := hrel
  cases gk with
  | zero => exact absurd HA.out (by simp [laws_toOpS.l0])
  | succ k1 =>
   have H := HA.out
   clear HA
   simp only [laws_toOpS.l0] at H
   go_upto_if 11 with (fail)
   replace H := IT H; rcases H with ⟨c5, H⟩ | ⟨c5, H⟩
   ·have c5b0 : decide (x4_1 < (l0.length : Int)) = true := decide_eq_true c5
    clear c5
    (first | rw [c5b0] | (simp only [i64_w, i32_w]; rw [c5b0]) | skip)
    replace H := GD H; obtain ⟨c6, H⟩ := H
    have c6b0 : decide (0 ≤ x4_1) = true := decide_eq_true c6
    clear c6
    replace H := BN H; obtain ⟨⟨t1049, t1050, t1051⟩, A7, H⟩ := H
    replace H := GD H; obtain ⟨c9, H⟩ := H
    have c9b0 : decide (x4_1 < (x3_1.length : Int)) = true := decide_eq_true c9
    clear c9
    have H' := Aside0.mk H
    clear H
    have p1048 : 0 ≤ (x4_1 : Int) := of_decide_eq_true AS
    have q1048 : (x4_1 : Int) < (l0.length : Int) := of_decide_eq_true AS
    obtain ⟨ad1048, e1048, hx1048_0, hx1048_1, hx1048_2⟩ := at_T27 (HM.came HR0.out) x4_1 p1048 q1048
    cases e1048
    replace p1048 := eq_true p1048
    replace q1048 := eq_true q1048
    go_wp2_with (first | ((with_reducible refine gate_callee (f := 10) rfl ?_); refine pC (some 20) rfl #[.agg #[.int .i64 ((rd_T27 l0 x4_1).f0), .string ((rd_T27 l0 x4_1).f1), .string ((rd_T27 l0 x4_1).f2)]] rfl Try.func10 (laws_toOp.calls ((rd_T27 l0 x4_1).f0) ((rd_T27 l0 x4_1).f1) ((rd_T27 l0 x4_1).f2) t1049 t1050 t1051 _ A7.out) ?_; rintro e w8 ⟨rfl, hR⟩; refine ⟨_, rfl, ?_⟩; replace HM := HM.call hR; clear hR; obtain ⟨Xo11, ko11, eo11⟩ := HM.rdR 0 rfl; subst eo11; have p10 : 0 ≤ (x4_1 : Int) := of_decide_eq_true AS; have q10 : (x4_1 : Int) < ((x3_1.length : Int) : Int) := of_decide_eq_true AS; obtain ⟨go10, ef10⟩ := HM.form 0 rfl (by have h_ := (HM.CR 0 rfl).1; omega); subst ef10; obtain ⟨hcc10, hfr10⟩ := HM.el 0 rfl z38 (x4_1 : Int) p10 (by have h_ := (HM.CR 0 rfl).1; omega) [.int .i64 ((rd_T38 x3_1 x4_1).f0), .string ((rd_T38 x3_1 x4_1).f1), .string ((rd_T38 x3_1 x4_1).f2)] (fun _ _ h => k38_openM h); have hx10_0 : w8.cell? ⟨go10, (x4_1 : Int).toNat * 3, none⟩ = some (.int .i64 ((rd_T38 x3_1 x4_1).f0)) := (by have h_ := hcc10 0 _ rfl; first | exact h_ | (simp only [show (k38).sz = 3 from rfl, Nat.mul_one, Nat.add_zero] at h_; exact h_) | simpa using h_); have hf10_0 : w8.frozen? ⟨go10, (x4_1 : Int).toNat * 3, none⟩ = false := (by have h_ := hfr10 0; first | exact h_ | (simp only [show (k38).sz = 3 from rfl, Nat.mul_one, Nat.add_zero] at h_; exact h_) | simpa using h_); have hx10_1 : w8.cell? ⟨go10, (x4_1 : Int).toNat * 3 + 1, none⟩ = some (.string ((rd_T38 x3_1 x4_1).f1)) := (by have h_ := hcc10 1 _ rfl; first | exact h_ | (simp only [show (k38).sz = 3 from rfl, Nat.mul_one, Nat.add_zero] at h_; exact h_) | simpa using h_); have hf10_1 : w8.frozen? ⟨go10, (x4_1 : Int).toNat * 3 + 1, none⟩ = false := (by have h_ := hfr10 1; first | exact h_ | (simp only [show (k38).sz = 3 from rfl, Nat.mul_one, Nat.add_zero] at h_; exact h_) | simpa using h_); have hx10_2 : w8.cell? ⟨go10, (x4_1 : Int).toNat * 3 + 2, none⟩ = some (.string ((rd_T38 x3_1 x4_1).f2)) := (by have h_ := hcc10 2 _ rfl; first | exact h_ | (simp only [show (k38).sz = 3 from rfl, Nat.mul_one, Nat.add_zero] at h_; exact h_) | simpa using h_); have hf10_2 : w8.frozen? ⟨go10, (x4_1 : Int).toNat * 3 + 2, none⟩ = false := (by have h_ := hfr10 2; first | exact h_ | (simp only [show (k38).sz = 3 from rfl, Nat.mul_one, Nat.add_zero] at h_; exact h_) | simpa using h_); clear hcc10 hfr10; replace p10 := eq_true p10; replace q10 := eq_true q10) | ((with_reducible refine gate_st (p := 21) rfl ?_); refine pPR 0 21 (x4_1 : Int) 0 [.int .i64 t1049, .string t1050, .string t1051] k38 38 x3_1 (⟨t1049, t1050, t1051⟩ : S38) z38 [.int .i64 ((rd_T38 x3_1 x4_1).f0), .string ((rd_T38 x3_1 x4_1).f1), .string ((rd_T38 x3_1 x4_1).f2)] HM rfl rfl (of_decide_eq_true AS) (by have h_ : (x4_1 : Int) < ((x3_1.length : Int) : Int) := of_decide_eq_true AS; have e_ := (HM.CR 0 rfl).1; omega) (fun _ _ h => k38_openM h) (k38_mkM _ _ _ (⟨t1049, t1050, t1051⟩ : S38)) ?_; clear HM; intro w12 HM))
    go_roundg k1
    case measure => have := HK1.out; omega
    case rel => exact ⟨((x3_1.set (x4_1 : Int).toNat (⟨t1049, t1050, t1051⟩ : S38))), (wrap64 (x4_1 + 1)), RS, H', ⟨by have := HK1.out; omega⟩, (MD HM).pick [0]⟩
   ·have c5b0 : decide (x4_1 < (l0.length : Int)) = false := decide_eq_false c5
    clear c5
    (first | rw [c5b0] | (simp only [i64_w, i32_w]; rw [c5b0]) | skip)
    obtain rfl := Option.some.inj H
    go_wp2
    go_ret
    exact ⟨_, ER, (MD HM).pick [0]⟩
end Go.Proofs.Ytdeijmofaapgdaa.G

namespace Go.Proofs.Ytdeijmofaapgdaa.G
open Go.RowKit Go.Proofs.YtdeijmofaapgdaaW.PrintWords Go.Proofs.YtdeijmofaapgdaaW.PrintLast Go.Proofs.YtdeijmofaapgdaaW.PrintMore Go.Proofs.Ytdeijmofaapgdaa.Sh
attribute [local go_sem] max2_int min2_int max_two min_two max_three min_three max_four min_four
set_option linter.unusedVariables false
set_option linter.unusedSimpArgs false
def impl_within.f (a0 : Int) (a1 : Int) (a2 : Int) : Option (Bool) := if a0 ≥ a1 then (some (decide (a0 ≤ a2))) else (some false)
set_option maxHeartbeats 8000000 in
set_option maxRecDepth 100000 in
theorem impl_within.calls (a0 : Int) (a1 : Int) (a2 : Int) (r : Bool) (w : World) (h : impl_within.f a0 a1 a2 = some r) :
  Calls Try.prog 55 #[.int .i64 a0, .int .i64 a1, .int .i64 a2] w fun e w' => e = .returned (.bool r) ∧ Drawn0 w w' := by
 have H : (if a0 ≥ a1 then (some (decide (a0 ≤ a2))) else (some false)) = some r := h
 clear h
 by_cases c4 : a0 ≥ a1
 ·rw [if_pos c4] at H
  have c4b0 : decide (a1 ≤ a0) = true := decide_eq_true c4
  clear c4
  obtain rfl := Option.some.inj H
  go_enter Try.func55, Try.ntmps55
  go_wp2
  go_ret
  exact ⟨by first | rfl | (simp; done) | (simp [*]; done), DR⟩
 ·rw [if_neg c4] at H
  have c4b0 : decide (a1 ≤ a0) = false := decide_eq_false c4
  clear c4
  obtain rfl := Option.some.inj H
  go_enter Try.func55, Try.ntmps55
  go_wp2
  go_ret
  exact ⟨by first | rfl | (simp; done) | (simp [*]; done), DR⟩
end Go.Proofs.Ytdeijmofaapgdaa.G

namespace Go.Proofs.Ytdeijmofaapgdaa.Man
open Go.RowKit Go.Proofs.YtdeijmofaapgdaaW.PrintWords Go.Proofs.YtdeijmofaapgdaaW.PrintLast Go.Proofs.YtdeijmofaapgdaaW.PrintMore
set_option linter.unusedVariables false
theorem wsucc_ {i : Nat} (h : i < 9223372036854775807) : wrap64 ((i : Int) + 1) = ((i + 1 : Nat) : Int) := by
 unfold wrap64
 omega
section
variable {P : Program}
theorem cycle_len (zc : Array Value) (n : Nat) (h : 0 < n) : (Builtin.zeroCells zc n).toList.length = n * zc.size := by
 simp [Builtin.zeroCells]
end
end Go.Proofs.Ytdeijmofaapgdaa.Man

namespace Go.Proofs.Ytdeijmofaapgdaa.G
open Go.RowKit Go.Proofs.YtdeijmofaapgdaaW.PrintWords Go.Proofs.YtdeijmofaapgdaaW.PrintLast Go.Proofs.YtdeijmofaapgdaaW.PrintMore Go.Proofs.Ytdeijmofaapgdaa.Sh
attribute [local go_sem] max2_int min2_int max_two min_two max_three min_three max_four min_four
set_option linter.unusedVariables false
set_option linter.unusedSimpArgs false
open Go.Proofs.Ytdeijmofaapgdaa.Man
def impl_Three_ghosts.f (a0 : Int) (a1 : Int) : Option Int := some (max 1 (wrap64 (a0 - a1)))
set_option maxHeartbeats 2000000 in
set_option maxRecDepth 100000 in
theorem impl_Three_ghosts.calls (g : Nat) (a0 : Int) (a1 : Int) (x2 x3 x4 : Value) (r : Int) (w : World) (hb : w.heap[g]? = some (.cells #[.int .i64 a0, .int .i64 a1, x2, x3, x4] 32 (0, 0))) (h : impl_Three_ghosts.f a0 a1 = some r) :
  Calls Try.prog 56 #[.pointer (some ⟨g, 0, none⟩)] w fun e w' => e = .returned (.int .i64 r) ∧ ∃ nd, w' = w.drewN nd := by
 unfold impl_Three_ghosts.f at h
 obtain rfl := Option.some.inj h
 clear h
 have hu45 := Try.underlying32
 have c0 : w.cell? ⟨g, 0, none⟩ = some (.int .i64 a0) := blk_cell hb 0
 have c1 : w.cell? ⟨g, 1, none⟩ = some (.int .i64 a1) := blk_cell hb 1
 have c2 : w.drew.cell? ⟨g, 0, none⟩ = some (.int .i64 a0) := blk_cell (blk_drew hb) 0
 have c3 : w.drew.cell? ⟨g, 1, none⟩ = some (.int .i64 a1) := blk_cell (blk_drew hb) 1
 have mixed : Try.prog.follows .mixedOrders = true := by kernel_rfl
 clear hb
 go_enter Try.func56, Try.ntmps56
 go_wp2
 go_region_o
 go_wp2
 ·go_ret
  exact ⟨by rw [show max 1 (wrap64 (a0 - a1)) = wrap64 (a0 - a1) by omega]; rfl, 1, rfl⟩
 ·go_ret
  exact ⟨by rw [show max 1 (wrap64 (a0 - a1)) = 1 by omega]; rfl, 1, rfl⟩
end Go.Proofs.Ytdeijmofaapgdaa.G

namespace Go.Proofs.Ytdeijmofaapgdaa.G
open Go.RowKit Go.Proofs.YtdeijmofaapgdaaW.PrintWords Go.Proofs.YtdeijmofaapgdaaW.PrintLast Go.Proofs.YtdeijmofaapgdaaW.PrintMore Go.Proofs.Ytdeijmofaapgdaa.Sh
attribute [local go_sem] max2_int min2_int max_two min_two max_three min_three max_four min_four
set_option linter.unusedVariables false
set_option linter.unusedSimpArgs false
def impl_isNum.f (a0 : Int) : Option (Bool) := (impl_within.f a0 0 4294967295).bind fun t531 => (some t531)
set_option maxHeartbeats 8000000 in
set_option maxRecDepth 100000 in
theorem impl_isNum.calls (a0 : Int) (r : Bool) (w : World) (h : impl_isNum.f a0 = some r) :
  Calls Try.prog 57 #[.int .i64 a0] w fun e w' => e = .returned (.bool r) ∧ Drawn0 w w' := by
 have H : ((impl_within.f a0 0 4294967295).bind fun t531 => (some t531)) = some r := h
 clear h
 replace H := BS H
 obtain ⟨t531, A20, H⟩ := H
 have A2 := Aside0.mk A20
 clear A20
 obtain rfl := Option.some.inj H
 go_enter Try.func57, Try.ntmps57
 go_wp2_with (first | ((with_reducible refine gate_callee (f := 55) rfl ?_); refine goesL_ (some 4) rfl rfl Try.func55 (by kernel_rfl) rfl #[.int .i64 a0, .int .i64 0, .int .i64 4294967295] rfl AQ ?_; (with_reducible refine (impl_within.calls a0 0 4294967295 t531 _ A2.out).mono ?_); rintro e w' ⟨rfl, ⟨nd, rfl⟩⟩; refine ⟨_, rfl, ?_⟩))
 go_ret
 exact ⟨by first | rfl | (simp; done) | (simp [*]; done), DR⟩
def slices_Index_int_int.l0 : Nat → List Int → Int → Int → Int → Option (Int)
 | 0, _, _, _, _ => none
 | k + 1, x0, x1, x7, x8 => if x8 < x7 then (if 0 ≤ x8 then (if x8 < (x0.length : Int) then (if x1 = (rd x0 x8) then (some x8) else (slices_Index_int_int.l0 k x0 x1 x7 (wrap64 (x8 + 1)))) else (none)) else (none)) else (some (-1))
def slices_Index_int_int.f (k : Nat) (l0 : List Int) (a1 : Int) : Option (Int) := slices_Index_int_int.l0 k l0 a1 (l0.length : Int) 0
theorem slices_Index_int_int.mono_l : ∀ k, (∀ y0 y1 y2 y3, LeO (slices_Index_int_int.l0 k y0 y1 y2 y3) (slices_Index_int_int.l0 (k + 1) y0 y1 y2 y3))
 | 0 => fun _ _ _ _ r h => by simp [slices_Index_int_int.l0] at h
 | k + 1 => by
  have ih0 := slices_Index_int_int.mono_l k
  ·intro y0 y1 y2 y3
   unfold slices_Index_int_int.l0
   repeat' first | (with_reducible first | exact ih0 _ _ _ _ | exact LeO.refl _ | exact LeO.none _ | refine LeO.ite ?_ ?_ | refine LeO.bind ?_ (fun _ => ?_)) | exact ih0 _ _ _ _ | exact LeO.none _ | refine LeO.ite ?_ ?_ | refine LeO.bind ?_ (fun _ => ?_)
theorem slices_Index_int_int.mono : ∀ a0 a1 k, LeO (slices_Index_int_int.f k a0 a1) (slices_Index_int_int.f (k + 1) a0 a1) := by
 intro a0 a1 k
 have ih0 := slices_Index_int_int.mono_l k
 unfold slices_Index_int_int.f
 repeat' first | (with_reducible first | exact ih0 _ _ _ _ | exact LeO.refl _ | exact LeO.none _ | refine LeO.ite ?_ ?_ | refine LeO.bind ?_ (fun _ => ?_)) | exact ih0 _ _ _ _ | exact LeO.none _ | refine LeO.ite ?_ ?_ | refine LeO.bind ?_ (fun _ => ?_)
set_option maxHeartbeats 8000000 in
set_option maxRecDepth 100000 in
theorem slices_Index_int_int.calls (k : Nat) (A0 : Option Addr) (c0 : Nat) (l0 : List Int) (a1 : Int) (r : Int) (w : World) (hr0 : Kd.C (Kd.int .i64) w A0 l0.length l0) (hc0 : l0.length ≤ c0) (h : slices_Index_int_int.f k l0 a1 = some r) :
  Calls Try.prog 88 #[.slice A0 l0.length c0, .int .i64 a1] w fun e w' => e = .returned (.int .i64 r) ∧ Drawn0 w w' := by
 have HR0 := Aside0.mk hr0
 have HC0 := Aside0.mk hc0
 clear hr0 hc0
 have H : (slices_Index_int_int.l0 k l0 a1 (l0.length : Int) 0) = some r := h
 clear h
 have H' := Aside0.mk H
 clear H
 go_enter Try.func88, Try.ntmps88
 go_wp2
 go_loopg [8] k (fun kq v8 w' => ∃ (x8_1 : Int), v8 = .int .i64 x8_1 ∧ Aside0 (slices_Index_int_int.l0 kq l0 a1 (l0.length : Int) x8_1 = some r) ∧ Aside0 (kq ≤ k) ∧ Drawn0 w w')
 case atStart => exact ⟨(0), RS, H', ⟨Nat.le_refl _⟩, DR⟩
 case round =>
  clear H'
  try clear p2
  obtain ⟨x8_1, rfl, HA, HK1, ⟨m1, rfl⟩⟩ := hrel
  cases gk with
  | zero => exact absurd HA.out (by simp [slices_Index_int_int.l0])
  | succ k1 =>
   have H := HA.out
   clear HA
   simp only [slices_Index_int_int.l0] at H
   by_cases c3 : x8_1 < (l0.length : Int)
   ·rw [if_pos c3] at H
    have c3b0 : decide (x8_1 < (l0.length : Int)) = true := decide_eq_true c3
    clear c3
    by_cases c4 : 0 ≤ x8_1
    ·rw [if_pos c4] at H
     have c4b0 : decide (0 ≤ x8_1) = true := decide_eq_true c4
     clear c4
     by_cases c5 : x8_1 < (l0.length : Int)
     ·rw [if_pos c5] at H
      have c5b0 : decide (x8_1 < (l0.length : Int)) = true := decide_eq_true c5
      clear c5
      by_cases c6 : a1 = (rd l0 x8_1)
      ·rw [if_pos c6] at H
       have c6b0 : (a1 == (rd l0 x8_1)) = true := beq_iff_eq.mpr c6
       have c6b1 : (a1 != (rd l0 x8_1)) = false := bne_eq_false_iff_eq.mpr c6
       clear c6
       obtain rfl := Option.some.inj H
       have p533 : 0 ≤ (x8_1 : Int) := of_decide_eq_true AS
       have q533 : x8_1 < (l0.length : Int) := of_decide_eq_true AS
       obtain ⟨ad533, e533, hx533_0⟩ := Kd.at_int HR0.out x8_1 p533 q533
       cases e533
       replace p533 := eq_true p533
       replace q533 := eq_true q533
       go_wp2
       go_ret
       exact ⟨by first | rfl | (simp; done) | (simp [*]; done), DR⟩
      ·rw [if_neg c6] at H
       have c6b0 : (a1 == (rd l0 x8_1)) = false := beq_eq_false_iff_ne.mpr c6
       have c6b1 : (a1 != (rd l0 x8_1)) = true := bne_iff_ne.mpr c6
       have H' := Aside0.mk H
       clear H
       have p533 : 0 ≤ (x8_1 : Int) := of_decide_eq_true AS
       have q533 : x8_1 < (l0.length : Int) := of_decide_eq_true AS
       obtain ⟨ad533, e533, hx533_0⟩ := Kd.at_int HR0.out x8_1 p533 q533
       cases e533
       replace p533 := eq_true p533
       replace q533 := eq_true q533
       go_wp2
       go_roundg k1
       case measure => have := HK1.out; omega
       case rel => exact ⟨(wrap64 (x8_1 + 1)), RS, H', ⟨by have := HK1.out; omega⟩, DR⟩
     ·rw [if_neg c5] at H
      exact absurd H (by simp)
    ·rw [if_neg c4] at H
     exact absurd H (by simp)
   ·rw [if_neg c3] at H
    have c3b0 : decide (x8_1 < (l0.length : Int)) = false := decide_eq_false c3
    clear c3
    obtain rfl := Option.some.inj H
    go_wp2
    go_ret
    exact ⟨by first | rfl | (simp; done) | (simp [*]; done), DR⟩
def slices_Contains_int_int.f (k : Nat) (l0 : List Int) (a1 : Int) : Option (Bool) := (slices_Index_int_int.f k l0 a1).bind fun t535 => (some (decide (t535 ≥ 0)))
theorem slices_Contains_int_int.mono : ∀ a0 a1 k, LeO (slices_Contains_int_int.f k a0 a1) (slices_Contains_int_int.f (k + 1) a0 a1) := by
 intro a0 a1 k
 unfold slices_Contains_int_int.f
 repeat' first | (with_reducible first | exact slices_Index_int_int.mono _ _ _ | exact LeO.refl _ | exact LeO.none _ | refine LeO.ite ?_ ?_ | refine LeO.bind ?_ (fun _ => ?_)) | exact slices_Index_int_int.mono _ _ _ | exact LeO.none _ | refine LeO.ite ?_ ?_ | refine LeO.bind ?_ (fun _ => ?_)
set_option maxHeartbeats 8000000 in
set_option maxRecDepth 100000 in
theorem slices_Contains_int_int.calls (k : Nat) (A0 : Option Addr) (c0 : Nat) (l0 : List Int) (a1 : Int) (r : Bool) (w : World) (hr0 : Kd.C (Kd.int .i64) w A0 l0.length l0) (hc0 : l0.length ≤ c0) (h : slices_Contains_int_int.f k l0 a1 = some r) :
  Calls Try.prog 58 #[.slice A0 l0.length c0, .int .i64 a1] w fun e w' => e = .returned (.bool r) ∧ Drawn0 w w' := by
 have HR0 := Aside0.mk hr0
 have HC0 := Aside0.mk hc0
 clear hr0 hc0
 have H : ((slices_Index_int_int.f k l0 a1).bind fun t535 => (some (decide (t535 ≥ 0)))) = some r := h
 clear h
 replace H := BS H
 obtain ⟨t535, A30, H⟩ := H
 have A3 := Aside0.mk A30
 clear A30
 obtain rfl := Option.some.inj H
 go_enter Try.func58, Try.ntmps58
 go_wp2_with (first | ((with_reducible refine gate_callee (f := 88) rfl ?_); refine goesL_ (some 7) rfl rfl Try.func88 (by kernel_rfl) rfl #[.slice A0 l0.length c0, .int .i64 a1] rfl AQ ?_; (with_reducible refine (slices_Index_int_int.calls k _ _ l0 a1 t535 _ ?side1 ?side2 A3.out).mono ?_); (case side1 => repeat (first | exact HR0.out | (with_reducible refine Kd.C_alloc ?_ _) | (with_reducible refine Kd.C_drewN ?_ _) | (with_reducible refine Kd.C_drew ?_))); (case side2 => exact HC0.out); rintro e w' ⟨rfl, ⟨nd, rfl⟩⟩; refine ⟨_, rfl, ?_⟩))
 go_ret
 exact ⟨by first | rfl | (simp; done) | (simp [*]; done), DR⟩
end Go.Proofs.Ytdeijmofaapgdaa.G

namespace Go.Proofs.Ytdeijmofaapgdaa.G
open Go.RowKit Go.Proofs.YtdeijmofaapgdaaW.PrintWords Go.Proofs.YtdeijmofaapgdaaW.PrintLast Go.Proofs.YtdeijmofaapgdaaW.PrintMore Go.Proofs.Ytdeijmofaapgdaa.Sh
attribute [local go_sem] max2_int min2_int max_two min_two max_three min_three max_four min_four
set_option linter.unusedVariables false
set_option linter.unusedSimpArgs false
open Go.Proofs.Ytdeijmofaapgdaa.Mm
def impl_copyItems.f (l0 : List (S95)) : Option ((List (S95))) := if ([] : List (S95)).length + l0.length < 3518437208883 then (some (([] : List (S95)) ++ l0)) else (none)
set_option maxHeartbeats 8000000 in
set_option maxRecDepth 100000 in
theorem impl_copyItems.calls (A0 : Option Addr) (c0 : Nat) (l0 : List (S95)) (r : List (S95)) (w : World) (hr0 : Kd.C k95 w A0 l0.length l0) (hc0 : l0.length ≤ c0) (h : impl_copyItems.f l0 = some r) :
  Calls Try.prog 59 #[.slice A0 l0.length c0] w fun e w' => ∃ v0_ : Value, e = .returned (v0_) ∧ Mem w [] w' [rowR k95 95 v0_ r] := by
 have HR0 := Aside0.mk hr0
 have HC0 := Aside0.mk hc0
 clear hr0 hc0
 have HM := Mem.nil w
 have H := h
 clear h
 unfold impl_copyItems.f at H
 go_enter Try.func59, Try.ntmps59
 replace H := GD H; obtain ⟨c2, H⟩ := H
 have LMc2 := Aside0.mk c2
 clear c2
 obtain rfl := Option.some.inj H
 go_wp2_with (first | ((with_reducible refine gate_builtin (b := .append) (xs := #[.const (.slice none 0 0), .tmp 3]) rfl ?_); refine pAn (.const (.slice none 0 0)) (.tmp 3) 30 95 k95 l0 A0 l0.length c0 HM rfl Try.underlying30 info95 (HM.came HR0.out) (by have h_ := LMc2.out; omega) ?_; clear HM; intro v537 w3 HM))
 go_ret
 exact ⟨_, ER, (MD HM).pick [0]⟩
end Go.Proofs.Ytdeijmofaapgdaa.G

namespace Go.Proofs.Ytdeijmofaapgdaa.G
open Go.RowKit Go.Proofs.YtdeijmofaapgdaaW.PrintWords Go.Proofs.YtdeijmofaapgdaaW.PrintLast Go.Proofs.YtdeijmofaapgdaaW.PrintMore Go.Proofs.Ytdeijmofaapgdaa.Sh
attribute [local go_sem] max2_int min2_int max_two min_two max_three min_three max_four min_four
set_option linter.unusedVariables false
set_option linter.unusedSimpArgs false
def impl_isPlain.l0 : Nat → ByteArray → Int → Option (Bool)
 | 0, _, _ => none
 | k + 1, x0, x3 => if x3 < (x0.size : Int) then (if 0 ≤ x3 then (if (bt x0 x3) = 32 then (some false) else (if (bt x0 x3) = 10 then (some false) else (impl_isPlain.l0 k x0 (wrap64 (x3 + 1))))) else (none)) else (some true)
def impl_isPlain.f (k : Nat) (a0 : ByteArray) : Option (Bool) := impl_isPlain.l0 k a0 0
theorem impl_isPlain.mono_l : ∀ k, (∀ y0 y1, LeO (impl_isPlain.l0 k y0 y1) (impl_isPlain.l0 (k + 1) y0 y1))
 | 0 => fun _ _ r h => by simp [impl_isPlain.l0] at h
 | k + 1 => by
  have ih0 := impl_isPlain.mono_l k
  ·intro y0 y1
   unfold impl_isPlain.l0
   repeat' first | (with_reducible first | exact ih0 _ _ | exact LeO.refl _ | exact LeO.none _ | refine LeO.ite ?_ ?_ | refine LeO.bind ?_ (fun _ => ?_)) | exact ih0 _ _ | exact LeO.none _ | refine LeO.ite ?_ ?_ | refine LeO.bind ?_ (fun _ => ?_)
theorem impl_isPlain.mono : ∀ a0 k, LeO (impl_isPlain.f k a0) (impl_isPlain.f (k + 1) a0) := by
 intro a0 k
 have ih0 := impl_isPlain.mono_l k
 unfold impl_isPlain.f
 repeat' first | (with_reducible first | exact ih0 _ _ | exact LeO.refl _ | exact LeO.none _ | refine LeO.ite ?_ ?_ | refine LeO.bind ?_ (fun _ => ?_)) | exact ih0 _ _ | exact LeO.none _ | refine LeO.ite ?_ ?_ | refine LeO.bind ?_ (fun _ => ?_)
set_option maxHeartbeats 8000000 in
set_option maxRecDepth 100000 in
theorem impl_isPlain.calls (k : Nat) (a0 : ByteArray) (r : Bool) (w : World) (h : impl_isPlain.f k a0 = some r) :
  Calls Try.prog 94 #[.string a0] w fun e w' => e = .returned (.bool r) ∧ Drawn0 w w' := by
 have H : (impl_isPlain.l0 k a0 0) = some r := h
 clear h
 have H' := Aside0.mk H
 clear H
 go_enter Try.func94, Try.ntmps94
 go_wp2
 go_loopg [3] k (fun kq v3 w' => ∃ (x3_1 : Int), v3 = .int .i64 x3_1 ∧ Aside0 (impl_isPlain.l0 kq a0 x3_1 = some r) ∧ Aside0 (kq ≤ k) ∧ Drawn0 w w')
 case atStart => exact ⟨(0), RS, H', ⟨Nat.le_refl _⟩, DR⟩
 case round =>
  clear H'
  obtain ⟨x3_1, rfl, HA, HK1, ⟨m1, rfl⟩⟩ := hrel
  cases gk with
  | zero => exact absurd HA.out (by simp [impl_isPlain.l0])
  | succ k1 =>
   have H := HA.out
   clear HA
   simp only [impl_isPlain.l0] at H
   by_cases c2 : x3_1 < (a0.size : Int)
   ·rw [if_pos c2] at H
    have c2b0 : decide (x3_1 < (a0.size : Int)) = true := decide_eq_true c2
    clear c2
    by_cases c3 : 0 ≤ x3_1
    ·rw [if_pos c3] at H
     have c3b0 : decide (0 ≤ x3_1) = true := decide_eq_true c3
     clear c3
     by_cases c5 : (bt a0 x3_1) = 32
     ·rw [if_pos c5] at H
      have c5b0 : ((bt a0 x3_1) == 32) = true := beq_iff_eq.mpr c5
      have c5b1 : ((bt a0 x3_1) != 32) = false := bne_eq_false_iff_eq.mpr c5
      clear c5
      obtain rfl := Option.some.inj H
      have p4 : 0 ≤ (x3_1 : Int) := of_decide_eq_true AS
      have q4 : x3_1 < (a0.size : Int) := of_decide_eq_true AS
      have hx4 := bt_at a0 x3_1
      replace p4 := eq_true p4
      replace q4 := eq_true q4
      go_wp2
      go_ret
      exact ⟨by first | rfl | (simp; done) | (simp [*]; done), DR⟩
     ·rw [if_neg c5] at H
      have c5b0 : ((bt a0 x3_1) == 32) = false := beq_eq_false_iff_ne.mpr c5
      have c5b1 : ((bt a0 x3_1) != 32) = true := bne_iff_ne.mpr c5
      by_cases c7 : (bt a0 x3_1) = 10
      ·rw [if_pos c7] at H
       have c7b0 : ((bt a0 x3_1) == 10) = true := beq_iff_eq.mpr c7
       have c7b1 : ((bt a0 x3_1) != 10) = false := bne_eq_false_iff_eq.mpr c7
       clear c7
       obtain rfl := Option.some.inj H
       have p4 : 0 ≤ (x3_1 : Int) := of_decide_eq_true AS
       have q4 : x3_1 < (a0.size : Int) := of_decide_eq_true AS
       have hx4 := bt_at a0 x3_1
       replace p4 := eq_true p4
       replace q4 := eq_true q4
       have p6 : 0 ≤ (x3_1 : Int) := of_decide_eq_true AS
       have q6 : x3_1 < (a0.size : Int) := of_decide_eq_true AS
       have hx6 := bt_at a0 x3_1
       replace p6 := eq_true p6
       replace q6 := eq_true q6
       go_wp2
       go_ret
       exact ⟨by first | rfl | (simp; done) | (simp [*]; done), DR⟩
      ·rw [if_neg c7] at H
       have c7b0 : ((bt a0 x3_1) == 10) = false := beq_eq_false_iff_ne.mpr c7
       have c7b1 : ((bt a0 x3_1) != 10) = true := bne_iff_ne.mpr c7
       have H' := Aside0.mk H
       clear H
       have p4 : 0 ≤ (x3_1 : Int) := of_decide_eq_true AS
       have q4 : x3_1 < (a0.size : Int) := of_decide_eq_true AS
       have hx4 := bt_at a0 x3_1
       replace p4 := eq_true p4
       replace q4 := eq_true q4
       have p6 : 0 ≤ (x3_1 : Int) := of_decide_eq_true AS
       have q6 : x3_1 < (a0.size : Int) := of_decide_eq_true AS
       have hx6 := bt_at a0 x3_1
       replace p6 := eq_true p6
       replace q6 := eq_true q6
       go_wp2
       go_roundg k1
       case measure => have := HK1.out; omega
       case rel => exact ⟨(wrap64 (x3_1 + 1)), RS, H', ⟨by have := HK1.out; omega⟩, DR⟩
    ·rw [if_neg c3] at H
     exact absurd H (by simp)
   ·rw [if_neg c2] at H
    have c2b0 : decide (x3_1 < (a0.size : Int)) = false := decide_eq_false c2
    clear c2
    obtain rfl := Option.some.inj H
    go_wp2
    go_ret
    exact ⟨by first | rfl | (simp; done) | (simp [*]; done), DR⟩
end Go.Proofs.Ytdeijmofaapgdaa.G

namespace Go.Proofs.Ytdeijmofaapgdaa.G
open Go.RowKit Go.Proofs.YtdeijmofaapgdaaW.PrintWords Go.Proofs.YtdeijmofaapgdaaW.PrintLast Go.Proofs.YtdeijmofaapgdaaW.PrintMore Go.Proofs.Ytdeijmofaapgdaa.Sh
attribute [local go_sem] max2_int min2_int max_two min_two max_three min_three max_four min_four
set_option linter.unusedVariables false
set_option linter.unusedSimpArgs false
open Go.Proofs.Ytdeijmofaapgdaa.Mm
def impl_ItemOk.f (k : Nat) (a0_0 : ByteArray) (a0_1 : ByteArray) (a0_2 : Int) : Option (Bool) := (impl_within.f (a0_0.size : Int) 1 20).bind fun t540 => (if t540 = true then (if (a0_1.size : Int) ≤ 40 then ((impl_isPlain.f k a0_0).bind fun t541 => (if t541 = true then ((impl_isPlain.f k a0_1).bind fun t542 => (if t542 = true then ((impl_within.f a0_2 0 3).bind fun t543 => (some t543)) else (some false))) else (some false))) else (some false)) else (some false))
theorem impl_ItemOk.mono : ∀ a0 a1 a2 k, LeO (impl_ItemOk.f k a0 a1 a2) (impl_ItemOk.f (k + 1) a0 a1 a2) := by
 intro a0 a1 a2 k
 unfold impl_ItemOk.f
 repeat' first | (with_reducible first | exact impl_isPlain.mono _ _ | exact LeO.refl _ | exact LeO.none _ | refine LeO.ite ?_ ?_ | refine LeO.bind ?_ (fun _ => ?_)) | exact impl_isPlain.mono _ _ | exact LeO.none _ | refine LeO.ite ?_ ?_ | refine LeO.bind ?_ (fun _ => ?_)
set_option maxHeartbeats 8000000 in
set_option maxRecDepth 100000 in
theorem impl_ItemOk.calls (k : Nat) (a0_0 : ByteArray) (a0_1 : ByteArray) (a0_2 : Int) (r : Bool) (w : World)  (h : impl_ItemOk.f k a0_0 a0_1 a0_2 = some r) :
  Calls Try.prog 75 #[.agg #[.string a0_0, .string a0_1, .int .i64 a0_2]] w fun e w' => e = .returned (.bool r) ∧ Mem w [] w' [] := by
 have hu95 := Try.underlying95
 have HM := Mem.nil w
 have H := h
 clear h
 unfold impl_ItemOk.f at H
 go_enter Try.func75, Try.ntmps75
 replace H := BN H; obtain ⟨t540, A4, H⟩ := H
 replace H := IB H
 rcases H with ⟨c6, H⟩ | ⟨c6, H⟩
 ·subst c6
  replace H := IT H; rcases H with ⟨c8, H⟩ | ⟨c8, H⟩
  ·replace c8 : (a0_1.size : Int) ≤ 40 := c8
   have c8b0 : decide ((a0_1.size : Int) ≤ 40) = true := decide_eq_true c8
   have c8b1 : decide (a0_1.size ≤ 40) = true := decide_eq_true (by omega)
   clear c8
   replace H := BN H; obtain ⟨t541, A9, H⟩ := H
   replace H := IB H
   rcases H with ⟨c11, H⟩ | ⟨c11, H⟩
   ·subst c11
    replace H := BN H; obtain ⟨t542, A13, H⟩ := H
    replace H := IB H
    rcases H with ⟨c15, H⟩ | ⟨c15, H⟩
    ·subst c15
     replace H := BN H; obtain ⟨t543, A17, H⟩ := H
     obtain rfl := Option.some.inj H
     go_wp2_with (first | ((with_reducible refine gate_dst (N := 1) rfl ?_); refine pB 1 95 [.string a0_0, .string a0_1, .int .i64 a0_2] HM rfl ?_; clear HM; intro gb539 w2 HM; obtain ⟨hcz3_0, hcz3_1, hcz3_2, hfz3_0, hfz3_1, hfz3_2⟩ := bk3 (HM.bx 0 rfl)) | ((with_reducible refine gate_callee (f := 55) rfl ?_); refine pC (some 6) rfl #[.int .i64 (a0_0.size : Int), .int .i64 1, .int .i64 20] rfl Try.func55 (impl_within.calls (a0_0.size : Int) 1 20 true _ A4.out) ?_; rintro e w5 ⟨rfl, hd⟩; refine ⟨_, rfl, ?_⟩; replace HM := HM.drawn hd; clear hd; obtain ⟨hcz7_0, hcz7_1, hcz7_2, hfz7_0, hfz7_1, hfz7_2⟩ := bk3 (HM.bx 0 rfl)) | ((with_reducible refine gate_callee (f := 94) rfl ?_); refine pC (some 16) rfl #[.string a0_0] rfl Try.func94 (impl_isPlain.calls k a0_0 true _ A9.out) ?_; rintro e w10 ⟨rfl, hd⟩; refine ⟨_, rfl, ?_⟩; replace HM := HM.drawn hd; clear hd; obtain ⟨hcz12_0, hcz12_1, hcz12_2, hfz12_0, hfz12_1, hfz12_2⟩ := bk3 (HM.bx 0 rfl)) | ((with_reducible refine gate_callee (f := 94) rfl ?_); refine pC (some 21) rfl #[.string a0_1] rfl Try.func94 (impl_isPlain.calls k a0_1 true _ A13.out) ?_; rintro e w14 ⟨rfl, hd⟩; refine ⟨_, rfl, ?_⟩; replace HM := HM.drawn hd; clear hd; obtain ⟨hcz16_0, hcz16_1, hcz16_2, hfz16_0, hfz16_1, hfz16_2⟩ := bk3 (HM.bx 0 rfl)) | ((with_reducible refine gate_callee (f := 55) rfl ?_); refine pC (some 26) rfl #[.int .i64 a0_2, .int .i64 0, .int .i64 3] rfl Try.func55 (impl_within.calls a0_2 0 3 t543 _ A17.out) ?_; rintro e w18 ⟨rfl, hd⟩; refine ⟨_, rfl, ?_⟩; replace HM := HM.drawn hd; clear hd))
     go_ret
     exact ⟨ER, (MD HM).pick []⟩
    ·subst c15
     obtain rfl := Option.some.inj H
     go_wp2_with (first | ((with_reducible refine gate_dst (N := 1) rfl ?_); refine pB 1 95 [.string a0_0, .string a0_1, .int .i64 a0_2] HM rfl ?_; clear HM; intro gb539 w2 HM; obtain ⟨hcz3_0, hcz3_1, hcz3_2, hfz3_0, hfz3_1, hfz3_2⟩ := bk3 (HM.bx 0 rfl)) | ((with_reducible refine gate_callee (f := 55) rfl ?_); refine pC (some 6) rfl #[.int .i64 (a0_0.size : Int), .int .i64 1, .int .i64 20] rfl Try.func55 (impl_within.calls (a0_0.size : Int) 1 20 true _ A4.out) ?_; rintro e w5 ⟨rfl, hd⟩; refine ⟨_, rfl, ?_⟩; replace HM := HM.drawn hd; clear hd; obtain ⟨hcz7_0, hcz7_1, hcz7_2, hfz7_0, hfz7_1, hfz7_2⟩ := bk3 (HM.bx 0 rfl)) | ((with_reducible refine gate_callee (f := 94) rfl ?_); refine pC (some 16) rfl #[.string a0_0] rfl Try.func94 (impl_isPlain.calls k a0_0 true _ A9.out) ?_; rintro e w10 ⟨rfl, hd⟩; refine ⟨_, rfl, ?_⟩; replace HM := HM.drawn hd; clear hd; obtain ⟨hcz12_0, hcz12_1, hcz12_2, hfz12_0, hfz12_1, hfz12_2⟩ := bk3 (HM.bx 0 rfl)) | ((with_reducible refine gate_callee (f := 94) rfl ?_); refine pC (some 21) rfl #[.string a0_1] rfl Try.func94 (impl_isPlain.calls k a0_1 false _ A13.out) ?_; rintro e w14 ⟨rfl, hd⟩; refine ⟨_, rfl, ?_⟩; replace HM := HM.drawn hd; clear hd))
     go_ret
     exact ⟨ER, (MD HM).pick []⟩
   ·subst c11
    obtain rfl := Option.some.inj H
    go_wp2_with (first | ((with_reducible refine gate_dst (N := 1) rfl ?_); refine pB 1 95 [.string a0_0, .string a0_1, .int .i64 a0_2] HM rfl ?_; clear HM; intro gb539 w2 HM; obtain ⟨hcz3_0, hcz3_1, hcz3_2, hfz3_0, hfz3_1, hfz3_2⟩ := bk3 (HM.bx 0 rfl)) | ((with_reducible refine gate_callee (f := 55) rfl ?_); refine pC (some 6) rfl #[.int .i64 (a0_0.size : Int), .int .i64 1, .int .i64 20] rfl Try.func55 (impl_within.calls (a0_0.size : Int) 1 20 true _ A4.out) ?_; rintro e w5 ⟨rfl, hd⟩; refine ⟨_, rfl, ?_⟩; replace HM := HM.drawn hd; clear hd; obtain ⟨hcz7_0, hcz7_1, hcz7_2, hfz7_0, hfz7_1, hfz7_2⟩ := bk3 (HM.bx 0 rfl)) | ((with_reducible refine gate_callee (f := 94) rfl ?_); refine pC (some 16) rfl #[.string a0_0] rfl Try.func94 (impl_isPlain.calls k a0_0 false _ A9.out) ?_; rintro e w10 ⟨rfl, hd⟩; refine ⟨_, rfl, ?_⟩; replace HM := HM.drawn hd; clear hd))
    go_ret
    exact ⟨ER, (MD HM).pick []⟩
  ·replace c8 : ¬ ((a0_1.size : Int) ≤ 40) := c8
   have c8b0 : decide ((a0_1.size : Int) ≤ 40) = false := decide_eq_false c8
   have c8b1 : decide (a0_1.size ≤ 40) = false := decide_eq_false (by omega)
   clear c8
   obtain rfl := Option.some.inj H
   go_wp2_with (first | ((with_reducible refine gate_dst (N := 1) rfl ?_); refine pB 1 95 [.string a0_0, .string a0_1, .int .i64 a0_2] HM rfl ?_; clear HM; intro gb539 w2 HM; obtain ⟨hcz3_0, hcz3_1, hcz3_2, hfz3_0, hfz3_1, hfz3_2⟩ := bk3 (HM.bx 0 rfl)) | ((with_reducible refine gate_callee (f := 55) rfl ?_); refine pC (some 6) rfl #[.int .i64 (a0_0.size : Int), .int .i64 1, .int .i64 20] rfl Try.func55 (impl_within.calls (a0_0.size : Int) 1 20 true _ A4.out) ?_; rintro e w5 ⟨rfl, hd⟩; refine ⟨_, rfl, ?_⟩; replace HM := HM.drawn hd; clear hd; obtain ⟨hcz7_0, hcz7_1, hcz7_2, hfz7_0, hfz7_1, hfz7_2⟩ := bk3 (HM.bx 0 rfl)))
   go_ret
   exact ⟨ER, (MD HM).pick []⟩
 ·subst c6
  obtain rfl := Option.some.inj H
  go_wp2_with (first | ((with_reducible refine gate_dst (N := 1) rfl ?_); refine pB 1 95 [.string a0_0, .string a0_1, .int .i64 a0_2] HM rfl ?_; clear HM; intro gb539 w2 HM; obtain ⟨hcz3_0, hcz3_1, hcz3_2, hfz3_0, hfz3_1, hfz3_2⟩ := bk3 (HM.bx 0 rfl)) | ((with_reducible refine gate_callee (f := 55) rfl ?_); refine pC (some 6) rfl #[.int .i64 (a0_0.size : Int), .int .i64 1, .int .i64 20] rfl Try.func55 (impl_within.calls (a0_0.size : Int) 1 20 false _ A4.out) ?_; rintro e w5 ⟨rfl, hd⟩; refine ⟨_, rfl, ?_⟩; replace HM := HM.drawn hd; clear hd))
  go_ret
  exact ⟨ER, (MD HM).pick []⟩
end Go.Proofs.Ytdeijmofaapgdaa.G

namespace Go.Proofs.Ytdeijmofaapgdaa.G
open Go.RowKit Go.Proofs.YtdeijmofaapgdaaW.PrintWords Go.Proofs.YtdeijmofaapgdaaW.PrintLast Go.Proofs.YtdeijmofaapgdaaW.PrintMore Go.Proofs.Ytdeijmofaapgdaa.Sh
attribute [local go_sem] max2_int min2_int max_two min_two max_three min_three max_four min_four
set_option linter.unusedVariables false
set_option linter.unusedSimpArgs false
open Go.Proofs.Ytdeijmofaapgdaa.Man
theorem impl_itemAt.closure (key : ByteArray) (B : Nat) (W : World) (x0 x1 : ByteArray) (x2 : Int) (hcell : W.cell? ⟨B, 0, none⟩ = some (.string key)) (hB : B < W.heap.size) :
  Calls Try.prog 102 #[.agg #[.string x0, .string x1, .int .i64 x2], .pointer (some ⟨B, 0, none⟩)] W fun e w' => e = .returned (.bool (x0.toList == key.toList)) ∧ Below W.heap.size W w' := by
 have hne : B ≠ W.heap.size := by omega
 have hu := Try.underlying95
 go_enter Try.func102, Try.ntmps102
 go_wp2
 go_ret
 exact ⟨rfl, by repeat (first | exact Below.refl _ _ | apply below_alloc)⟩
def impl_itemAt.idx (key : ByteArray) : List S95 → Nat → Int
 | [], _ => -1
 | x :: r, i => if x.f0.toList = key.toList then (i : Int) else impl_itemAt.idx key r (i + 1)
theorem impl_itemAt.idx_at (key : ByteArray) (l : List S95) (i : Nat) (h : i < l.length) : impl_itemAt.idx key (l.drop i) i = if (rd_T95 l (i : Int)).f0.toList = key.toList then (i : Int) else impl_itemAt.idx key (l.drop (i + 1)) (i + 1) := by
 rw [List.drop_eq_getElem_cons h, impl_itemAt.idx]
 have e : rd_T95 l (i : Int) = l[i] := by
  show l.getD (i : Int).toNat _ = _
  simp [List.getD_eq_getElem?_getD, h]
 rw [e]
theorem impl_itemAt.idx_end (key : ByteArray) (l : List S95) (i : Nat) (h : ¬ i < l.length) : impl_itemAt.idx key (l.drop i) i = -1 := by
 rw [List.drop_of_length_le (by omega)]; rfl
set_option maxHeartbeats 1000000 in
theorem impl_itemAt.indexFunc (key : ByteArray) (B : Nat) (A0 : Option Addr) (c0 : Nat) (l0 : List S95) (w : World) (hcell : w.cell? ⟨B, 0, none⟩ = some (.string key)) (hB : B < w.heap.size) (hr0 : Kd.C k95 w A0 l0.length l0) (hc0 : l0.length ≤ c0) :
  Calls Try.prog 98 #[.slice A0 l0.length c0, .func (.func 102) #[] #[.pointer (some ⟨B, 0, none⟩)]] w fun e w' => e = .returned (.int .i64 (impl_itemAt.idx key l0 0)) ∧ Below w.heap.size w w' := by
 have HR0 := Aside0.mk hr0
 have HC0 := Aside0.mk hc0
 have HL := Aside0.mk (show l0.length ≤ 9223372036854775807 from hr0.2.1)
 have HX := Aside0.mk hcell
 have HBB := Aside0.mk hB
 clear hr0 hc0 hcell hB
 have HB := Aside0.mk (Below.refl w.heap.size w)
 obtain ⟨R, hR⟩ : ∃ R, R = impl_itemAt.idx key l0 0 := ⟨_, rfl⟩
 rw [← hR]
 have HN := Aside0.mk (show impl_itemAt.idx key (l0.drop 0) 0 = R from hR.symm)
 clear hR
 go_enter Try.func98, Try.ntmps98
 go_wp2
 go_loopg [5, 8] l0.length (fun kq _ v8 w' => ∃ x : Int, v8 = .int .i64 x ∧ Aside0 (∃ n : Nat, x = (n : Int) ∧ impl_itemAt.idx key (l0.drop n) n = R ∧ n + kq = l0.length) ∧ Aside0 (Below w.heap.size w w'))
 case atStart => exact ⟨0, rfl, ⟨0, rfl, HN.out, Nat.zero_add _⟩, HB⟩
 case round =>
  clear HN
  obtain ⟨x, rfl, HN, HB⟩ := hrel
  have hcl : ∀ y : S95, Calls Try.prog 102 #[.agg #[.string y.f0, .string y.f1, .int .i64 y.f2], .pointer (some ⟨B, 0, none⟩)] wr fun e w' => e = .returned (.bool (y.f0.toList == key.toList)) ∧ Below wr.heap.size wr w' := fun y => impl_itemAt.closure key B wr y.f0 y.f1 y.f2 ((HB.out.cell (World.block_lt_of_cell? w _ HX.out)).trans HX.out) (Nat.lt_of_lt_of_le HBB.out HB.out.size)
  by_cases hlt : x < (l0.length : Int)
  ·have hd : decide (x < (l0.length : Int)) = true := decide_eq_true hlt
   have hn0 : 0 ≤ x := by obtain ⟨n, rfl, _⟩ := HN.out; exact Int.natCast_nonneg n
   obtain ⟨ad, hA, hx0, hx1, hx2⟩ := at_T95 HR0.out x hn0 hlt
   subst hA
   replace hx0 := (HB.out.cell (World.block_lt_of_cell? w _ hx0)).trans hx0
   replace hx1 := (HB.out.cell (World.block_lt_of_cell? w _ hx1)).trans hx1
   replace hx2 := (HB.out.cell (World.block_lt_of_cell? w _ hx2)).trans hx2
   have hcall := hcl (rd_T95 l0 x)
   clear hcl
   have H0 := Aside0.mk hn0
   have H1 := Aside0.mk hlt
   replace hn0 := eq_true hn0
   replace hlt := eq_true hlt
   obtain ⟨y, hy⟩ : ∃ y, rd_T95 l0 x = y := ⟨_, rfl⟩
   rw [hy] at hx0 hx1 hx2 hcall
   have HY := Aside0.mk hy
   clear hy
   by_cases c : y.f0.toList = key.toList
   ·rw [show (y.f0.toList == key.toList) = true from beq_iff_eq.mpr c] at hcall
    have C := Aside0.mk c
    clear c
    go_wp2_with fail
    refine hcall.mono ?_
    rintro e w' ⟨rfl, hb'⟩
    have HB' := Aside0.mk hb'
    clear hb' hcall
    go_wp2
    go_ret
    refine ⟨?_, below_step HB.out HB'.out⟩
    obtain ⟨n, rfl, hn, hk⟩ := HN.out
    have e := impl_itemAt.idx_at key l0 n (Int.ofNat_lt.mp H1.out)
    rw [HY.out, if_pos C.out, hn] at e
    rw [e]
    rfl
   ·rw [show (y.f0.toList == key.toList) = false from beq_eq_false_iff_ne.mpr c] at hcall
    have C := Aside0.mk c
    clear c
    go_wp2_with fail
    refine hcall.mono ?_
    rintro e w' ⟨rfl, hb'⟩
    have HB' := Aside0.mk hb'
    clear hb' hcall
    go_wp2
    obtain ⟨n, rfl, hn, hk⟩ := HN.out
    have hlt' := Int.ofNat_lt.mp H1.out
    go_roundg (gk - 1)
    case measure => omega
    case rel =>
     have e := impl_itemAt.idx_at key l0 n hlt'
     rw [HY.out, if_neg C.out, hn] at e
     exact ⟨_, rfl, ⟨n + 1, wsucc_ (by have := HL.out; omega), e.symm, by omega⟩, ⟨below_step HB.out HB'.out⟩⟩
  ·have hd : decide (x < (l0.length : Int)) = false := decide_eq_false hlt
   clear hcl
   have HLT := Aside0.mk hlt
   clear hlt
   go_wp2
   go_ret
   obtain ⟨n, rfl, hn, hk⟩ := HN.out
   have hlt' := HLT.out
   rw [impl_itemAt.idx_end key l0 n (by omega)] at hn
   exact ⟨by rw [← hn]; rfl, HB.out⟩
def impl_itemAt.f (l0 : List S95) (a1 : ByteArray) : Option Int := some (impl_itemAt.idx a1 l0 0)
theorem impl_itemAt.calls (A0 : Option Addr) (c0 : Nat) (l0 : List S95) (a1 : ByteArray) (r : Int) (w : World) (hr0 : Kd.C k95 w A0 l0.length l0) (hc0 : l0.length ≤ c0) (h : impl_itemAt.f l0 a1 = some r) :
  Calls Try.prog 89 #[.slice A0 l0.length c0, .string a1] w fun e w' => e = .returned (.int .i64 r) ∧ Below w.heap.size w w' := by
 obtain rfl := Option.some.inj h
 have hb0 : Below w.heap.size w (w.alloc (.cells #[.string a1] 9)) := below_alloc (Below.refl _ w) _
 have hcall := impl_itemAt.indexFunc a1 w.heap.size A0 c0 l0 (w.alloc (.cells #[.string a1] 9)) (by simp) (by simp) (Kd.C_below hr0 hb0) hc0
 have HB := Aside0.mk hb0
 clear h hr0 hc0 hb0
 obtain ⟨R, hR⟩ : ∃ R, R = impl_itemAt.idx a1 l0 0 := ⟨_, rfl⟩
 rw [← hR] at hcall ⊢
 have HR := Aside0.mk hR
 clear hR
 go_enter Try.func89, Try.ntmps89
 go_wp2_with fail
 refine hcall.mono ?_
 rintro e w' ⟨rfl, hb'⟩
 have HB' := Aside0.mk hb'
 clear hb' hcall
 go_wp2
 go_ret
 exact ⟨rfl, below_step HB.out HB'.out⟩
end Go.Proofs.Ytdeijmofaapgdaa.G

namespace Go.Proofs.Ytdeijmofaapgdaa.G
open Go.RowKit Go.Proofs.YtdeijmofaapgdaaW.PrintWords Go.Proofs.YtdeijmofaapgdaaW.PrintLast Go.Proofs.YtdeijmofaapgdaaW.PrintMore Go.Proofs.Ytdeijmofaapgdaa.Sh
attribute [local go_sem] max2_int min2_int max_two min_two max_three min_three max_four min_four
set_option linter.unusedVariables false
set_option linter.unusedSimpArgs false
open Go.Proofs.Ytdeijmofaapgdaa.Mm
def impl_areItems.l0 : Nat → List (S95) → List (S95) → Int → Int → Option (Bool)
 | 0, _, _, _, _ => none
 | k + 1, x0, x5, x6, x7 => if x7 < x6 then (if 0 ≤ x7 then (if x7 < (x5.length : Int) then ((impl_ItemOk.f k ((rd_T95 x5 x7).f0) ((rd_T95 x5 x7).f1) ((rd_T95 x5 x7).f2)).bind fun t546 => (if t546 = true then ((impl_itemAt.f x0 ((rd_T95 x5 x7).f0)).bind fun t547 => (if t547 = x7 then (impl_areItems.l0 k x0 x5 x6 (wrap64 (x7 + 1))) else (some false))) else (some false))) else (none)) else (none)) else (some true)
def impl_areItems.f (k : Nat) (l0 : List (S95)) : Option (Bool) := impl_areItems.l0 k l0 l0 (l0.length : Int) 0
theorem impl_areItems.mono_l : ∀ k, (∀ y0 y1 y2 y3, LeO (impl_areItems.l0 k y0 y1 y2 y3) (impl_areItems.l0 (k + 1) y0 y1 y2 y3))
 | 0 => fun _ _ _ _ r h => by simp [impl_areItems.l0] at h
 | k + 1 => by
  have ih0 := impl_areItems.mono_l k
  ·intro y0 y1 y2 y3
   unfold impl_areItems.l0
   repeat' first | (with_reducible first | exact ih0 _ _ _ _ | exact impl_ItemOk.mono _ _ _ _ | exact LeO.refl _ | exact LeO.none _ | refine LeO.ite ?_ ?_ | refine LeO.bind ?_ (fun _ => ?_)) | exact ih0 _ _ _ _ | exact impl_ItemOk.mono _ _ _ _ | exact LeO.none _ | refine LeO.ite ?_ ?_ | refine LeO.bind ?_ (fun _ => ?_)
theorem impl_areItems.mono : ∀ a0 k, LeO (impl_areItems.f k a0) (impl_areItems.f (k + 1) a0) := by
 intro a0 k
 have ih0 := impl_areItems.mono_l k
 unfold impl_areItems.f
 repeat' first | (with_reducible first | exact ih0 _ _ _ _ | exact impl_ItemOk.mono _ _ _ _ | exact LeO.refl _ | exact LeO.none _ | refine LeO.ite ?_ ?_ | refine LeO.bind ?_ (fun _ => ?_)) | exact ih0 _ _ _ _ | exact impl_ItemOk.mono _ _ _ _ | exact LeO.none _ | refine LeO.ite ?_ ?_ | refine LeO.bind ?_ (fun _ => ?_)
set_option maxHeartbeats 8000000 in
set_option maxRecDepth 100000 in
theorem impl_areItems.calls (k : Nat) (A0 : Option Addr) (c0 : Nat) (l0 : List (S95)) (r : Bool) (w : World) (hr0 : Kd.C k95 w A0 l0.length l0) (hc0 : l0.length ≤ c0) (h : impl_areItems.f k l0 = some r) :
  Calls Try.prog 60 #[.slice A0 l0.length c0] w fun e w' => e = .returned (.bool r) ∧ Mem w [] w' [] := by
 have hu95 := Try.underlying95
 have HR0 := Aside0.mk hr0
 have HC0 := Aside0.mk hc0
 clear hr0 hc0
 have HM := Mem.nil w
 have H := h
 clear h
 unfold impl_areItems.f at H
 go_enter Try.func60, Try.ntmps60
 have H' := Aside0.mk H
 clear H
 go_wp2
 go_loopg [7] k (fun kq v7 w' => ∃ (x7_1 : Int), v7 = .int .i64 x7_1 ∧ Aside0 (impl_areItems.l0 kq l0 l0 (l0.length : Int) x7_1 = some r) ∧ Aside0 (kq ≤ k) ∧ Mem w [] w' [])
 case atStart => exact ⟨(0), RS, H', ⟨Nat.le_refl _⟩, (MD HM).pick []⟩
 case round =>
  clear H' HM
  obtain ⟨x7_1, rfl, HA, HK1, HM⟩ := hrel
  cases gk with
  | zero => exact absurd HA.out (by simp [impl_areItems.l0])
  | succ k1 =>
   have H := HA.out
   clear HA
   simp only [impl_areItems.l0] at H
   go_upto_if 8 with (fail)
   replace H := IT H; rcases H with ⟨c2, H⟩ | ⟨c2, H⟩
   ·have c2b0 : decide (x7_1 < (l0.length : Int)) = true := decide_eq_true c2
    clear c2
    (first | rw [c2b0] | (simp only [i64_w, i32_w]; rw [c2b0]) | skip)
    replace H := GD H; obtain ⟨c3, H⟩ := H
    have c3b0 : decide (0 ≤ x7_1) = true := decide_eq_true c3
    clear c3
    replace H := GD H; obtain ⟨c4, H⟩ := H
    have c4b0 : decide (x7_1 < (l0.length : Int)) = true := decide_eq_true c4
    clear c4
    replace H := BN H; obtain ⟨t546, A8, H⟩ := H
    replace H := IB H
    rcases H with ⟨c10, H⟩ | ⟨c10, H⟩
    ·subst c10
     replace H := BN H; obtain ⟨t547, A12, H⟩ := H
     have p544 : 0 ≤ (x7_1 : Int) := of_decide_eq_true AS
     have q544 : (x7_1 : Int) < (l0.length : Int) := of_decide_eq_true AS
     obtain ⟨ad544, e544, hx544_0, hx544_1, hx544_2⟩ := at_T95 (HM.came HR0.out) x7_1 p544 q544
     cases e544
     replace p544 := eq_true p544
     replace q544 := eq_true q544
     go_upto_if 22 with (first | ((with_reducible refine gate_dst (N := 4) rfl ?_); refine pB 4 95 [.string (⟨#[]⟩ : ByteArray), .string (⟨#[]⟩ : ByteArray), .int .i64 0] HM rfl ?_; clear HM; intro gb545 w5 HM) | ((with_reducible refine gate_st (p := 4) rfl ?_); refine pS 0 4 0 [.string ((rd_T95 l0 x7_1).f0), .string ((rd_T95 l0 x7_1).f1), .int .i64 ((rd_T95 l0 x7_1).f2)] HM rfl rfl ?_; clear HM; intro w6 HM; obtain ⟨hcz7_0, hcz7_1, hcz7_2, hfz7_0, hfz7_1, hfz7_2⟩ := bk3 (HM.bx 0 rfl)) | ((with_reducible refine gate_callee (f := 75) rfl ?_); refine pC (some 13) rfl #[.agg #[.string ((rd_T95 l0 x7_1).f0), .string ((rd_T95 l0 x7_1).f1), .int .i64 ((rd_T95 l0 x7_1).f2)]] rfl Try.func75 (impl_ItemOk.calls k1 ((rd_T95 l0 x7_1).f0) ((rd_T95 l0 x7_1).f1) ((rd_T95 l0 x7_1).f2) true _ A8.out) ?_; rintro e w9 ⟨rfl, hR⟩; refine ⟨_, rfl, ?_⟩; replace HM := HM.call hR; clear hR; obtain ⟨hcz11_0, hcz11_1, hcz11_2, hfz11_0, hfz11_1, hfz11_2⟩ := bk3 (HM.bx 0 rfl)) | ((with_reducible refine gate_callee (f := 89) rfl ?_); refine pC (some 19) rfl #[.slice (some ad544) l0.length c0, .string ((rd_T95 l0 x7_1).f0)] rfl Try.func89 (impl_itemAt.calls (some ad544) c0 l0 ((rd_T95 l0 x7_1).f0) t547 _ (HM.came HR0.out) HC0.out A12.out) ?_; rintro e w13 ⟨rfl, hb⟩; refine ⟨_, rfl, ?_⟩; replace HM := HM.below hb; clear hb))
     replace HM := nzM HM
     replace H := IT H; rcases H with ⟨c14, H⟩ | ⟨c14, H⟩
     ·have c14b0 : (t547 == x7_1) = true := beq_iff_eq.mpr c14
      have c14b1 : (t547 != x7_1) = false := bne_eq_false_iff_eq.mpr c14
      clear c14
      (first | rw [c14b0] | (simp only [i64_w, i32_w]; rw [c14b0]) | skip)
      have H' := Aside0.mk H
      clear H
      go_wp2
      go_roundg k1
      case measure => have := HK1.out; omega
      case rel => exact ⟨(wrap64 (x7_1 + 1)), RS, H', ⟨by have := HK1.out; omega⟩, (MD HM).pick []⟩
     ·have c14b0 : (t547 == x7_1) = false := beq_eq_false_iff_ne.mpr c14
      have c14b1 : (t547 != x7_1) = true := bne_iff_ne.mpr c14
      (first | rw [c14b0] | (simp only [i64_w, i32_w]; rw [c14b0]) | skip)
      obtain rfl := Option.some.inj H
      go_wp2
      go_ret
      exact ⟨ER, (MD HM).pick []⟩
    ·subst c10
     obtain rfl := Option.some.inj H
     have p544 : 0 ≤ (x7_1 : Int) := of_decide_eq_true AS
     have q544 : (x7_1 : Int) < (l0.length : Int) := of_decide_eq_true AS
     obtain ⟨ad544, e544, hx544_0, hx544_1, hx544_2⟩ := at_T95 (HM.came HR0.out) x7_1 p544 q544
     cases e544
     replace p544 := eq_true p544
     replace q544 := eq_true q544
     go_wp2_with (first | ((with_reducible refine gate_dst (N := 4) rfl ?_); refine pB 4 95 [.string (⟨#[]⟩ : ByteArray), .string (⟨#[]⟩ : ByteArray), .int .i64 0] HM rfl ?_; clear HM; intro gb545 w5 HM) | ((with_reducible refine gate_st (p := 4) rfl ?_); refine pS 0 4 0 [.string ((rd_T95 l0 x7_1).f0), .string ((rd_T95 l0 x7_1).f1), .int .i64 ((rd_T95 l0 x7_1).f2)] HM rfl rfl ?_; clear HM; intro w6 HM; obtain ⟨hcz7_0, hcz7_1, hcz7_2, hfz7_0, hfz7_1, hfz7_2⟩ := bk3 (HM.bx 0 rfl)) | ((with_reducible refine gate_callee (f := 75) rfl ?_); refine pC (some 13) rfl #[.agg #[.string ((rd_T95 l0 x7_1).f0), .string ((rd_T95 l0 x7_1).f1), .int .i64 ((rd_T95 l0 x7_1).f2)]] rfl Try.func75 (impl_ItemOk.calls k1 ((rd_T95 l0 x7_1).f0) ((rd_T95 l0 x7_1).f1) ((rd_T95 l0 x7_1).f2) false _ A8.out) ?_; rintro e w9 ⟨rfl, hR⟩; refine ⟨_, rfl, ?_⟩; replace HM := HM.call hR; clear hR))
     go_ret
     exact ⟨ER, (MD HM).pick []⟩
   ·have c2b0 : decide (x7_1 < (l0.length : Int)) = false := decide_eq_false c2
    clear c2
    (first | rw [c2b0] | (simp only [i64_w, i32_w]; rw [c2b0]) | skip)
    obtain rfl := Option.some.inj H
    go_wp2
    go_ret
    exact ⟨ER, (MD HM).pick []⟩
mutual
def impl_ThreeOk.j0 : Nat → Bool → Int → Int → List (S95) → List (S95) → List Int → Option (Bool)
 | 0, _, _, _, _, _, _ => none
 | k + 1, x24, x549000, x549001, x549002, x549003, x549004 => if x24 = true then (some false) else (impl_ThreeOk.l0 k x549004 (x549004.length : Int) 0 x549000 x549001 x549002 x549003 x549004)
def impl_ThreeOk.l0 : Nat → List Int → Int → Int → Int → Int → List (S95) → List (S95) → List Int → Option (Bool)
 | 0, _, _, _, _, _, _, _, _ => none
 | k + 1, x26, x27, x28, x549000, x549001, x549002, x549003, x549004 => if x28 < x27 then (if 0 ≤ x28 then (if x28 < (x26.length : Int) then ((impl_isNum.f (rd x26 x28)).bind fun t560 => (if t560 = true then (if x28 ≤ (x549004.length : Int) then ((slices_Contains_int_int.f k (x549004.take (x28 : Int).toNat) (rd x26 x28)).bind fun t562 => (if t562 = true then (some false) else (impl_ThreeOk.l0 k x26 x27 (wrap64 (x28 + 1)) x549000 x549001 x549002 x549003 x549004))) else (none)) else (some false))) else (none)) else (none)) else ((impl_copyItems.f x549002).bind fun t552 => (if t552.length + x549003.length < 3518437208883 then ((some (t552 ++ x549003 : List (S95))).bind fun y555 => (if (y555.length : Int) ≤ x549000 then ((impl_areItems.f k y555).bind fun t558 => (some t558)) else (some false))) else (none)))
end
def impl_ThreeOk.f (k : Nat) (a0_0 : Int) (a0_1 : Int) (l0_2 : List (S95)) (l0_3 : List (S95)) (l0_4 : List Int) : Option (Bool) := (impl_within.f a0_0 1 60).bind fun t549 => (if t549 = true then ((impl_within.f a0_1 1 a0_0).bind fun t550 => (if t550 = true then ((impl_Three_ghosts.f a0_0 a0_1).bind fun t551 => (impl_ThreeOk.j0 k (decide ((l0_4.length : Int) > t551)) a0_0 a0_1 l0_2 l0_3 l0_4)) else (impl_ThreeOk.j0 k true a0_0 a0_1 l0_2 l0_3 l0_4))) else (impl_ThreeOk.j0 k true a0_0 a0_1 l0_2 l0_3 l0_4))
theorem impl_ThreeOk.mono_l : ∀ k, (∀ y0 y1 y2 y3 y4 y5, LeO (impl_ThreeOk.j0 k y0 y1 y2 y3 y4 y5) (impl_ThreeOk.j0 (k + 1) y0 y1 y2 y3 y4 y5)) ∧ (∀ y0 y1 y2 y3 y4 y5 y6 y7, LeO (impl_ThreeOk.l0 k y0 y1 y2 y3 y4 y5 y6 y7) (impl_ThreeOk.l0 (k + 1) y0 y1 y2 y3 y4 y5 y6 y7))
 | 0 => ⟨fun _ _ _ _ _ _ r h => by simp [impl_ThreeOk.j0] at h, fun _ _ _ _ _ _ _ _ r h => by simp [impl_ThreeOk.l0] at h⟩
 | k + 1 => by
  obtain ⟨ih0, ih1⟩ := impl_ThreeOk.mono_l k
  refine ⟨?_, ?_⟩
  ·intro y0 y1 y2 y3 y4 y5
   unfold impl_ThreeOk.j0
   repeat' first | (with_reducible first | exact ih0 _ _ _ _ _ _ | exact ih1 _ _ _ _ _ _ _ _ | exact impl_areItems.mono _ _ | exact slices_Contains_int_int.mono _ _ _ | exact LeO.refl _ | exact LeO.none _ | refine LeO.ite ?_ ?_ | refine LeO.bind ?_ (fun _ => ?_)) | exact ih0 _ _ _ _ _ _ | exact ih1 _ _ _ _ _ _ _ _ | exact impl_areItems.mono _ _ | exact slices_Contains_int_int.mono _ _ _ | exact LeO.none _ | refine LeO.ite ?_ ?_ | refine LeO.bind ?_ (fun _ => ?_)
  ·intro y0 y1 y2 y3 y4 y5 y6 y7
   unfold impl_ThreeOk.l0
   repeat' first | (with_reducible first | exact ih0 _ _ _ _ _ _ | exact ih1 _ _ _ _ _ _ _ _ | exact impl_areItems.mono _ _ | exact slices_Contains_int_int.mono _ _ _ | exact LeO.refl _ | exact LeO.none _ | refine LeO.ite ?_ ?_ | refine LeO.bind ?_ (fun _ => ?_)) | exact ih0 _ _ _ _ _ _ | exact ih1 _ _ _ _ _ _ _ _ | exact impl_areItems.mono _ _ | exact slices_Contains_int_int.mono _ _ _ | exact LeO.none _ | refine LeO.ite ?_ ?_ | refine LeO.bind ?_ (fun _ => ?_)
theorem impl_ThreeOk.mono : ∀ a0 a1 a2 a3 a4 k, LeO (impl_ThreeOk.f k a0 a1 a2 a3 a4) (impl_ThreeOk.f (k + 1) a0 a1 a2 a3 a4) := by
 intro a0 a1 a2 a3 a4 k
 obtain ⟨ih0, ih1⟩ := impl_ThreeOk.mono_l k
 unfold impl_ThreeOk.f
 repeat' first | (with_reducible first | exact ih0 _ _ _ _ _ _ | exact ih1 _ _ _ _ _ _ _ _ | exact impl_areItems.mono _ _ | exact slices_Contains_int_int.mono _ _ _ | exact LeO.refl _ | exact LeO.none _ | refine LeO.ite ?_ ?_ | refine LeO.bind ?_ (fun _ => ?_)) | exact ih0 _ _ _ _ _ _ | exact ih1 _ _ _ _ _ _ _ _ | exact impl_areItems.mono _ _ | exact slices_Contains_int_int.mono _ _ _ | exact LeO.none _ | refine LeO.ite ?_ ?_ | refine LeO.bind ?_ (fun _ => ?_)
def impl_ThreeOk.T1 : Bool × List (List Nat × List Nat) := (true, [([], []), ([0], [0]), ([1], [1]), ([2], [2]), ([3, 2], [3]), ([4], [4]), ([5, 4], [4, 5]), ([4], [4]), ([7, 4], [4, 7]), ([6, 8, 4, 4], [4, 6, 8]), ([9, 4], [4, 9]), ([4, 10], [4, 10]), ([11, 9], [11]), ([12], [12]), ([13, 12], [12, 13]), ([14, 12], [12, 14]), ([12, 12], [12]), ([15, 16, 12], [12, 15, 16]), ([12, 17], [12, 17])])
def impl_ThreeOk.B1 : List Nat := [0, 1, 3, 7, 15, 31, 63, 31, 159, 511, 1023, 2047, 4095, 8191, 16383, 32767, 8191, 131071, 262143]
theorem impl_ThreeOk.tab1 : rtab .any (opsOf Try.f27 1) = impl_ThreeOk.T1 := by kernel_rfl
theorem impl_ThreeOk.bits1 : waitsOk impl_ThreeOk.T1.2 impl_ThreeOk.B1 = true := by kernel_rfl
def impl_ThreeOk.T9 : Bool × List (List Nat × List Nat) := (true, [([], []), ([0], [0]), ([1], [1]), ([], []), ([3], [3]), ([2, 4, 2], [2, 4]), ([5, 5, 0, 1, 2, 3, 4, 5], [5])])
def impl_ThreeOk.B9 : List Nat := [0, 1, 3, 0, 8, 31, 63]
theorem impl_ThreeOk.tab9 : rtab .any (opsOf Try.f27 9) = impl_ThreeOk.T9 := by kernel_rfl
theorem impl_ThreeOk.bits9 : waitsOk impl_ThreeOk.T9.2 impl_ThreeOk.B9 = true := by kernel_rfl
set_option maxHeartbeats 8000000 in
set_option maxRecDepth 100000 in
theorem impl_ThreeOk.calls (k : Nat) (a0_0 : Int) (a0_1 : Int) (A0_2 : Option Addr) (c0_2 : Nat) (l0_2 : List (S95)) (A0_3 : Option Addr) (c0_3 : Nat) (l0_3 : List (S95)) (A0_4 : Option Addr) (c0_4 : Nat) (l0_4 : List Int) (r : Bool) (w : World) (hr0_2 : Kd.C k95 w A0_2 l0_2.length l0_2) (hc0_2 : l0_2.length ≤ c0_2) (hr0_3 : Kd.C k95 w A0_3 l0_3.length l0_3) (hc0_3 : l0_3.length ≤ c0_3) (hr0_4 : Kd.C (Kd.int .i64) w A0_4 l0_4.length l0_4) (hc0_4 : l0_4.length ≤ c0_4) (h : impl_ThreeOk.f k a0_0 a0_1 l0_2 l0_3 l0_4 = some r) :
  Calls Try.prog 27 #[.agg #[.int .i64 a0_0, .int .i64 a0_1, .slice A0_2 l0_2.length c0_2, .slice A0_3 l0_3.length c0_3, .slice A0_4 l0_4.length c0_4]] w fun e w' => e = .returned (.bool r) ∧ Mem w [] w' [] := by
 have hu32 := Try.underlying32
 have HR0_2 := Aside0.mk hr0_2
 have HC0_2 := Aside0.mk hc0_2
 clear hr0_2 hc0_2
 have HR0_3 := Aside0.mk hr0_3
 have HC0_3 := Aside0.mk hc0_3
 clear hr0_3 hc0_3
 have HR0_4 := Aside0.mk hr0_4
 have HC0_4 := Aside0.mk hc0_4
 clear hr0_4 hc0_4
 have HM := Mem.nil w
 have H := h
 clear h
 unfold impl_ThreeOk.f at H
 go_enter Try.func27, Try.ntmps27
 have HC3 := Aside0.mk H
 clear H
 go_upto_region 1 with (first | ((with_reducible refine gate_dst (N := 1) rfl ?_); refine pB 1 32 [.int .i64 a0_0, .int .i64 a0_1, .slice A0_2 l0_2.length c0_2, .slice A0_3 l0_3.length c0_3, .slice A0_4 l0_4.length c0_4] HM rfl ?_; clear HM; intro gb548 w2 HM))
 go_cut [24] (fun v24 wc => ∃ (kq : Nat) (x24_2 : Bool), v24 = .bool x24_2 ∧ Aside0 (impl_ThreeOk.j0 kq x24_2 a0_0 a0_1 l0_2 l0_3 l0_4 = some r) ∧ Aside0 (kq ≤ k) ∧ Mem w [] wc [box 32 gb548 [.int .i64 a0_0, .int .i64 a0_1, .slice A0_2 l0_2.length c0_2, .slice A0_3 l0_3.length c0_3, .slice A0_4 l0_4.length c0_4]])
 case first =>
  have H := HC3.out
  clear HC3
  try go_wp2
  replace H := BN H; obtain ⟨t549, A4, H⟩ := H
  replace H := IB H
  rcases H with ⟨c5, H⟩ | ⟨c5, H⟩
  ·subst c5
   replace H := BN H; obtain ⟨t550, A6, H⟩ := H
   replace H := IB H
   rcases H with ⟨c7, H⟩ | ⟨c7, H⟩
   ·subst c7
    replace H := BN H; obtain ⟨t551, A8, H⟩ := H
    refine RGN 19 [0, 1, 2, 3, 4, 5, 6, 7, 8, 9, 10, 11, 12, 13, 14, 15, 16, 17, 18] (fun a0 b a w' => a = putSel a0 b [(0, 6, .pointer (some ⟨gb548, 0, none⟩)), (1, 7, .int .i64 a0_0), (2, 8, .bool true), (3, 9, .bool (!true)), (4, 10, .bool (!true)), (5, 11, .pointer (some ⟨gb548, 1, none⟩)), (6, 12, .int .i64 a0_1), (7, 13, .pointer (some ⟨gb548, 0, none⟩)), (8, 14, .int .i64 a0_0), (9, 15, .bool true), (10, 16, .bool (!true)), (11, 17, .bool (!true)), (12, 18, .bool (!true)), (13, 19, .pointer (some ⟨gb548, 4, none⟩)), (14, 20, .slice A0_4 l0_4.length c0_4), (15, 21, .int .i64 (l0_4.length : Int)), (16, 22, .int .i64 t551), (17, 23, .bool (decide ((l0_4.length : Int) > t551))), (18, 24, .bool (decide ((l0_4.length : Int) > t551)))] ∧ Mem w [] w' [box 32 gb548 [.int .i64 a0_0, .int .i64 a0_1, .slice A0_2 l0_2.length c0_2, .slice A0_3 l0_3.length c0_3, .slice A0_4 l0_4.length c0_4]]) impl_ThreeOk.tab1 impl_ThreeOk.bits1 ?_ ?_ ?_
    ·exact ⟨PS0' rfl _, (HM.drew).pick [0]⟩
    ·clear HM
     refine steps_cons ?_ ?_
     ·rintro b a w ⟨ha, HM⟩ hb hon hoff
      refine ⟨_, rfl, fun K hK => ?_⟩
      have e1 := POF ha 1
      replace ha := Aside0.mk ha
      exact VL (.pointer (some ⟨gb548, 0, none⟩)) (hK.out _ _ ⟨PUT ha 0 hb, HM⟩)
     refine steps_cons ?_ ?_
     ·rintro b a w ⟨ha, HM⟩ hb hon hoff
      refine ⟨_, rfl, fun K hK => ?_⟩
      obtain ⟨hcz16_0, hcz16_1, hcz16_2, hcz16_3, hcz16_4, hfz16_0, hfz16_1, hfz16_2, hfz16_3, hfz16_4⟩ := bk5 (HM.bx 0 rfl)
      have e6 := PON ha 0 (hon 0 (by kernel_rfl))
      replace ha := Aside0.mk ha
      exact VL (.int .i64 a0_0) (hK.out _ _ ⟨PUT ha 1 hb, HM⟩)
     refine steps_cons ?_ ?_
     ·rintro b a w ⟨ha, HM⟩ hb hon hoff
      refine ⟨_, rfl, fun K hK => ?_⟩
      have e7 := PON ha 1 (hon 1 (by kernel_rfl))
      replace ha := Aside0.mk ha
      refine ST (eC (some 8) rfl #[.int .i64 a0_0, .int .i64 1, .int .i64 60] rfl Try.func55 (impl_within.calls a0_0 1 60 true _ A4.out) ?_ (hargs := by (simp only [List.map_toArray, List.map_cons, List.map_nil, evc, eval_of e7]) <;> rfl))
      rintro e w17 ⟨rfl, hd⟩
      refine ⟨_, rfl, ?_⟩
      replace HM := HM.drawn hd
      clear hd
      exact hK.out _ _ ⟨PUT ha 2 hb, (HM).pick [0]⟩
     refine steps_cons ?_ ?_
     ·rintro b a w ⟨ha, HM⟩ hb hon hoff
      refine ⟨_, rfl, fun K hK => ?_⟩
      have e8 := PON ha 2 (hon 2 (by kernel_rfl))
      replace ha := Aside0.mk ha
      exact VL (.bool (!true)) (hK.out _ _ ⟨PUT ha 3 hb, HM⟩)
     refine steps_cons ?_ ?_
     ·rintro b a w ⟨ha, HM⟩ hb hon hoff
      refine ⟨_, rfl, fun K hK => ?_⟩
      have e9 := PON ha 3 (hon 3 (by kernel_rfl))
      replace ha := Aside0.mk ha
      exact VL (.bool (!true)) (hK.out _ _ ⟨PUT ha 4 hb, HM⟩)
     refine steps_cons ?_ ?_
     ·rintro b a w ⟨ha, HM⟩ hb hon hoff
      refine ⟨_, rfl, fun K hK => ?_⟩
      have e1 := POF ha 1
      have e10 := PON ha 4 (hon 4 (by kernel_rfl))
      replace ha := Aside0.mk ha
      exact VL (.pointer (some ⟨gb548, 1, none⟩)) (hK.out _ _ ⟨PUT ha 5 hb, HM⟩) (hw := wanted_on rfl rfl rfl (e10.trans (by first | rfl | (simp [*]; done))))
     refine steps_cons ?_ ?_
     ·rintro b a w ⟨ha, HM⟩ hb hon hoff
      refine ⟨_, rfl, fun K hK => ?_⟩
      obtain ⟨hcz18_0, hcz18_1, hcz18_2, hcz18_3, hcz18_4, hfz18_0, hfz18_1, hfz18_2, hfz18_3, hfz18_4⟩ := bk5 (HM.bx 0 rfl)
      have e11 := PON ha 5 (hon 5 (by kernel_rfl))
      have e10 := PON ha 4 (hon 4 (by kernel_rfl))
      replace ha := Aside0.mk ha
      exact VL (.int .i64 a0_1) (hK.out _ _ ⟨PUT ha 6 hb, HM⟩) (hw := wanted_on rfl rfl rfl (e10.trans (by first | rfl | (simp [*]; done))))
     refine steps_cons ?_ ?_
     ·rintro b a w ⟨ha, HM⟩ hb hon hoff
      refine ⟨_, rfl, fun K hK => ?_⟩
      have e1 := POF ha 1
      have e10 := PON ha 4 (hon 4 (by kernel_rfl))
      replace ha := Aside0.mk ha
      exact VL (.pointer (some ⟨gb548, 0, none⟩)) (hK.out _ _ ⟨PUT ha 7 hb, HM⟩) (hw := wanted_on rfl rfl rfl (e10.trans (by first | rfl | (simp [*]; done))))
     refine steps_cons ?_ ?_
     ·rintro b a w ⟨ha, HM⟩ hb hon hoff
      refine ⟨_, rfl, fun K hK => ?_⟩
      obtain ⟨hcz19_0, hcz19_1, hcz19_2, hcz19_3, hcz19_4, hfz19_0, hfz19_1, hfz19_2, hfz19_3, hfz19_4⟩ := bk5 (HM.bx 0 rfl)
      have e13 := PON ha 7 (hon 7 (by kernel_rfl))
      have e10 := PON ha 4 (hon 4 (by kernel_rfl))
      replace ha := Aside0.mk ha
      exact VL (.int .i64 a0_0) (hK.out _ _ ⟨PUT ha 8 hb, HM⟩) (hw := wanted_on rfl rfl rfl (e10.trans (by first | rfl | (simp [*]; done))))
     refine steps_cons ?_ ?_
     ·rintro b a w ⟨ha, HM⟩ hb hon hoff
      refine ⟨_, rfl, fun K hK => ?_⟩
      have e12 := PON ha 6 (hon 6 (by kernel_rfl))
      have e14 := PON ha 8 (hon 8 (by kernel_rfl))
      have e10 := PON ha 4 (hon 4 (by kernel_rfl))
      replace ha := Aside0.mk ha
      refine ST (eC (some 15) rfl #[.int .i64 a0_1, .int .i64 1, .int .i64 a0_0] rfl Try.func55 (impl_within.calls a0_1 1 a0_0 true _ A6.out) ?_ (hargs := by (simp only [List.map_toArray, List.map_cons, List.map_nil, evc, eval_of e12, eval_of e14]) <;> rfl)) (hw := wanted_on rfl rfl rfl (e10.trans (by first | rfl | (simp [*]; done))))
      rintro e w20 ⟨rfl, hd⟩
      refine ⟨_, rfl, ?_⟩
      replace HM := HM.drawn hd
      clear hd
      exact hK.out _ _ ⟨PUT ha 9 hb, (HM).pick [0]⟩
     refine steps_cons ?_ ?_
     ·rintro b a w ⟨ha, HM⟩ hb hon hoff
      refine ⟨_, rfl, fun K hK => ?_⟩
      have e15 := PON ha 9 (hon 9 (by kernel_rfl))
      have e10 := PON ha 4 (hon 4 (by kernel_rfl))
      replace ha := Aside0.mk ha
      exact VL (.bool (!true)) (hK.out _ _ ⟨PUT ha 10 hb, HM⟩) (hw := wanted_on rfl rfl rfl (e10.trans (by first | rfl | (simp [*]; done))))
     refine steps_cons ?_ ?_
     ·rintro b a w ⟨ha, HM⟩ hb hon hoff
      refine ⟨_, rfl, fun K hK => ?_⟩
      have e10 := PON ha 4 (hon 4 (by kernel_rfl))
      have e16 := PON ha 10 (hon 10 (by kernel_rfl))
      replace ha := Aside0.mk ha
      exact VL (.bool (!true)) (hK.out _ _ ⟨PUT ha 11 hb, HM⟩)
     refine steps_cons ?_ ?_
     ·rintro b a w ⟨ha, HM⟩ hb hon hoff
      refine ⟨_, rfl, fun K hK => ?_⟩
      have e17 := PON ha 11 (hon 11 (by kernel_rfl))
      replace ha := Aside0.mk ha
      exact VL (.bool (!true)) (hK.out _ _ ⟨PUT ha 12 hb, HM⟩)
     refine steps_cons ?_ ?_
     ·rintro b a w ⟨ha, HM⟩ hb hon hoff
      refine ⟨_, rfl, fun K hK => ?_⟩
      have e1 := POF ha 1
      have e18 := PON ha 12 (hon 12 (by kernel_rfl))
      replace ha := Aside0.mk ha
      exact VL (.pointer (some ⟨gb548, 4, none⟩)) (hK.out _ _ ⟨PUT ha 13 hb, HM⟩) (hw := wanted_on rfl rfl rfl (e18.trans (by first | rfl | (simp [*]; done))))
     refine steps_cons ?_ ?_
     ·rintro b a w ⟨ha, HM⟩ hb hon hoff
      refine ⟨_, rfl, fun K hK => ?_⟩
      obtain ⟨hcz21_0, hcz21_1, hcz21_2, hcz21_3, hcz21_4, hfz21_0, hfz21_1, hfz21_2, hfz21_3, hfz21_4⟩ := bk5 (HM.bx 0 rfl)
      have e19 := PON ha 13 (hon 13 (by kernel_rfl))
      have e18 := PON ha 12 (hon 12 (by kernel_rfl))
      replace ha := Aside0.mk ha
      exact VL (.slice A0_4 l0_4.length c0_4) (hK.out _ _ ⟨PUT ha 14 hb, HM⟩) (hw := wanted_on rfl rfl rfl (e18.trans (by first | rfl | (simp [*]; done))))
     refine steps_cons ?_ ?_
     ·rintro b a w ⟨ha, HM⟩ hb hon hoff
      refine ⟨_, rfl, fun K hK => ?_⟩
      have e20 := PON ha 14 (hon 14 (by kernel_rfl))
      have e18 := PON ha 12 (hon 12 (by kernel_rfl))
      replace ha := Aside0.mk ha
      exact VL (.int .i64 (l0_4.length : Int)) (hK.out _ _ ⟨PUT ha 15 hb, HM⟩) (hw := wanted_on rfl rfl rfl (e18.trans (by first | rfl | (simp [*]; done))))
     refine steps_cons ?_ ?_
     ·rintro b a w ⟨ha, HM⟩ hb hon hoff
      refine ⟨_, rfl, fun K hK => ?_⟩
      have e1 := POF ha 1
      have e18 := PON ha 12 (hon 12 (by kernel_rfl))
      replace ha := Aside0.mk ha
      refine ST (eC (some 22) rfl #[.pointer (some ⟨gb548, 0, none⟩)] rfl Try.func56 (impl_Three_ghosts.calls gb548 a0_0 a0_1 _ _ _ t551 _ (HM.bx 0 rfl) A8.out) ?_ (hargs := by (simp only [List.map_toArray, List.map_cons, List.map_nil, evc, eval_of e1]) <;> rfl)) (hw := wanted_on rfl rfl rfl (e18.trans (by first | rfl | (simp [*]; done))))
      rintro e w22 ⟨rfl, nd_, rfl⟩
      refine ⟨_, rfl, ?_⟩
      replace HM := HM.drewN nd_
      exact hK.out _ _ ⟨PUT ha 16 hb, (HM).pick [0]⟩
     refine steps_cons ?_ ?_
     ·rintro b a w ⟨ha, HM⟩ hb hon hoff
      refine ⟨_, rfl, fun K hK => ?_⟩
      have e21 := PON ha 15 (hon 15 (by kernel_rfl))
      have e22 := PON ha 16 (hon 16 (by kernel_rfl))
      have e18 := PON ha 12 (hon 12 (by kernel_rfl))
      replace ha := Aside0.mk ha
      exact VL (.bool (decide ((l0_4.length : Int) > t551))) (hK.out _ _ ⟨PUT ha 17 hb, HM⟩) (hw := wanted_on rfl rfl rfl (e18.trans (by first | rfl | (simp [*]; done))))
     refine steps_cons ?_ ?_
     ·rintro b a w ⟨ha, HM⟩ hb hon hoff
      refine ⟨_, rfl, fun K hK => ?_⟩
      have e18 := PON ha 12 (hon 12 (by kernel_rfl))
      have e23 := PON ha 17 (hon 17 (by kernel_rfl))
      replace ha := Aside0.mk ha
      exact VL (.bool (decide ((l0_4.length : Int) > t551))) (hK.out _ _ ⟨PUT ha 18 hb, HM⟩)
     exact steps_nil
    rintro _ w23 ⟨rfl, HM⟩
    simp only [putSel, if_true, Act.put, List.setIfInBounds_toArray, List.set_cons_zero, List.set_cons_succ, gt_iff_lt, ge_iff_le]
    have H' := Aside0.mk H
    clear H
    go_wp2
    go_meet
    case rel => exact ⟨_, (decide ((l0_4.length : Int) > t551)), RS, H', ⟨by first | omega | exact Nat.le_refl _⟩, (MD HM).pick [0]⟩
   ·subst c7
    refine RGN 19 [0, 1, 2, 3, 4, 5, 6, 7, 8, 9, 10, 11, 12, 13, 14, 15, 16, 17, 18] (fun a0 b a w' => a = putSel a0 b [(0, 6, .pointer (some ⟨gb548, 0, none⟩)), (1, 7, .int .i64 a0_0), (2, 8, .bool true), (3, 9, .bool (!true)), (4, 10, .bool (!true)), (5, 11, .pointer (some ⟨gb548, 1, none⟩)), (6, 12, .int .i64 a0_1), (7, 13, .pointer (some ⟨gb548, 0, none⟩)), (8, 14, .int .i64 a0_0), (9, 15, .bool false), (10, 16, .bool (!false)), (11, 17, .bool (!false)), (12, 18, .bool (!false)), (13, 19, undef), (14, 20, undef), (15, 21, undef), (16, 22, undef), (17, 23, undef), (18, 24, .bool true)] ∧ Mem w [] w' [box 32 gb548 [.int .i64 a0_0, .int .i64 a0_1, .slice A0_2 l0_2.length c0_2, .slice A0_3 l0_3.length c0_3, .slice A0_4 l0_4.length c0_4]]) impl_ThreeOk.tab1 impl_ThreeOk.bits1 ?_ ?_ ?_
    ·exact ⟨PS0' rfl _, (HM.drew).pick [0]⟩
    ·clear HM
     refine steps_cons ?_ ?_
     ·rintro b a w ⟨ha, HM⟩ hb hon hoff
      refine ⟨_, rfl, fun K hK => ?_⟩
      have e1 := POF ha 1
      replace ha := Aside0.mk ha
      exact VL (.pointer (some ⟨gb548, 0, none⟩)) (hK.out _ _ ⟨PUT ha 0 hb, HM⟩)
     refine steps_cons ?_ ?_
     ·rintro b a w ⟨ha, HM⟩ hb hon hoff
      refine ⟨_, rfl, fun K hK => ?_⟩
      obtain ⟨hcz29_0, hcz29_1, hcz29_2, hcz29_3, hcz29_4, hfz29_0, hfz29_1, hfz29_2, hfz29_3, hfz29_4⟩ := bk5 (HM.bx 0 rfl)
      have e6 := PON ha 0 (hon 0 (by kernel_rfl))
      replace ha := Aside0.mk ha
      exact VL (.int .i64 a0_0) (hK.out _ _ ⟨PUT ha 1 hb, HM⟩)
     refine steps_cons ?_ ?_
     ·rintro b a w ⟨ha, HM⟩ hb hon hoff
      refine ⟨_, rfl, fun K hK => ?_⟩
      have e7 := PON ha 1 (hon 1 (by kernel_rfl))
      replace ha := Aside0.mk ha
      refine ST (eC (some 8) rfl #[.int .i64 a0_0, .int .i64 1, .int .i64 60] rfl Try.func55 (impl_within.calls a0_0 1 60 true _ A4.out) ?_ (hargs := by (simp only [List.map_toArray, List.map_cons, List.map_nil, evc, eval_of e7]) <;> rfl))
      rintro e w30 ⟨rfl, hd⟩
      refine ⟨_, rfl, ?_⟩
      replace HM := HM.drawn hd
      clear hd
      exact hK.out _ _ ⟨PUT ha 2 hb, (HM).pick [0]⟩
     refine steps_cons ?_ ?_
     ·rintro b a w ⟨ha, HM⟩ hb hon hoff
      refine ⟨_, rfl, fun K hK => ?_⟩
      have e8 := PON ha 2 (hon 2 (by kernel_rfl))
      replace ha := Aside0.mk ha
      exact VL (.bool (!true)) (hK.out _ _ ⟨PUT ha 3 hb, HM⟩)
     refine steps_cons ?_ ?_
     ·rintro b a w ⟨ha, HM⟩ hb hon hoff
      refine ⟨_, rfl, fun K hK => ?_⟩
      have e9 := PON ha 3 (hon 3 (by kernel_rfl))
      replace ha := Aside0.mk ha
      exact VL (.bool (!true)) (hK.out _ _ ⟨PUT ha 4 hb, HM⟩)
     refine steps_cons ?_ ?_
     ·rintro b a w ⟨ha, HM⟩ hb hon hoff
      refine ⟨_, rfl, fun K hK => ?_⟩
      have e1 := POF ha 1
      have e10 := PON ha 4 (hon 4 (by kernel_rfl))
      replace ha := Aside0.mk ha
      exact VL (.pointer (some ⟨gb548, 1, none⟩)) (hK.out _ _ ⟨PUT ha 5 hb, HM⟩) (hw := wanted_on rfl rfl rfl (e10.trans (by first | rfl | (simp [*]; done))))
     refine steps_cons ?_ ?_
     ·rintro b a w ⟨ha, HM⟩ hb hon hoff
      refine ⟨_, rfl, fun K hK => ?_⟩
      obtain ⟨hcz31_0, hcz31_1, hcz31_2, hcz31_3, hcz31_4, hfz31_0, hfz31_1, hfz31_2, hfz31_3, hfz31_4⟩ := bk5 (HM.bx 0 rfl)
      have e11 := PON ha 5 (hon 5 (by kernel_rfl))
      have e10 := PON ha 4 (hon 4 (by kernel_rfl))
      replace ha := Aside0.mk ha
      exact VL (.int .i64 a0_1) (hK.out _ _ ⟨PUT ha 6 hb, HM⟩) (hw := wanted_on rfl rfl rfl (e10.trans (by first | rfl | (simp [*]; done))))
     refine steps_cons ?_ ?_
     ·rintro b a w ⟨ha, HM⟩ hb hon hoff
      refine ⟨_, rfl, fun K hK => ?_⟩
      have e1 := POF ha 1
      have e10 := PON ha 4 (hon 4 (by kernel_rfl))
      replace ha := Aside0.mk ha
      exact VL (.pointer (some ⟨gb548, 0, none⟩)) (hK.out _ _ ⟨PUT ha 7 hb, HM⟩) (hw := wanted_on rfl rfl rfl (e10.trans (by first | rfl | (simp [*]; done))))
     refine steps_cons ?_ ?_
     ·rintro b a w ⟨ha, HM⟩ hb hon hoff
      refine ⟨_, rfl, fun K hK => ?_⟩
      obtain ⟨hcz32_0, hcz32_1, hcz32_2, hcz32_3, hcz32_4, hfz32_0, hfz32_1, hfz32_2, hfz32_3, hfz32_4⟩ := bk5 (HM.bx 0 rfl)
      have e13 := PON ha 7 (hon 7 (by kernel_rfl))
      have e10 := PON ha 4 (hon 4 (by kernel_rfl))
      replace ha := Aside0.mk ha
      exact VL (.int .i64 a0_0) (hK.out _ _ ⟨PUT ha 8 hb, HM⟩) (hw := wanted_on rfl rfl rfl (e10.trans (by first | rfl | (simp [*]; done))))
     refine steps_cons ?_ ?_
     ·rintro b a w ⟨ha, HM⟩ hb hon hoff
      refine ⟨_, rfl, fun K hK => ?_⟩
      have e12 := PON ha 6 (hon 6 (by kernel_rfl))
      have e14 := PON ha 8 (hon 8 (by kernel_rfl))
      have e10 := PON ha 4 (hon 4 (by kernel_rfl))
      replace ha := Aside0.mk ha
      refine ST (eC (some 15) rfl #[.int .i64 a0_1, .int .i64 1, .int .i64 a0_0] rfl Try.func55 (impl_within.calls a0_1 1 a0_0 false _ A6.out) ?_ (hargs := by (simp only [List.map_toArray, List.map_cons, List.map_nil, evc, eval_of e12, eval_of e14]) <;> rfl)) (hw := wanted_on rfl rfl rfl (e10.trans (by first | rfl | (simp [*]; done))))
      rintro e w33 ⟨rfl, hd⟩
      refine ⟨_, rfl, ?_⟩
      replace HM := HM.drawn hd
      clear hd
      exact hK.out _ _ ⟨PUT ha 9 hb, (HM).pick [0]⟩
     refine steps_cons ?_ ?_
     ·rintro b a w ⟨ha, HM⟩ hb hon hoff
      refine ⟨_, rfl, fun K hK => ?_⟩
      have e15 := PON ha 9 (hon 9 (by kernel_rfl))
      have e10 := PON ha 4 (hon 4 (by kernel_rfl))
      replace ha := Aside0.mk ha
      exact VL (.bool (!false)) (hK.out _ _ ⟨PUT ha 10 hb, HM⟩) (hw := wanted_on rfl rfl rfl (e10.trans (by first | rfl | (simp [*]; done))))
     refine steps_cons ?_ ?_
     ·rintro b a w ⟨ha, HM⟩ hb hon hoff
      refine ⟨_, rfl, fun K hK => ?_⟩
      have e10 := PON ha 4 (hon 4 (by kernel_rfl))
      have e16 := PON ha 10 (hon 10 (by kernel_rfl))
      replace ha := Aside0.mk ha
      exact VL (.bool (!false)) (hK.out _ _ ⟨PUT ha 11 hb, HM⟩)
     refine steps_cons ?_ ?_
     ·rintro b a w ⟨ha, HM⟩ hb hon hoff
      refine ⟨_, rfl, fun K hK => ?_⟩
      have e17 := PON ha 11 (hon 11 (by kernel_rfl))
      replace ha := Aside0.mk ha
      exact VL (.bool (!false)) (hK.out _ _ ⟨PUT ha 12 hb, HM⟩)
     refine steps_cons ?_ ?_
     ·rintro b a w ⟨ha, HM⟩ hb hon hoff
      refine ⟨_, rfl, fun K hK => ?_⟩
      have e18 := PON ha 12 (hon 12 (by kernel_rfl))
      replace ha := Aside0.mk ha
      exact VN ( wanted_off rfl rfl rfl (e18.trans (by first | rfl | (simp [*]; done)))) (hK.out _ _ ⟨PUT ha 13 hb, HM⟩)
     refine steps_cons ?_ ?_
     ·rintro b a w ⟨ha, HM⟩ hb hon hoff
      refine ⟨_, rfl, fun K hK => ?_⟩
      have e18 := PON ha 12 (hon 12 (by kernel_rfl))
      replace ha := Aside0.mk ha
      exact VN ( wanted_off rfl rfl rfl (e18.trans (by first | rfl | (simp [*]; done)))) (hK.out _ _ ⟨PUT ha 14 hb, HM⟩)
     refine steps_cons ?_ ?_
     ·rintro b a w ⟨ha, HM⟩ hb hon hoff
      refine ⟨_, rfl, fun K hK => ?_⟩
      have e18 := PON ha 12 (hon 12 (by kernel_rfl))
      replace ha := Aside0.mk ha
      exact VN ( wanted_off rfl rfl rfl (e18.trans (by first | rfl | (simp [*]; done)))) (hK.out _ _ ⟨PUT ha 15 hb, HM⟩)
     refine steps_cons ?_ ?_
     ·rintro b a w ⟨ha, HM⟩ hb hon hoff
      refine ⟨_, rfl, fun K hK => ?_⟩
      have e18 := PON ha 12 (hon 12 (by kernel_rfl))
      replace ha := Aside0.mk ha
      exact VN ( wanted_off rfl rfl rfl (e18.trans (by first | rfl | (simp [*]; done)))) (hK.out _ _ ⟨PUT ha 16 hb, HM⟩)
     refine steps_cons ?_ ?_
     ·rintro b a w ⟨ha, HM⟩ hb hon hoff
      refine ⟨_, rfl, fun K hK => ?_⟩
      have e18 := PON ha 12 (hon 12 (by kernel_rfl))
      replace ha := Aside0.mk ha
      exact VN ( wanted_off rfl rfl rfl (e18.trans (by first | rfl | (simp [*]; done)))) (hK.out _ _ ⟨PUT ha 17 hb, HM⟩)
     refine steps_cons ?_ ?_
     ·rintro b a w ⟨ha, HM⟩ hb hon hoff
      refine ⟨_, rfl, fun K hK => ?_⟩
      have e18 := PON ha 12 (hon 12 (by kernel_rfl))
      have e23 := PON ha 17 (hon 17 (by kernel_rfl))
      replace ha := Aside0.mk ha
      exact VL (.bool true) (hK.out _ _ ⟨PUT ha 18 hb, HM⟩)
     exact steps_nil
    rintro _ w34 ⟨rfl, HM⟩
    simp only [putSel, if_true, Act.put, List.setIfInBounds_toArray, List.set_cons_zero, List.set_cons_succ, gt_iff_lt, ge_iff_le]
    have H' := Aside0.mk H
    clear H
    go_wp2
    go_meet
    case rel => exact ⟨_, (true), RS, H', ⟨by first | omega | exact Nat.le_refl _⟩, (MD HM).pick [0]⟩
  ·subst c5
   refine RGN 19 [0, 1, 2, 3, 4, 5, 6, 7, 8, 9, 10, 11, 12, 13, 14, 15, 16, 17, 18] (fun a0 b a w' => a = putSel a0 b [(0, 6, .pointer (some ⟨gb548, 0, none⟩)), (1, 7, .int .i64 a0_0), (2, 8, .bool false), (3, 9, .bool (!false)), (4, 10, .bool (!false)), (5, 11, undef), (6, 12, undef), (7, 13, undef), (8, 14, undef), (9, 15, undef), (10, 16, undef), (11, 17, .bool true), (12, 18, .bool true), (13, 19, undef), (14, 20, undef), (15, 21, undef), (16, 22, undef), (17, 23, undef), (18, 24, .bool true)] ∧ Mem w [] w' [box 32 gb548 [.int .i64 a0_0, .int .i64 a0_1, .slice A0_2 l0_2.length c0_2, .slice A0_3 l0_3.length c0_3, .slice A0_4 l0_4.length c0_4]]) impl_ThreeOk.tab1 impl_ThreeOk.bits1 ?_ ?_ ?_
   ·exact ⟨PS0' rfl _, (HM.drew).pick [0]⟩
   ·clear HM
    refine steps_cons ?_ ?_
    ·rintro b a w ⟨ha, HM⟩ hb hon hoff
     refine ⟨_, rfl, fun K hK => ?_⟩
     have e1 := POF ha 1
     replace ha := Aside0.mk ha
     exact VL (.pointer (some ⟨gb548, 0, none⟩)) (hK.out _ _ ⟨PUT ha 0 hb, HM⟩)
    refine steps_cons ?_ ?_
    ·rintro b a w ⟨ha, HM⟩ hb hon hoff
     refine ⟨_, rfl, fun K hK => ?_⟩
     obtain ⟨hcz37_0, hcz37_1, hcz37_2, hcz37_3, hcz37_4, hfz37_0, hfz37_1, hfz37_2, hfz37_3, hfz37_4⟩ := bk5 (HM.bx 0 rfl)
     have e6 := PON ha 0 (hon 0 (by kernel_rfl))
     replace ha := Aside0.mk ha
     exact VL (.int .i64 a0_0) (hK.out _ _ ⟨PUT ha 1 hb, HM⟩)
    refine steps_cons ?_ ?_
    ·rintro b a w ⟨ha, HM⟩ hb hon hoff
     refine ⟨_, rfl, fun K hK => ?_⟩
     have e7 := PON ha 1 (hon 1 (by kernel_rfl))
     replace ha := Aside0.mk ha
     refine ST (eC (some 8) rfl #[.int .i64 a0_0, .int .i64 1, .int .i64 60] rfl Try.func55 (impl_within.calls a0_0 1 60 false _ A4.out) ?_ (hargs := by (simp only [List.map_toArray, List.map_cons, List.map_nil, evc, eval_of e7]) <;> rfl))
     rintro e w38 ⟨rfl, hd⟩
     refine ⟨_, rfl, ?_⟩
     replace HM := HM.drawn hd
     clear hd
     exact hK.out _ _ ⟨PUT ha 2 hb, (HM).pick [0]⟩
    refine steps_cons ?_ ?_
    ·rintro b a w ⟨ha, HM⟩ hb hon hoff
     refine ⟨_, rfl, fun K hK => ?_⟩
     have e8 := PON ha 2 (hon 2 (by kernel_rfl))
     replace ha := Aside0.mk ha
     exact VL (.bool (!false)) (hK.out _ _ ⟨PUT ha 3 hb, HM⟩)
    refine steps_cons ?_ ?_
    ·rintro b a w ⟨ha, HM⟩ hb hon hoff
     refine ⟨_, rfl, fun K hK => ?_⟩
     have e9 := PON ha 3 (hon 3 (by kernel_rfl))
     replace ha := Aside0.mk ha
     exact VL (.bool (!false)) (hK.out _ _ ⟨PUT ha 4 hb, HM⟩)
    refine steps_cons ?_ ?_
    ·rintro b a w ⟨ha, HM⟩ hb hon hoff
     refine ⟨_, rfl, fun K hK => ?_⟩
     have e10 := PON ha 4 (hon 4 (by kernel_rfl))
     replace ha := Aside0.mk ha
     exact VN ( wanted_off rfl rfl rfl (e10.trans (by first | rfl | (simp [*]; done)))) (hK.out _ _ ⟨PUT ha 5 hb, HM⟩)
    refine steps_cons ?_ ?_
    ·rintro b a w ⟨ha, HM⟩ hb hon hoff
     refine ⟨_, rfl, fun K hK => ?_⟩
     have e10 := PON ha 4 (hon 4 (by kernel_rfl))
     replace ha := Aside0.mk ha
     exact VN ( wanted_off rfl rfl rfl (e10.trans (by first | rfl | (simp [*]; done)))) (hK.out _ _ ⟨PUT ha 6 hb, HM⟩)
    refine steps_cons ?_ ?_
    ·rintro b a w ⟨ha, HM⟩ hb hon hoff
     refine ⟨_, rfl, fun K hK => ?_⟩
     have e10 := PON ha 4 (hon 4 (by kernel_rfl))
     replace ha := Aside0.mk ha
     exact VN ( wanted_off rfl rfl rfl (e10.trans (by first | rfl | (simp [*]; done)))) (hK.out _ _ ⟨PUT ha 7 hb, HM⟩)
    refine steps_cons ?_ ?_
    ·rintro b a w ⟨ha, HM⟩ hb hon hoff
     refine ⟨_, rfl, fun K hK => ?_⟩
     have e10 := PON ha 4 (hon 4 (by kernel_rfl))
     replace ha := Aside0.mk ha
     exact VN ( wanted_off rfl rfl rfl (e10.trans (by first | rfl | (simp [*]; done)))) (hK.out _ _ ⟨PUT ha 8 hb, HM⟩)
    refine steps_cons ?_ ?_
    ·rintro b a w ⟨ha, HM⟩ hb hon hoff
     refine ⟨_, rfl, fun K hK => ?_⟩
     have e10 := PON ha 4 (hon 4 (by kernel_rfl))
     replace ha := Aside0.mk ha
     exact VN ( wanted_off rfl rfl rfl (e10.trans (by first | rfl | (simp [*]; done)))) (hK.out _ _ ⟨PUT ha 9 hb, HM⟩)
    refine steps_cons ?_ ?_
    ·rintro b a w ⟨ha, HM⟩ hb hon hoff
     refine ⟨_, rfl, fun K hK => ?_⟩
     have e10 := PON ha 4 (hon 4 (by kernel_rfl))
     replace ha := Aside0.mk ha
     exact VN ( wanted_off rfl rfl rfl (e10.trans (by first | rfl | (simp [*]; done)))) (hK.out _ _ ⟨PUT ha 10 hb, HM⟩)
    refine steps_cons ?_ ?_
    ·rintro b a w ⟨ha, HM⟩ hb hon hoff
     refine ⟨_, rfl, fun K hK => ?_⟩
     have e10 := PON ha 4 (hon 4 (by kernel_rfl))
     have e16 := PON ha 10 (hon 10 (by kernel_rfl))
     replace ha := Aside0.mk ha
     exact VL (.bool true) (hK.out _ _ ⟨PUT ha 11 hb, HM⟩)
    refine steps_cons ?_ ?_
    ·rintro b a w ⟨ha, HM⟩ hb hon hoff
     refine ⟨_, rfl, fun K hK => ?_⟩
     have e17 := PON ha 11 (hon 11 (by kernel_rfl))
     replace ha := Aside0.mk ha
     exact VL (.bool true) (hK.out _ _ ⟨PUT ha 12 hb, HM⟩)
    refine steps_cons ?_ ?_
    ·rintro b a w ⟨ha, HM⟩ hb hon hoff
     refine ⟨_, rfl, fun K hK => ?_⟩
     have e18 := PON ha 12 (hon 12 (by kernel_rfl))
     replace ha := Aside0.mk ha
     exact VN ( wanted_off rfl rfl rfl (e18.trans (by first | rfl | (simp [*]; done)))) (hK.out _ _ ⟨PUT ha 13 hb, HM⟩)
    refine steps_cons ?_ ?_
    ·rintro b a w ⟨ha, HM⟩ hb hon hoff
     refine ⟨_, rfl, fun K hK => ?_⟩
     have e18 := PON ha 12 (hon 12 (by kernel_rfl))
     replace ha := Aside0.mk ha
     exact VN ( wanted_off rfl rfl rfl (e18.trans (by first | rfl | (simp [*]; done)))) (hK.out _ _ ⟨PUT ha 14 hb, HM⟩)
    refine steps_cons ?_ ?_
    ·rintro b a w ⟨ha, HM⟩ hb hon hoff
     refine ⟨_, rfl, fun K hK => ?_⟩
     have e18 := PON ha 12 (hon 12 (by kernel_rfl))
     replace ha := Aside0.mk ha
     exact VN ( wanted_off rfl rfl rfl (e18.trans (by first | rfl | (simp [*]; done)))) (hK.out _ _ ⟨PUT ha 15 hb, HM⟩)
    refine steps_cons ?_ ?_
    ·rintro b a w ⟨ha, HM⟩ hb hon hoff
     refine ⟨_, rfl, fun K hK => ?_⟩
     have e18 := PON ha 12 (hon 12 (by kernel_rfl))
     replace ha := Aside0.mk ha
     exact VN ( wanted_off rfl rfl rfl (e18.trans (by first | rfl | (simp [*]; done)))) (hK.out _ _ ⟨PUT ha 16 hb, HM⟩)
    refine steps_cons ?_ ?_
    ·rintro b a w ⟨ha, HM⟩ hb hon hoff
     refine ⟨_, rfl, fun K hK => ?_⟩
     have e18 := PON ha 12 (hon 12 (by kernel_rfl))
     replace ha := Aside0.mk ha
     exact VN ( wanted_off rfl rfl rfl (e18.trans (by first | rfl | (simp [*]; done)))) (hK.out _ _ ⟨PUT ha 17 hb, HM⟩)
    refine steps_cons ?_ ?_
    ·rintro b a w ⟨ha, HM⟩ hb hon hoff
     refine ⟨_, rfl, fun K hK => ?_⟩
     have e18 := PON ha 12 (hon 12 (by kernel_rfl))
     have e23 := PON ha 17 (hon 17 (by kernel_rfl))
     replace ha := Aside0.mk ha
     exact VL (.bool true) (hK.out _ _ ⟨PUT ha 18 hb, HM⟩)
    exact steps_nil
   rintro _ w39 ⟨rfl, HM⟩
   simp only [putSel, if_true, Act.put, List.setIfInBounds_toArray, List.set_cons_zero, List.set_cons_succ, gt_iff_lt, ge_iff_le]
   have H' := Aside0.mk H
   clear H
   go_wp2
   go_meet
   case rel => exact ⟨_, (true), RS, H', ⟨by first | omega | exact Nat.le_refl _⟩, (MD HM).pick [0]⟩
 case rest =>
  clear HC3 HM
  obtain ⟨kq, x24_2, rfl, HA, HJ2, HM⟩ := hcut
  cases kq with
  | zero => exact absurd HA.out (by simp [impl_ThreeOk.j0])
  | succ kj2 =>
   have H := HA.out
   clear HA
   simp only [impl_ThreeOk.j0] at H
   go_upto_if 24 with (fail)
   replace H := IB H
   rcases H with ⟨c40, H⟩ | ⟨c40, H⟩
   ·subst c40
    obtain rfl := Option.some.inj H
    go_wp2
    go_ret
    exact ⟨ER, (MD HM).pick []⟩
   ·subst c40
    have H' := Aside0.mk H
    clear H
    obtain ⟨hcz41_0, hcz41_1, hcz41_2, hcz41_3, hcz41_4, hfz41_0, hfz41_1, hfz41_2, hfz41_3, hfz41_4⟩ := bk5 (HM.bx 0 rfl)
    go_wp2
    go_loopg [28] kj2 (fun kq v28 w' => ∃ (x28_2 : Int), v28 = .int .i64 x28_2 ∧ Aside0 (impl_ThreeOk.l0 kq l0_4 (l0_4.length : Int) x28_2 a0_0 a0_1 l0_2 l0_3 l0_4 = some r) ∧ Aside0 (kq ≤ kj2) ∧ Mem w [] w' [box 32 gb548 [.int .i64 a0_0, .int .i64 a0_1, .slice A0_2 l0_2.length c0_2, .slice A0_3 l0_3.length c0_3, .slice A0_4 l0_4.length c0_4]])
    case atStart => exact ⟨(0), RS, H', ⟨Nat.le_refl _⟩, (MD HM).pick [0]⟩
    case round =>
     clear H' HM
     obtain ⟨x28_2, rfl, HA, HK2, HM⟩ := hrel
     cases gk with
     | zero => exact absurd HA.out (by simp [impl_ThreeOk.l0])
     | succ k2 =>
      have H := HA.out
      clear HA
      simp only [impl_ThreeOk.l0] at H
      go_upto_if 29 with (fail)
      replace H := IT H; rcases H with ⟨c42, H⟩ | ⟨c42, H⟩
      ·have c42b0 : decide (x28_2 < (l0_4.length : Int)) = true := decide_eq_true c42
       clear c42
       (first | rw [c42b0] | (simp only [i64_w, i32_w]; rw [c42b0]) | skip)
       replace H := GD H; obtain ⟨c43, H⟩ := H
       have c43b0 : decide (0 ≤ x28_2) = true := decide_eq_true c43
       clear c43
       replace H := GD H; obtain ⟨c44, H⟩ := H
       have c44b0 : decide (x28_2 < (l0_4.length : Int)) = true := decide_eq_true c44
       clear c44
       replace H := BN H; obtain ⟨t560, A45, H⟩ := H
       replace H := IB H
       rcases H with ⟨c47, H⟩ | ⟨c47, H⟩
       ·subst c47
        have c49b0 := eq_true (of_decide_eq_true AS : 0 ≤ x28_2)
        replace H := GD H; obtain ⟨c50, H⟩ := H
        have c50b0 := eq_true c50
        have c50b1 : decide (x28_2 ≤ (l0_4.length : Int)) = true := decide_eq_true c50
        clear c50
        replace H := BN H; obtain ⟨t562, A52, H⟩ := H
        have p559 : 0 ≤ (x28_2 : Int) := of_decide_eq_true AS
        have q559 : (x28_2 : Int) < (l0_4.length : Int) := of_decide_eq_true AS
        obtain ⟨ad559, e559, hx559_0⟩ := Kd.at_int (HM.came HR0_4.out) x28_2 p559 q559
        cases e559
        replace p559 := eq_true p559
        replace q559 := eq_true q559
        go_upto_if 43 with (first | ((with_reducible refine gate_callee (f := 57) rfl ?_); refine pC (some 34) rfl #[.int .i64 (rd l0_4 x28_2)] rfl Try.func57 (impl_isNum.calls (rd l0_4 x28_2) true _ A45.out) ?_; rintro e w46 ⟨rfl, hd⟩; refine ⟨_, rfl, ?_⟩; replace HM := HM.drawn hd; clear hd; obtain ⟨hcz48_0, hcz48_1, hcz48_2, hcz48_3, hcz48_4, hfz48_0, hfz48_1, hfz48_2, hfz48_3, hfz48_4⟩ := bk5 (HM.bx 0 rfl)) | ((with_reducible refine gate_sl (t := 23) rfl ?_); refine pRt 23 3 (Kd.int .i64) _ _ x28_2 l0_4 (some ad559) c0_4 rfl Try.underlying23 info3 (HM.came HR0_4.out) HC0_4.out (of_decide_eq_true AS) (of_decide_eq_true AS) ?_; intro Yx51 bx51 hYx51 hbx51; have HYx51 := Aside0.mk hYx51; have HBx51 := Aside0.mk hbx51; clear hYx51 hbx51; have hlx51 : (l0_4.take (x28_2 : Int).toNat).length = (x28_2 : Int).toNat := by rw [List.length_take]; have h_ : (x28_2 : Int) ≤ ((l0_4.length : Int) : Int) := of_decide_eq_true AS; omega) | ((with_reducible refine gate_callee (f := 58) rfl ?_); refine pC (some 42) rfl #[.slice Yx51 (l0_4.take (x28_2 : Int).toNat).length bx51, .int .i64 (rd l0_4 x28_2)] rfl Try.func58 (slices_Contains_int_int.calls k2 _ _ (l0_4.take (x28_2 : Int).toNat) (rd l0_4 x28_2) t562 _ HYx51.out HBx51.out A52.out) ?_ (hargs := by (try simp only [List.map_toArray, List.map_cons, List.map_nil]); first | done | rfl | (rw [hlx51]; rfl) | (simp only [List.length_take]; rfl)); rintro e w53 ⟨rfl, hd⟩; refine ⟨_, rfl, ?_⟩; replace HM := HM.drawn hd; clear hd))
        replace H := IB H
        rcases H with ⟨c54, H⟩ | ⟨c54, H⟩
        ·subst c54
         obtain rfl := Option.some.inj H
         go_wp2
         go_ret
         exact ⟨ER, (MD HM).pick []⟩
        ·subst c54
         have H' := Aside0.mk H
         clear H
         go_wp2
         go_roundg k2
         case measure => have := HJ2.out; have := HK2.out; omega
         case rel => exact ⟨(wrap64 (x28_2 + 1)), RS, H', ⟨by have := HJ2.out; have := HK2.out; omega⟩, (MD HM).pick [0]⟩
       ·subst c47
        obtain rfl := Option.some.inj H
        have p559 : 0 ≤ (x28_2 : Int) := of_decide_eq_true AS
        have q559 : (x28_2 : Int) < (l0_4.length : Int) := of_decide_eq_true AS
        obtain ⟨ad559, e559, hx559_0⟩ := Kd.at_int (HM.came HR0_4.out) x28_2 p559 q559
        cases e559
        replace p559 := eq_true p559
        replace q559 := eq_true q559
        go_wp2_with (first | ((with_reducible refine gate_callee (f := 57) rfl ?_); refine pC (some 34) rfl #[.int .i64 (rd l0_4 x28_2)] rfl Try.func57 (impl_isNum.calls (rd l0_4 x28_2) false _ A45.out) ?_; rintro e w46 ⟨rfl, hd⟩; refine ⟨_, rfl, ?_⟩; replace HM := HM.drawn hd; clear hd))
        go_ret
        exact ⟨ER, (MD HM).pick []⟩
      ·have c42b0 : decide (x28_2 < (l0_4.length : Int)) = false := decide_eq_false c42
       clear c42
       (first | rw [c42b0] | (simp only [i64_w, i32_w]; rw [c42b0]) | skip)
       try go_wp2
       replace H := BN H; obtain ⟨t552, A55, H⟩ := H
       replace H := GD H; obtain ⟨c56, H⟩ := H
       have LMc56 := Aside0.mk c56
       clear c56
       replace H := BLt H; obtain ⟨y555, Ny555, H⟩ := H
       replace Ny555 := Aside0.mk Ny555
       refine RGN 7 [0, 1, 2, 3, 4, 5, 6] (fun a0 b a w' => ∃ (v553 : Value) (v556 : Value), a = putSel a0 b [(0, 45, .pointer (some ⟨gb548, 2, none⟩)), (1, 46, .slice A0_2 l0_2.length c0_2), (2, 47, v553), (3, 48, .pointer (some ⟨gb548, 3, none⟩)), (4, 49, .slice A0_3 l0_3.length c0_3), (5, 50, v556), (6, 5, v556)] ∧ Mem w [] w' [box 32 gb548 [.int .i64 a0_0, .int .i64 a0_1, .slice A0_2 l0_2.length c0_2, .slice A0_3 l0_3.length c0_3, .slice A0_4 l0_4.length c0_4], sel (b 5) (rowR k95 95 v556 y555) (sel (b 2) (rowR k95 95 v553 t552) (emp))]) impl_ThreeOk.tab9 impl_ThreeOk.bits9 ?_ ?_ ?_
       ·exact ⟨.bool false, .bool false, PS0' rfl _, (HM.drew.ems 1).pick [0, 1]⟩
       ·clear HM
        refine steps_cons ?_ ?_
        ·rintro b a w ⟨v553, v556, ha, HM⟩ hb hon hoff
         refine ⟨_, rfl, fun K hK => ?_⟩
         have e1 := POF ha 1
         replace ha := Aside0.mk ha
         exact VL (.pointer (some ⟨gb548, 2, none⟩)) (hK.out _ _ ⟨v553, v556, PUT ha 0 hb, HM⟩)
        refine steps_cons ?_ ?_
        ·rintro b a w ⟨v553, v556, ha, HM⟩ hb hon hoff
         refine ⟨_, rfl, fun K hK => ?_⟩
         obtain ⟨hcz61_0, hcz61_1, hcz61_2, hcz61_3, hcz61_4, hfz61_0, hfz61_1, hfz61_2, hfz61_3, hfz61_4⟩ := bk5 (HM.bx 0 rfl)
         have e45 := PON ha 0 (hon 0 (by kernel_rfl))
         replace ha := Aside0.mk ha
         exact VL (.slice A0_2 l0_2.length c0_2) (hK.out _ _ ⟨v553, v556, PUT ha 1 hb, HM⟩)
        refine steps_cons ?_ ?_
        ·rintro b a w ⟨v553, v556, ha, HM⟩ hb hon hoff
         refine ⟨_, rfl, fun K hK => ?_⟩
         have e46 := PON ha 1 (hon 1 (by kernel_rfl))
         replace ha := Aside0.mk ha
         refine ST (eC (some 47) rfl #[.slice A0_2 l0_2.length c0_2] rfl Try.func59 (impl_copyItems.calls _ _ l0_2 t552 _ (HM.came HR0_2.out) HC0_2.out A55.out) ?_ (hargs := by (simp only [List.map_toArray, List.map_cons, List.map_nil, evc, eval_of e46]) <;> rfl))
         rintro e w62 ⟨v553, rfl, hR⟩
         refine ⟨_, rfl, ?_⟩
         replace HM := HM.call hR
         clear hR
         exact hK.out _ _ ⟨v553, v556, PUT ha 2 hb, (HM.iF 2 rfl (hoff 5 (by kernel_rfl))).pick [0, 2]⟩
        refine steps_cons ?_ ?_
        ·rintro b a w ⟨v553, v556, ha, HM⟩ hb hon hoff
         refine ⟨_, rfl, fun K hK => ?_⟩
         have e1 := POF ha 1
         replace ha := Aside0.mk ha
         exact VL (.pointer (some ⟨gb548, 3, none⟩)) (hK.out _ _ ⟨v553, v556, PUT ha 3 hb, HM⟩)
        refine steps_cons ?_ ?_
        ·rintro b a w ⟨v553, v556, ha, HM⟩ hb hon hoff
         refine ⟨_, rfl, fun K hK => ?_⟩
         obtain ⟨hcz63_0, hcz63_1, hcz63_2, hcz63_3, hcz63_4, hfz63_0, hfz63_1, hfz63_2, hfz63_3, hfz63_4⟩ := bk5 (HM.bx 0 rfl)
         have e48 := PON ha 3 (hon 3 (by kernel_rfl))
         replace ha := Aside0.mk ha
         exact VL (.slice A0_3 l0_3.length c0_3) (hK.out _ _ ⟨v553, v556, PUT ha 4 hb, HM⟩)
        refine steps_cons ?_ ?_
        ·rintro b a w ⟨v553, v556, ha, HM⟩ hb hon hoff
         refine ⟨_, rfl, fun K hK => ?_⟩
         replace HM := (HM.sF 1 rfl hb).sT 1 rfl (hon 2 (by kernel_rfl))
         have e47 := PON ha 2 (hon 2 (by kernel_rfl))
         have e49 := PON ha 4 (hon 4 (by kernel_rfl))
         replace ha := Aside0.mk ha
         refine ST (eA 1 (.tmp 47) (.tmp 49) 30 95 k95 v553 t552 l0_3 A0_3 l0_3.length c0_3 HM rfl Try.underlying30 info95 rfl (HM.came HR0_3.out) (by have h_ := LMc56.out; omega) ?_ (ops := #[]) (hw := by rfl) (hs := (eval_of e47)) (hx := (eval_of e49)))
         clear HM
         intro v556 w64 HM
         replace HM := HM.nm 1 rfl Ny555.out
         exact hK.out _ _ ⟨v553, v556, PUT (PCH ha 6 (hoff 6 (by kernel_rfl))) 5 hb, (HM).pick [0, 1]⟩
        refine steps_cons ?_ ?_
        ·rintro b a w ⟨v553, v556, ha, HM⟩ hb hon hoff
         refine ⟨_, rfl, fun K hK => ?_⟩
         have e50 := PON ha 5 (hon 5 (by kernel_rfl))
         replace ha := Aside0.mk ha
         exact VL (v556) (hK.out _ _ ⟨v553, v556, PUT ha 6 hb, HM⟩)
        exact steps_nil
       rintro _ w65 ⟨v553, v556, rfl, HM⟩
       replace HM := HM.sT 1 rfl rfl
       simp only [putSel, if_true, Act.put, List.setIfInBounds_toArray, List.set_cons_zero, List.set_cons_succ, gt_iff_lt, ge_iff_le]
       replace H := IT H; rcases H with ⟨c68, H⟩ | ⟨c68, H⟩
       ·have c68b0 : decide ((y555.length : Int) ≤ a0_0) = true := decide_eq_true c68
        clear c68
        replace H := BN H; obtain ⟨t558, A69, H⟩ := H
        obtain rfl := Option.some.inj H
        obtain ⟨Xo66, ko66, eo66⟩ := HM.rdR 1 rfl
        subst eo66
        obtain ⟨hcz67_0, hcz67_1, hcz67_2, hcz67_3, hcz67_4, hfz67_0, hfz67_1, hfz67_2, hfz67_3, hfz67_4⟩ := bk5 (HM.bx 0 rfl)
        go_wp2_with (first | ((with_reducible refine gate_callee (f := 60) rfl ?_); refine pC (some 58) rfl #[.slice Xo66 y555.length ko66] rfl Try.func60 (impl_areItems.calls k2 _ _ y555 t558 _ (HM.CR 1 rfl).2.2 (HM.CR 1 rfl).2.1 A69.out) ?_; rintro e w70 ⟨rfl, hR⟩; refine ⟨_, rfl, ?_⟩; replace HM := HM.call hR; clear hR))
        go_ret
        exact ⟨ER, (MD HM).pick []⟩
       ·have c68b0 : decide ((y555.length : Int) ≤ a0_0) = false := decide_eq_false c68
        clear c68
        obtain rfl := Option.some.inj H
        obtain ⟨Xo66, ko66, eo66⟩ := HM.rdR 1 rfl
        subst eo66
        obtain ⟨hcz67_0, hcz67_1, hcz67_2, hcz67_3, hcz67_4, hfz67_0, hfz67_1, hfz67_2, hfz67_3, hfz67_4⟩ := bk5 (HM.bx 0 rfl)
        go_wp2
        go_ret
        exact ⟨ER, (MD HM).pick []⟩
def impl_copyInts.f (l0 : List Int) : Option (List Int) := if ([] : List Int).length + l0.length < 17592186044416 then (some (([] : List Int) ++ l0)) else (none)
set_option maxHeartbeats 8000000 in
set_option maxRecDepth 100000 in
theorem impl_copyInts.calls (A0 : Option Addr) (c0 : Nat) (l0 : List Int) (r : List Int) (w : World) (hr0 : Kd.C (Kd.int .i64) w A0 l0.length l0) (hc0 : l0.length ≤ c0) (h : impl_copyInts.f l0 = some r) :
  Calls Try.prog 83 #[.slice A0 l0.length c0] w fun e w' => ∃ v0_ : Value, e = .returned (v0_) ∧ Mem w [] w' [rowR (Kd.int .i64) 3 v0_ r] := by
 have HR0 := Aside0.mk hr0
 have HC0 := Aside0.mk hc0
 clear hr0 hc0
 have HM := Mem.nil w
 have H := h
 clear h
 unfold impl_copyInts.f at H
 go_enter Try.func83, Try.ntmps83
 replace H := GD H; obtain ⟨c2, H⟩ := H
 have LMc2 := Aside0.mk c2
 clear c2
 obtain rfl := Option.some.inj H
 go_wp2_with (first | ((with_reducible refine gate_builtin (b := .append) (xs := #[.const (.slice none 0 0), .tmp 3]) rfl ?_); refine pAn (.const (.slice none 0 0)) (.tmp 3) 23 3 (Kd.int .i64) l0 A0 l0.length c0 HM rfl Try.underlying23 info3 (HM.came HR0.out) (by have h_ := LMc2.out; omega) ?_; clear HM; intro v564 w3 HM))
 go_ret
 exact ⟨_, ER, (MD HM).pick [0]⟩
def impl_copyThree.f (a0_0 : Int) (a0_1 : Int) (l0_2 : List (S95)) (l0_3 : List (S95)) (l0_4 : List Int) : Option (Int × Int × (List (S95)) × (List (S95)) × List Int) := (impl_copyItems.f l0_2).bind fun t568 => ((impl_copyItems.f l0_3).bind fun t571 => ((impl_copyInts.f l0_4).bind fun t574 => (some (a0_0, a0_1, t568, t571, t574))))
def impl_copyThree.T1 : Bool × List (List Nat × List Nat) := (true, [([], []), ([0], [0]), ([], []), ([2], [2]), ([], []), ([4], [4]), ([5], [5]), ([], []), ([7], [7]), ([8, 6], [8]), ([], []), ([10], [10]), ([11, 9], [11]), ([1, 3, 6, 9, 12], [1, 3, 6, 9, 12]), ([13, 12, 0, 1, 2, 3, 4, 5, 6, 7, 8, 9, 10, 11, 12, 13], [13])])
def impl_copyThree.B1 : List Nat := [0, 1, 0, 4, 0, 16, 48, 0, 128, 496, 0, 1024, 4080, 8191, 16383]
theorem impl_copyThree.tab1 : rtab .any (opsOf Try.f49 1) = impl_copyThree.T1 := by kernel_rfl
theorem impl_copyThree.bits1 : waitsOk impl_copyThree.T1.2 impl_copyThree.B1 = true := by kernel_rfl
set_option maxHeartbeats 8000000 in
set_option maxRecDepth 100000 in
theorem impl_copyThree.calls (a0_0 : Int) (a0_1 : Int) (A0_2 : Option Addr) (c0_2 : Nat) (l0_2 : List (S95)) (A0_3 : Option Addr) (c0_3 : Nat) (l0_3 : List (S95)) (A0_4 : Option Addr) (c0_4 : Nat) (l0_4 : List Int) (r1 : Int) (r2 : Int) (r3 : List (S95)) (r4 : List (S95)) (r5 : List Int) (w : World) (hr0_2 : Kd.C k95 w A0_2 l0_2.length l0_2) (hc0_2 : l0_2.length ≤ c0_2) (hr0_3 : Kd.C k95 w A0_3 l0_3.length l0_3) (hc0_3 : l0_3.length ≤ c0_3) (hr0_4 : Kd.C (Kd.int .i64) w A0_4 l0_4.length l0_4) (hc0_4 : l0_4.length ≤ c0_4) (h : impl_copyThree.f a0_0 a0_1 l0_2 l0_3 l0_4 = some (r1, r2, r3, r4, r5)) :
  Calls Try.prog 49 #[.agg #[.int .i64 a0_0, .int .i64 a0_1, .slice A0_2 l0_2.length c0_2, .slice A0_3 l0_3.length c0_3, .slice A0_4 l0_4.length c0_4]] w fun e w' => ∃ v2_ v3_ v4_ : Value, e = .returned (.agg #[.int .i64 r1, .int .i64 r2, v2_, v3_, v4_]) ∧ Mem w [] w' [rowR k95 95 v2_ r3, rowR k95 95 v3_ r4, rowR (Kd.int .i64) 3 v4_ r5] := by
 have hu32 := Try.underlying32
 have HR0_2 := Aside0.mk hr0_2
 have HC0_2 := Aside0.mk hc0_2
 clear hr0_2 hc0_2
 have HR0_3 := Aside0.mk hr0_3
 have HC0_3 := Aside0.mk hc0_3
 clear hr0_3 hc0_3
 have HR0_4 := Aside0.mk hr0_4
 have HC0_4 := Aside0.mk hc0_4
 clear hr0_4 hc0_4
 have HM := Mem.nil w
 have H := h
 clear h
 unfold impl_copyThree.f at H
 go_enter Try.func49, Try.ntmps49
 try go_wp2_with (first | ((with_reducible refine gate_dst (N := 1) rfl ?_); refine pB 1 32 [.int .i64 a0_0, .int .i64 a0_1, .slice A0_2 l0_2.length c0_2, .slice A0_3 l0_3.length c0_3, .slice A0_4 l0_4.length c0_4] HM rfl ?_; clear HM; intro gb566 w2 HM) | ((with_reducible refine gate_dst (N := 2) rfl ?_); refine pB 2 32 [.int .i64 0, .int .i64 0, .slice none 0 0, .slice none 0 0, .slice none 0 0] HM rfl ?_; clear HM; intro gb567 w3 HM))
 replace H := BN H; obtain ⟨t568, A4, H⟩ := H
 replace H := BN H; obtain ⟨t571, A5, H⟩ := H
 replace H := BN H; obtain ⟨t574, A6, H⟩ := H
 refine RGN 15 [0, 1, 2, 3, 4, 5, 6, 7, 8, 9, 10, 11, 12, 13, 14] (fun a0 b a w' => ∃ (v569 : Value) (v572 : Value) (v575 : Value), a = putSel a0 b [(0, 3, .pointer (some ⟨gb566, 0, none⟩)), (1, 4, .int .i64 a0_0), (2, 5, .pointer (some ⟨gb566, 1, none⟩)), (3, 6, .int .i64 a0_1), (4, 7, .pointer (some ⟨gb566, 2, none⟩)), (5, 8, .slice A0_2 l0_2.length c0_2), (6, 9, v569), (7, 10, .pointer (some ⟨gb566, 3, none⟩)), (8, 11, .slice A0_3 l0_3.length c0_3), (9, 12, v572), (10, 13, .pointer (some ⟨gb566, 4, none⟩)), (11, 14, .slice A0_4 l0_4.length c0_4), (12, 15, v575), (13, 16, .agg #[.int .i64 a0_0, .int .i64 a0_1, v569, v572, v575])] ∧ Mem w [] w' [box 32 gb566 [.int .i64 a0_0, .int .i64 a0_1, .slice A0_2 l0_2.length c0_2, .slice A0_3 l0_3.length c0_3, .slice A0_4 l0_4.length c0_4], sel (b 14) (box 32 gb567 [.int .i64 a0_0, .int .i64 a0_1, v569, v572, v575]) (box 32 gb567 [.int .i64 0, .int .i64 0, .slice none 0 0, .slice none 0 0, .slice none 0 0]), sel (b 6) (rowR k95 95 v569 t568) (emp), sel (b 9) (rowR k95 95 v572 t571) (emp), sel (b 12) (rowR (Kd.int .i64) 3 v575 t574) (emp)]) impl_copyThree.tab1 impl_copyThree.bits1 ?_ ?_ ?_
 ·exact ⟨.bool false, .bool false, .bool false, PS0' rfl _, (HM.drew.ems 3).pick [0, 1, 2, 3, 4]⟩
 ·clear HM
  refine steps_cons ?_ ?_
  ·rintro b a w ⟨v569, v572, v575, ha, HM⟩ hb hon hoff
   refine ⟨_, rfl, fun K hK => ?_⟩
   have e1 := POF ha 1
   replace ha := Aside0.mk ha
   exact VL (.pointer (some ⟨gb566, 0, none⟩)) (hK.out _ _ ⟨v569, v572, v575, PUT ha 0 hb, HM⟩)
  refine steps_cons ?_ ?_
  ·rintro b a w ⟨v569, v572, v575, ha, HM⟩ hb hon hoff
   refine ⟨_, rfl, fun K hK => ?_⟩
   obtain ⟨hcz22_0, hcz22_1, hcz22_2, hcz22_3, hcz22_4, hfz22_0, hfz22_1, hfz22_2, hfz22_3, hfz22_4⟩ := bk5 (HM.bx 0 rfl)
   have e3 := PON ha 0 (hon 0 (by kernel_rfl))
   replace ha := Aside0.mk ha
   exact VL (.int .i64 a0_0) (hK.out _ _ ⟨v569, v572, v575, PUT ha 1 hb, HM⟩)
  refine steps_cons ?_ ?_
  ·rintro b a w ⟨v569, v572, v575, ha, HM⟩ hb hon hoff
   refine ⟨_, rfl, fun K hK => ?_⟩
   have e1 := POF ha 1
   replace ha := Aside0.mk ha
   exact VL (.pointer (some ⟨gb566, 1, none⟩)) (hK.out _ _ ⟨v569, v572, v575, PUT ha 2 hb, HM⟩)
  refine steps_cons ?_ ?_
  ·rintro b a w ⟨v569, v572, v575, ha, HM⟩ hb hon hoff
   refine ⟨_, rfl, fun K hK => ?_⟩
   obtain ⟨hcz23_0, hcz23_1, hcz23_2, hcz23_3, hcz23_4, hfz23_0, hfz23_1, hfz23_2, hfz23_3, hfz23_4⟩ := bk5 (HM.bx 0 rfl)
   have e5 := PON ha 2 (hon 2 (by kernel_rfl))
   replace ha := Aside0.mk ha
   exact VL (.int .i64 a0_1) (hK.out _ _ ⟨v569, v572, v575, PUT ha 3 hb, HM⟩)
  refine steps_cons ?_ ?_
  ·rintro b a w ⟨v569, v572, v575, ha, HM⟩ hb hon hoff
   refine ⟨_, rfl, fun K hK => ?_⟩
   have e1 := POF ha 1
   replace ha := Aside0.mk ha
   exact VL (.pointer (some ⟨gb566, 2, none⟩)) (hK.out _ _ ⟨v569, v572, v575, PUT ha 4 hb, HM⟩)
  refine steps_cons ?_ ?_
  ·rintro b a w ⟨v569, v572, v575, ha, HM⟩ hb hon hoff
   refine ⟨_, rfl, fun K hK => ?_⟩
   obtain ⟨hcz24_0, hcz24_1, hcz24_2, hcz24_3, hcz24_4, hfz24_0, hfz24_1, hfz24_2, hfz24_3, hfz24_4⟩ := bk5 (HM.bx 0 rfl)
   have e7 := PON ha 4 (hon 4 (by kernel_rfl))
   replace ha := Aside0.mk ha
   exact VL (.slice A0_2 l0_2.length c0_2) (hK.out _ _ ⟨v569, v572, v575, PUT ha 5 hb, HM⟩)
  refine steps_cons ?_ ?_
  ·rintro b a w ⟨v569, v572, v575, ha, HM⟩ hb hon hoff
   refine ⟨_, rfl, fun K hK => ?_⟩
   have e8 := PON ha 5 (hon 5 (by kernel_rfl))
   replace ha := Aside0.mk ha
   refine ST (eC (some 9) rfl #[.slice A0_2 l0_2.length c0_2] rfl Try.func59 (impl_copyItems.calls _ _ l0_2 t568 _ (HM.came HR0_2.out) HC0_2.out A4.out) ?_ (hargs := by (simp only [List.map_toArray, List.map_cons, List.map_nil, evc, eval_of e8]) <;> rfl))
   rintro e w25 ⟨v569, rfl, hR⟩
   refine ⟨_, rfl, ?_⟩
   replace HM := HM.call hR
   clear hR
   exact hK.out _ _ ⟨v569, v572, v575, PUT (PCH ha 13 (hoff 13 (by kernel_rfl))) 6 hb, ((HM.sF 1 rfl (hoff 14 (by kernel_rfl))).iF 1 rfl (hoff 14 (by kernel_rfl))).pick [0, 1, 5, 3, 4]⟩
  refine steps_cons ?_ ?_
  ·rintro b a w ⟨v569, v572, v575, ha, HM⟩ hb hon hoff
   refine ⟨_, rfl, fun K hK => ?_⟩
   have e1 := POF ha 1
   replace ha := Aside0.mk ha
   exact VL (.pointer (some ⟨gb566, 3, none⟩)) (hK.out _ _ ⟨v569, v572, v575, PUT ha 7 hb, HM⟩)
  refine steps_cons ?_ ?_
  ·rintro b a w ⟨v569, v572, v575, ha, HM⟩ hb hon hoff
   refine ⟨_, rfl, fun K hK => ?_⟩
   obtain ⟨hcz26_0, hcz26_1, hcz26_2, hcz26_3, hcz26_4, hfz26_0, hfz26_1, hfz26_2, hfz26_3, hfz26_4⟩ := bk5 (HM.bx 0 rfl)
   have e10 := PON ha 7 (hon 7 (by kernel_rfl))
   replace ha := Aside0.mk ha
   exact VL (.slice A0_3 l0_3.length c0_3) (hK.out _ _ ⟨v569, v572, v575, PUT ha 8 hb, HM⟩)
  refine steps_cons ?_ ?_
  ·rintro b a w ⟨v569, v572, v575, ha, HM⟩ hb hon hoff
   refine ⟨_, rfl, fun K hK => ?_⟩
   have e11 := PON ha 8 (hon 8 (by kernel_rfl))
   replace ha := Aside0.mk ha
   refine ST (eC (some 12) rfl #[.slice A0_3 l0_3.length c0_3] rfl Try.func59 (impl_copyItems.calls _ _ l0_3 t571 _ (HM.came HR0_3.out) HC0_3.out A5.out) ?_ (hargs := by (simp only [List.map_toArray, List.map_cons, List.map_nil, evc, eval_of e11]) <;> rfl))
   rintro e w27 ⟨v572, rfl, hR⟩
   refine ⟨_, rfl, ?_⟩
   replace HM := HM.call hR
   clear hR
   exact hK.out _ _ ⟨v569, v572, v575, PUT (PCH ha 13 (hoff 13 (by kernel_rfl))) 9 hb, ((HM.sF 1 rfl (hoff 14 (by kernel_rfl))).iF 1 rfl (hoff 14 (by kernel_rfl))).pick [0, 1, 2, 5, 4]⟩
  refine steps_cons ?_ ?_
  ·rintro b a w ⟨v569, v572, v575, ha, HM⟩ hb hon hoff
   refine ⟨_, rfl, fun K hK => ?_⟩
   have e1 := POF ha 1
   replace ha := Aside0.mk ha
   exact VL (.pointer (some ⟨gb566, 4, none⟩)) (hK.out _ _ ⟨v569, v572, v575, PUT ha 10 hb, HM⟩)
  refine steps_cons ?_ ?_
  ·rintro b a w ⟨v569, v572, v575, ha, HM⟩ hb hon hoff
   refine ⟨_, rfl, fun K hK => ?_⟩
   obtain ⟨hcz28_0, hcz28_1, hcz28_2, hcz28_3, hcz28_4, hfz28_0, hfz28_1, hfz28_2, hfz28_3, hfz28_4⟩ := bk5 (HM.bx 0 rfl)
   have e13 := PON ha 10 (hon 10 (by kernel_rfl))
   replace ha := Aside0.mk ha
   exact VL (.slice A0_4 l0_4.length c0_4) (hK.out _ _ ⟨v569, v572, v575, PUT ha 11 hb, HM⟩)
  refine steps_cons ?_ ?_
  ·rintro b a w ⟨v569, v572, v575, ha, HM⟩ hb hon hoff
   refine ⟨_, rfl, fun K hK => ?_⟩
   have e14 := PON ha 11 (hon 11 (by kernel_rfl))
   replace ha := Aside0.mk ha
   refine ST (eC (some 15) rfl #[.slice A0_4 l0_4.length c0_4] rfl Try.func83 (impl_copyInts.calls _ _ l0_4 t574 _ (HM.came HR0_4.out) HC0_4.out A6.out) ?_ (hargs := by (simp only [List.map_toArray, List.map_cons, List.map_nil, evc, eval_of e14]) <;> rfl))
   rintro e w29 ⟨v575, rfl, hR⟩
   refine ⟨_, rfl, ?_⟩
   replace HM := HM.call hR
   clear hR
   exact hK.out _ _ ⟨v569, v572, v575, PUT (PCH ha 13 (hoff 13 (by kernel_rfl))) 12 hb, ((HM.sF 1 rfl (hoff 14 (by kernel_rfl))).iF 1 rfl (hoff 14 (by kernel_rfl))).pick [0, 1, 2, 3, 5]⟩
  refine steps_cons ?_ ?_
  ·rintro b a w ⟨v569, v572, v575, ha, HM⟩ hb hon hoff
   refine ⟨_, rfl, fun K hK => ?_⟩
   have HZ := HM
   replace HM := HM.sT 2 rfl (hon 6 (by kernel_rfl))
   replace HM := HM.sT 3 rfl (hon 9 (by kernel_rfl))
   replace HM := HM.sT 4 rfl (hon 12 (by kernel_rfl))
   obtain ⟨Xo30, ko30, eo30⟩ := HM.rdR 4 rfl
   subst eo30
   obtain ⟨Xo31, ko31, eo31⟩ := HM.rdR 3 rfl
   subst eo31
   obtain ⟨Xo32, ko32, eo32⟩ := HM.rdR 2 rfl
   subst eo32
   have e4 := PON ha 1 (hon 1 (by kernel_rfl))
   have e6 := PON ha 3 (hon 3 (by kernel_rfl))
   have e9 := PON ha 6 (hon 6 (by kernel_rfl))
   have e12 := PON ha 9 (hon 9 (by kernel_rfl))
   have e15 := PON ha 12 (hon 12 (by kernel_rfl))
   replace ha := Aside0.mk ha
   exact VL (.agg #[.int .i64 a0_0, .int .i64 a0_1, .slice Xo32 t568.length ko32, .slice Xo31 t571.length ko31, .slice Xo30 t574.length ko30]) (hK.out _ _ ⟨.slice Xo32 t568.length ko32, .slice Xo31 t571.length ko31, .slice Xo30 t574.length ko30, PUT ha 13 hb, HZ⟩)
  refine steps_cons ?_ ?_
  ·rintro b a w ⟨v569, v572, v575, ha, HM⟩ hb hon hoff
   refine ⟨_, rfl, fun K hK => ?_⟩
   replace HM := HM.sF 1 rfl hb
   replace HM := HM.sT 2 rfl (hon 6 (by kernel_rfl))
   replace HM := HM.sT 3 rfl (hon 9 (by kernel_rfl))
   replace HM := HM.sT 4 rfl (hon 12 (by kernel_rfl))
   obtain ⟨Xo33, ko33, eo33⟩ := HM.rdR 2 rfl
   subst eo33
   obtain ⟨Xo34, ko34, eo34⟩ := HM.rdR 3 rfl
   subst eo34
   obtain ⟨Xo35, ko35, eo35⟩ := HM.rdR 4 rfl
   subst eo35
   have e2 := POF ha 2
   have e16 := PON ha 13 (hon 13 (by kernel_rfl))
   replace ha := Aside0.mk ha
   refine ST (eS 1 2 0 [.int .i64 a0_0, .int .i64 a0_1, .slice Xo33 t568.length ko33, .slice Xo34 t571.length ko34, .slice Xo35 t574.length ko35] HM rfl rfl ?_ (hp := (eval_of e2)) (hx := (by rw [eval_of e16]; rfl)))
   clear HM
   intro w36 HM
   exact hK.out _ _ ⟨.slice Xo33 t568.length ko33, .slice Xo34 t571.length ko34, .slice Xo35 t574.length ko35, PUS ha, (((HM.iT 2 rfl (hon 6 (by kernel_rfl))).iT 3 rfl (hon 9 (by kernel_rfl))).iT 4 rfl (hon 12 (by kernel_rfl))).pick [0, 1, 2, 3, 4]⟩
  exact steps_nil
 rintro _ w37 ⟨v569, v572, v575, rfl, HM⟩
 replace HM := HM.sT 1 rfl rfl
 replace HM := HM.sT 2 rfl rfl
 replace HM := HM.sT 3 rfl rfl
 replace HM := HM.sT 4 rfl rfl
 simp only [putSel, if_true, Act.put, List.setIfInBounds_toArray, List.set_cons_zero, List.set_cons_succ, gt_iff_lt, ge_iff_le]
 simp only [Option.some.injEq, Prod.mk.injEq] at H
 obtain ⟨rfl, rfl, rfl, rfl, rfl⟩ := H
 go_wp2
 refine bodyPost_ret (results_cell_row rfl _ _ gb567 32 #[.int .i64 a0_0, .int .i64 a0_1, v569, v572, v575] (0, 0) _ rfl (HM.bx 1 rfl) Try.underlying32 rfl (by kernel_rfl)) rfl ?_
 exact ⟨_, _, _, ER, (MD HM).pick [2, 3, 4]⟩
end Go.Proofs.Ytdeijmofaapgdaa.G

namespace Go.Proofs.Ytdeijmofaapgdaa.G
open Go.RowKit Go.Proofs.YtdeijmofaapgdaaW.PrintWords Go.Proofs.YtdeijmofaapgdaaW.PrintLast Go.Proofs.YtdeijmofaapgdaaW.PrintMore Go.Proofs.Ytdeijmofaapgdaa.Sh
attribute [local go_sem] max2_int min2_int max_two min_two max_three min_three max_four min_four
set_option linter.unusedVariables false
set_option linter.unusedSimpArgs false
open Go.Proofs.Ytdeijmofaapgdaa.Man
def impl_Three_item.f (l2 l3 : List S95) (a1 : ByteArray) : Option Int := (impl_itemAt.f l2 a1).bind fun a => if 0 ≤ a then some a else (impl_itemAt.f l3 a1).bind fun b => if 0 ≤ b then some ((l2.length : Int) + b) else some (-1)
def impl_Three_item.ptr (A2 A3 : Option Addr) (n : Nat) (r : Int) : Option Addr := if r < 0 then none else if r < (n : Int) then A2.map (·.add (r.toNat * 3)) else A3.map (·.add ((wrap64 (r - (n : Int))).toNat * 3))
theorem impl_Three_item.ptr_nil {A2 A3 : Option Addr} {n : Nat} {r : Int} (h : decide (r < 0) = true) : impl_Three_item.ptr A2 A3 n r = none := if_pos (of_decide_eq_true h)
theorem impl_Three_item.ptr_small {g : Nat} {A3 : Option Addr} {n : Nat} {r : Int} (h : decide (r < 0) = false) (h1 : decide (r < (n : Int)) = true) : impl_Three_item.ptr (some ⟨g, 0, none⟩) A3 n r = some ⟨g, r.toNat * 3, none⟩ := by
 refine (if_neg (of_decide_eq_false h)).trans ((if_pos (of_decide_eq_true h1)).trans ?_)
 rw [Option.map_some, add_plain]
theorem impl_Three_item.ptr_main {A2 : Option Addr} {g : Nat} {n : Nat} {r : Int} (h : decide (r < 0) = false) (h1 : decide (r < (n : Int)) = false) : impl_Three_item.ptr A2 (some ⟨g, 0, none⟩) n r = some ⟨g, (wrap64 (r - (n : Int))).toNat * 3, none⟩ := by
 refine (if_neg (of_decide_eq_false h)).trans ((if_neg (of_decide_eq_false h1)).trans ?_)
 rw [Option.map_some, add_plain]
theorem impl_Three_item.ptr_nil' {A2 A3 : Option Addr} {n : Nat} {r : Int} (h : decide (0 ≤ r) = false) : impl_Three_item.ptr A2 A3 n r = none := impl_Three_item.ptr_nil (decide_eq_true (by have := of_decide_eq_false h; omega))
theorem impl_Three_item.ptr_small' {g : Nat} {A3 : Option Addr} {n : Nat} {r : Int} (h : decide (0 ≤ r) = true) (h1 : decide (r < (n : Int)) = true) : impl_Three_item.ptr (some ⟨g, 0, none⟩) A3 n r = some ⟨g, r.toNat * 3, none⟩ := impl_Three_item.ptr_small (decide_eq_false (by have := of_decide_eq_true h; omega)) h1
theorem impl_Three_item.ptr_main' {A2 : Option Addr} {g : Nat} {n : Nat} {r : Int} (h : decide (0 ≤ r) = true) (h1 : decide (r < (n : Int)) = false) : impl_Three_item.ptr A2 (some ⟨g, 0, none⟩) n r = some ⟨g, (wrap64 (r - (n : Int))).toNat * 3, none⟩ := impl_Three_item.ptr_main (decide_eq_false (by have := of_decide_eq_true h; omega)) h1
theorem impl_itemAt.idx_lt (key : ByteArray) : ∀ (l : List S95) (i : Nat), impl_itemAt.idx key l i < ((i + l.length : Nat) : Int) ∧ (impl_itemAt.idx key l i = -1 ∨ 0 ≤ impl_itemAt.idx key l i)
 | [], i => ⟨by simp [impl_itemAt.idx]; omega, .inl rfl⟩
 | x :: r, i => by
  rw [impl_itemAt.idx]
  by_cases c : x.f0.toList = key.toList
  ·rw [if_pos c]; simp only [List.length_cons]; omega
  ·rw [if_neg c]
   have := impl_itemAt.idx_lt key r (i + 1)
   simp only [List.length_cons]
   omega
set_option maxHeartbeats 4000000 in
set_option maxRecDepth 100000 in
theorem impl_Three_item.calls (g : Nat) (a0 b0 : Int) (x4 : Value) (A2 : Option Addr) (c2 : Nat) (l2 : List S95) (A3 : Option Addr) (c3 : Nat) (l3 : List S95) (a1 : ByteArray) (r : Int) (w : World) (hr2 : Kd.C k95 w A2 l2.length l2) (hc2 : l2.length ≤ c2) (hr3 : Kd.C k95 w A3 l3.length l3) (hc3 : l3.length ≤ c3) (hb : w.heap[g]? = some (.cells #[.int .i64 a0, .int .i64 b0, .slice A2 l2.length c2, .slice A3 l3.length c3, x4] 32 (0, 0))) (h : impl_Three_item.f l2 l3 a1 = some r) :
  Calls Try.prog 61 #[.pointer (some ⟨g, 0, none⟩), .string a1] w fun e w' => e = .returned (.pointer (impl_Three_item.ptr A2 A3 l2.length r)) ∧ Below w.heap.size w w' := by
 have e1 : impl_itemAt.f l2 a1 = some (impl_itemAt.idx a1 l2 0) := rfl
 have e2 : impl_itemAt.f l3 a1 = some (impl_itemAt.idx a1 l3 0) := rfl
 have q1 := impl_itemAt.idx_lt a1 l2 0
 have q2 := impl_itemAt.idx_lt a1 l3 0
 have L2 : l2.length ≤ 9223372036854775807 := hr2.2.1
 have L3 : l3.length ≤ 9223372036854775807 := hr3.2.1
 have HB := Aside0.mk hb
 have HR2 := Aside0.mk hr2
 have HC2 := Aside0.mk hc2
 have HR3 := Aside0.mk hr3
 have HC3 := Aside0.mk hc3
 have hu45 := Try.underlying32
 have k0 : w.cell? ⟨g, 2, none⟩ = some (.slice A2 l2.length c2) := blk_cell hb 2
 unfold impl_Three_item.f at h
 rw [e1, Option.bind_some] at h
 obtain ⟨K1, hK1⟩ : ∃ K1, impl_itemAt.idx a1 l2 0 = K1 := ⟨_, rfl⟩
 rw [hK1] at h e1 q1
 clear hb hr2 hc2 hr3 hc3
 by_cases c1 : 0 ≤ K1
 ·rw [if_pos c1] at h
  obtain rfl := Option.some.inj h
  clear h
  have hlt : K1 < (l2.length : Int) := by have := q1.1; omega
  obtain ⟨ad, hA, _⟩ := at_T95 HR2.out K1 c1 hlt
  subst hA
  have hp : impl_Three_item.ptr (some ad) A3 l2.length K1 = some (ad.add (K1.toNat * 3)) := by
   unfold impl_Three_item.ptr
   rw [if_neg (by omega), if_pos hlt]; rfl
  rw [hp]
  have HE := Aside0.mk e1
  have d1 : decide (0 ≤ K1) = true := decide_eq_true c1
  replace c1 := eq_true c1
  replace hlt := eq_true hlt
  clear e1 e2 q1 q2 hK1 hp
  go_enter Try.func61, Try.ntmps61
  go_wp2_with fail
  refine (impl_itemAt.calls _ _ _ _ _ _ HR2.out HC2.out HE.out).mono ?_
  rintro e w1 ⟨rfl, hb1⟩
  have HB1 := Aside0.mk hb1
  have k1 : w1.cell? ⟨g, 2, none⟩ = some (.slice (some ad) l2.length c2) := blk_cell (blk_below HB.out hb1) 2
  clear hb1
  go_wp2
  go_ret
  exact ⟨rfl, HB1.out⟩
 ·rw [if_neg c1, e2, Option.bind_some] at h
  obtain ⟨K2, hK2⟩ : ∃ K2, impl_itemAt.idx a1 l3 0 = K2 := ⟨_, rfl⟩
  rw [hK2] at h e2 q2
  have k00 : w.cell? ⟨g, 3, none⟩ = some (.slice A3 l3.length c3) := blk_cell HB.out 3
  have d1 : decide (0 ≤ K1) = false := decide_eq_false c1
  by_cases c2' : 0 ≤ K2
  ·rw [if_pos c2'] at h
   obtain rfl := Option.some.inj h
   clear h
   have hlt : K2 < (l3.length : Int) := by have := q2.1; omega
   obtain ⟨ad, hA, _⟩ := at_T95 HR3.out K2 c2' hlt
   subst hA
   have hp : impl_Three_item.ptr A2 (some ad) l2.length ((l2.length : Int) + K2) = some (ad.add (K2.toNat * 3)) := by
    unfold impl_Three_item.ptr
    rw [if_neg (by omega), if_neg (by omega), show wrap64 ((l2.length : Int) + K2 - (l2.length : Int)) = K2 by unfold wrap64; omega]; rfl
   rw [hp]
   have HE := Aside0.mk e1
   have HE2 := Aside0.mk e2
   have d2 : decide (0 ≤ K2) = true := decide_eq_true c2'
   replace c2' := eq_true c2'
   replace hlt := eq_true hlt
   clear e1 e2 q1 q2 hK1 hK2 hp c1
   go_enter Try.func61, Try.ntmps61
   go_wp2_with fail
   refine (impl_itemAt.calls _ _ _ _ _ _ HR2.out HC2.out HE.out).mono ?_
   rintro e w1 ⟨rfl, hb1⟩
   have HB1 := Aside0.mk hb1
   have k1 : w1.cell? ⟨g, 2, none⟩ = some (.slice A2 l2.length c2) := blk_cell (blk_below HB.out hb1) 2
   have k11 : w1.cell? ⟨g, 3, none⟩ = some (.slice (some ad) l3.length c3) := blk_cell (blk_below HB.out hb1) 3
   clear hb1
   go_wp2_with fail
   refine (impl_itemAt.calls _ _ _ _ _ _ (Kd.C_below HR3.out HB1.out) HC3.out HE2.out).mono ?_
   rintro e w2 ⟨rfl, hb2⟩
   have HB2 := Aside0.mk (below_step HB1.out hb2)
   have k2 : w2.cell? ⟨g, 3, none⟩ = some (.slice (some ad) l3.length c3) := blk_cell (blk_below HB.out HB2.out) 3
   clear hb2
   go_wp2
   go_ret
   exact ⟨rfl, HB2.out⟩
  ·rw [if_neg c2'] at h
   obtain rfl := Option.some.inj h
   clear h
   have hp : impl_Three_item.ptr A2 A3 l2.length (-1) = none := by
    unfold impl_Three_item.ptr
    rw [if_pos (by omega)]
   rw [hp]
   have HE := Aside0.mk e1
   have HE2 := Aside0.mk e2
   have d2 : decide (0 ≤ K2) = false := decide_eq_false c2'
   clear e1 e2 q1 q2 hK1 hK2 hp c1 c2'
   go_enter Try.func61, Try.ntmps61
   go_wp2_with fail
   refine (impl_itemAt.calls _ _ _ _ _ _ HR2.out HC2.out HE.out).mono ?_
   rintro e w1 ⟨rfl, hb1⟩
   have HB1 := Aside0.mk hb1
   have k1 : w1.cell? ⟨g, 2, none⟩ = some (.slice A2 l2.length c2) := blk_cell (blk_below HB.out hb1) 2
   have k11 : w1.cell? ⟨g, 3, none⟩ = some (.slice A3 l3.length c3) := blk_cell (blk_below HB.out hb1) 3
   clear hb1
   go_wp2_with fail
   refine (impl_itemAt.calls _ _ _ _ _ _ (Kd.C_below HR3.out HB1.out) HC3.out HE2.out).mono ?_
   rintro e w2 ⟨rfl, hb2⟩
   have HB2 := Aside0.mk (below_step HB1.out hb2)
   clear hb2
   go_wp2
   go_ret
   exact ⟨rfl, HB2.out⟩
end Go.Proofs.Ytdeijmofaapgdaa.G
