/- Part 3 of the claim FnExactOpDo, merged by pack.py (this session's program) out of: the print's words, cut to what is needed; texts that gen.py printed (it runs the kit's print in place); texts of this session. -/
import Derived.RegionTactic
import Derived.Shelf.RegionOpenPlain
import Derived.Test.YtdeijmofaapgdaaKFnExactOpDo0
import Derived.Test.YtdeijmofaapgdaaKFnExactOpDo1
import Derived.Test.YtdeijmofaapgdaaKFnExactOpDo2
namespace Go.Proofs.Ytdeijmofaapgdaa.Man
end Go.Proofs.Ytdeijmofaapgdaa.Man
namespace Go.Proofs.Ytdeijmofaapgdaa.Mm
end Go.Proofs.Ytdeijmofaapgdaa.Mm
namespace Go.Proofs.Ytdeijmofaapgdaa.Sh
end Go.Proofs.Ytdeijmofaapgdaa.Sh
namespace Go.Proofs.Ytdeijmofaapgdaa.G
open Go.RowKit Go.Proofs.YtdeijmofaapgdaaW.PrintWords Go.Proofs.YtdeijmofaapgdaaW.PrintLast Go.Proofs.YtdeijmofaapgdaaW.PrintMore Go.Proofs.Ytdeijmofaapgdaa.Sh
attribute [local go_sem] max2_int min2_int max_two min_two max_three min_three max_four min_four
set_option linter.unusedVariables false
set_option linter.unusedSimpArgs false
open Go.Proofs.Ytdeijmofaapgdaa.Mm
def laws_toThree.f (k : Nat) (a0_0 : Int) (a0_1 : Int) (l0_2 : List (S97)) (l0_3 : List (S97)) (l0_4 : List Int) : Option (Int × Int × (List (S95)) × (List (S95)) × List Int) := (laws_toItemS.f k l0_2).bind fun t518 => ((laws_toItemS.f k l0_3).bind fun t521 => ((laws_toIntS.f k l0_4).bind fun t524 => (some (a0_0, a0_1, t518, t521, t524))))
theorem laws_toThree.mono : ∀ a0 a1 a2 a3 a4 k, LeO (laws_toThree.f k a0 a1 a2 a3 a4) (laws_toThree.f (k + 1) a0 a1 a2 a3 a4) := by
 intro a0 a1 a2 a3 a4 k
 unfold laws_toThree.f
 repeat' first | (with_reducible first | exact laws_toIntS.mono _ _ | exact laws_toItemS.mono _ _ | exact LeO.refl _ | exact LeO.none _ | refine LeO.ite ?_ ?_ | refine LeO.bind ?_ (fun _ => ?_)) | exact laws_toIntS.mono _ _ | exact laws_toItemS.mono _ _ | exact LeO.none _ | refine LeO.ite ?_ ?_ | refine LeO.bind ?_ (fun _ => ?_)
set_option maxHeartbeats 8000000 in
set_option maxRecDepth 100000 in
theorem laws_toThree.calls (k : Nat) (a0_0 : Int) (a0_1 : Int) (A0_2 : Option Addr) (c0_2 : Nat) (l0_2 : List (S97)) (A0_3 : Option Addr) (c0_3 : Nat) (l0_3 : List (S97)) (A0_4 : Option Addr) (c0_4 : Nat) (l0_4 : List Int) (r1 : Int) (r2 : Int) (r3 : List (S95)) (r4 : List (S95)) (r5 : List Int) (w : World) (hr0_2 : Kd.C k97 w A0_2 l0_2.length l0_2) (hc0_2 : l0_2.length ≤ c0_2) (hr0_3 : Kd.C k97 w A0_3 l0_3.length l0_3) (hc0_3 : l0_3.length ≤ c0_3) (hr0_4 : Kd.C (Kd.int .i64) w A0_4 l0_4.length l0_4) (hc0_4 : l0_4.length ≤ c0_4) (h : laws_toThree.f k a0_0 a0_1 l0_2 l0_3 l0_4 = some (r1, r2, r3, r4, r5)) :
  Calls Try.prog 9 #[.agg #[.int .i64 a0_0, .int .i64 a0_1, .slice A0_2 l0_2.length c0_2, .slice A0_3 l0_3.length c0_3, .slice A0_4 l0_4.length c0_4]] w fun e w' => ∃ v2_ v3_ v4_ : Value, e = .returned (.agg #[.int .i64 r1, .int .i64 r2, v2_, v3_, v4_]) ∧ Mem w [] w' [rowR k95 95 v2_ r3, rowR k95 95 v3_ r4, rowR (Kd.int .i64) 3 v4_ r5] := by
 have hu25 := Try.underlying25
 have hu32 := Try.underlying32
 have HR0_2 := Aside0.mk hr0_2
 have HC0_2 := Aside0.mk hc0_2
 clear hr0_2 hc0_2
 have HR0_3 := Aside0.mk hr0_3
 have HC0_3 := Aside0.mk hc0_3
 clear hr0_3 hc0_3
 have HR0_4 := Aside0.mk hr0_4
 have HC0_4 := Aside0.mk hc0_4
 clear hr0_4 hc0_4
 have HM := Mem.nil w
 have H := h
 clear h
 unfold laws_toThree.f at H
 go_enter Try.func9, Try.ntmps9
 replace H := BN H; obtain ⟨t518, A10, H⟩ := H
 replace H := BN H; obtain ⟨t521, A15, H⟩ := H
 replace H := BN H; obtain ⟨t524, A20, H⟩ := H
 simp only [Option.some.injEq, Prod.mk.injEq] at H
 obtain ⟨rfl, rfl, rfl, rfl, rfl⟩ := H
 go_wp2_with (first | ((with_reducible refine gate_dst (N := 1) rfl ?_); refine pB 1 25 [.int .i64 a0_0, .int .i64 a0_1, .slice A0_2 l0_2.length c0_2, .slice A0_3 l0_3.length c0_3, .slice A0_4 l0_4.length c0_4] HM rfl ?_; clear HM; intro gb515 w2 HM) | ((with_reducible refine gate_dst (N := 2) rfl ?_); refine pB 2 32 [.int .i64 0, .int .i64 0, .slice none 0 0, .slice none 0 0, .slice none 0 0] HM rfl ?_; clear HM; intro gb516 w3 HM) | ((with_reducible refine gate_dst (N := 3) rfl ?_); refine pB 3 32 [.int .i64 0, .int .i64 0, .slice none 0 0, .slice none 0 0, .slice none 0 0] HM rfl ?_; clear HM; intro gb517 w4 HM; obtain ⟨hcz5_0, hcz5_1, hcz5_2, hcz5_3, hcz5_4, hfz5_0, hfz5_1, hfz5_2, hfz5_3, hfz5_4⟩ := bk5 (HM.bx 0 rfl)) | ((with_reducible refine gate_st (p := 6) rfl ?_); refine pS 2 6 0 [.int .i64 a0_0] HM rfl rfl ?_; clear HM; intro w6 HM; obtain ⟨hcz7_0, hcz7_1, hcz7_2, hcz7_3, hcz7_4, hfz7_0, hfz7_1, hfz7_2, hfz7_3, hfz7_4⟩ := bk5 (HM.bx 0 rfl)) | ((with_reducible refine gate_st (p := 9) rfl ?_); refine pS 2 9 1 [.int .i64 a0_1] HM rfl rfl ?_; clear HM; intro w8 HM; obtain ⟨hcz9_0, hcz9_1, hcz9_2, hcz9_3, hcz9_4, hfz9_0, hfz9_1, hfz9_2, hfz9_3, hfz9_4⟩ := bk5 (HM.bx 0 rfl)) | ((with_reducible refine gate_callee (f := 37) rfl ?_); refine pC (some 12) rfl #[.slice A0_2 l0_2.length c0_2] rfl Try.func37 (laws_toItemS.calls k _ _ l0_2 t518 _ (HM.came HR0_2.out) HC0_2.out A10.out) ?_; rintro e w11 ⟨v519, rfl, hR⟩; refine ⟨_, rfl, ?_⟩; replace HM := HM.call hR; clear hR; obtain ⟨Xo12, ko12, eo12⟩ := HM.rdR 3 rfl; subst eo12) | ((with_reducible refine gate_st (p := 13) rfl ?_); refine pS 2 13 2 [.slice Xo12 t518.length ko12] HM rfl rfl ?_; clear HM; intro w13 HM; obtain ⟨hcz14_0, hcz14_1, hcz14_2, hcz14_3, hcz14_4, hfz14_0, hfz14_1, hfz14_2, hfz14_3, hfz14_4⟩ := bk5 (HM.bx 0 rfl)) | ((with_reducible refine gate_callee (f := 37) rfl ?_); refine pC (some 16) rfl #[.slice A0_3 l0_3.length c0_3] rfl Try.func37 (laws_toItemS.calls k _ _ l0_3 t521 _ (HM.came HR0_3.out) HC0_3.out A15.out) ?_; rintro e w16 ⟨v522, rfl, hR⟩; refine ⟨_, rfl, ?_⟩; replace HM := HM.call hR; clear hR; obtain ⟨Xo17, ko17, eo17⟩ := HM.rdR 4 rfl; subst eo17) | ((with_reducible refine gate_st (p := 17) rfl ?_); refine pS 2 17 3 [.slice Xo17 t521.length ko17] HM rfl rfl ?_; clear HM; intro w18 HM; obtain ⟨hcz19_0, hcz19_1, hcz19_2, hcz19_3, hcz19_4, hfz19_0, hfz19_1, hfz19_2, hfz19_3, hfz19_4⟩ := bk5 (HM.bx 0 rfl)) | ((with_reducible refine gate_callee (f := 38) rfl ?_); refine pC (some 20) rfl #[.slice A0_4 l0_4.length c0_4] rfl Try.func38 (laws_toIntS.calls k _ _ l0_4 t524 _ (HM.came HR0_4.out) HC0_4.out A20.out) ?_; rintro e w21 ⟨v525, rfl, hR⟩; refine ⟨_, rfl, ?_⟩; replace HM := HM.call hR; clear hR; obtain ⟨Xo22, ko22, eo22⟩ := HM.rdR 5 rfl; subst eo22) | ((with_reducible refine gate_st (p := 21) rfl ?_); refine pS 2 21 4 [.slice Xo22 t524.length ko22] HM rfl rfl ?_; clear HM; intro w23 HM; obtain ⟨hcz24_0, hcz24_1, hcz24_2, hcz24_3, hcz24_4, hfz24_0, hfz24_1, hfz24_2, hfz24_3, hfz24_4⟩ := bk5 (HM.bx 2 rfl)) | ((with_reducible refine gate_st (p := 2) rfl ?_); refine pS 1 2 0 [.int .i64 a0_0, .int .i64 a0_1, .slice Xo12 t518.length ko12, .slice Xo17 t521.length ko17, .slice Xo22 t524.length ko22] HM rfl rfl ?_; clear HM; intro w25 HM))
 refine bodyPost_ret (results_cell_row rfl _ _ gb516 32 #[.int .i64 a0_0, .int .i64 a0_1, .slice Xo12 t518.length ko12, .slice Xo17 t521.length ko17, .slice Xo22 t524.length ko22] (0, 0) _ rfl (HM.bx 1 rfl) Try.underlying32 rfl (by kernel_rfl)) rfl ?_
 exact ⟨_, _, _, ER, (MD HM).pick [3, 4, 5]⟩
def laws_toOp.f (a0_0 : Int) (a0_1 : ByteArray) (a0_2 : ByteArray) : Option (Int × ByteArray × ByteArray) := some (a0_0, a0_1, a0_2)
set_option maxHeartbeats 8000000 in
set_option maxRecDepth 100000 in
theorem laws_toOp.calls (a0_0 : Int) (a0_1 : ByteArray) (a0_2 : ByteArray) (r1 : Int) (r2 : ByteArray) (r3 : ByteArray) (w : World)  (h : laws_toOp.f a0_0 a0_1 a0_2 = some (r1, r2, r3)) :
  Calls Try.prog 10 #[.agg #[.int .i64 a0_0, .string a0_1, .string a0_2]] w fun e w' => e = .returned (.agg #[.int .i64 r1, .string r2, .string r3]) ∧ Mem w [] w' [] := by
 have hu27 := Try.underlying27
 have hu38 := Try.underlying38
 have HM := Mem.nil w
 have H := h
 clear h
 unfold laws_toOp.f at H
 go_enter Try.func10, Try.ntmps10
 simp only [Option.some.injEq, Prod.mk.injEq] at H
 obtain ⟨rfl, rfl, rfl⟩ := H
 go_wp2_with (first | ((with_reducible refine gate_dst (N := 1) rfl ?_); refine pB 1 27 [.int .i64 a0_0, .string a0_1, .string a0_2] HM rfl ?_; clear HM; intro gb527 w2 HM) | ((with_reducible refine gate_dst (N := 2) rfl ?_); refine pB 2 38 [.int .i64 0, .string (⟨#[]⟩ : ByteArray), .string (⟨#[]⟩ : ByteArray)] HM rfl ?_; clear HM; intro gb528 w3 HM) | ((with_reducible refine gate_dst (N := 3) rfl ?_); refine pB 3 38 [.int .i64 0, .string (⟨#[]⟩ : ByteArray), .string (⟨#[]⟩ : ByteArray)] HM rfl ?_; clear HM; intro gb529 w4 HM; obtain ⟨hcz5_0, hcz5_1, hcz5_2, hfz5_0, hfz5_1, hfz5_2⟩ := bk3 (HM.bx 0 rfl)) | ((with_reducible refine gate_st (p := 6) rfl ?_); refine pS 2 6 0 [.int .i64 a0_0] HM rfl rfl ?_; clear HM; intro w6 HM; obtain ⟨hcz7_0, hcz7_1, hcz7_2, hfz7_0, hfz7_1, hfz7_2⟩ := bk3 (HM.bx 0 rfl)) | ((with_reducible refine gate_st (p := 9) rfl ?_); refine pS 2 9 1 [.string a0_1] HM rfl rfl ?_; clear HM; intro w8 HM; obtain ⟨hcz9_0, hcz9_1, hcz9_2, hfz9_0, hfz9_1, hfz9_2⟩ := bk3 (HM.bx 0 rfl)) | ((with_reducible refine gate_st (p := 12) rfl ?_); refine pS 2 12 2 [.string a0_2] HM rfl rfl ?_; clear HM; intro w10 HM; obtain ⟨hcz11_0, hcz11_1, hcz11_2, hfz11_0, hfz11_1, hfz11_2⟩ := bk3 (HM.bx 2 rfl)) | ((with_reducible refine gate_st (p := 2) rfl ?_); refine pS 1 2 0 [.int .i64 a0_0, .string a0_1, .string a0_2] HM rfl rfl ?_; clear HM; intro w12 HM))
 refine bodyPost_ret (results_cell_row rfl _ _ gb528 38 #[.int .i64 a0_0, .string a0_1, .string a0_2] (0, 0) _ rfl (HM.bx 1 rfl) Try.underlying38 rfl (by kernel_rfl)) rfl ?_
 exact ⟨ER, (MD HM).pick []⟩
end Go.Proofs.Ytdeijmofaapgdaa.G

namespace Go.Proofs.Ytdeijmofaapgdaa.G
open Go.RowKit Go.Proofs.YtdeijmofaapgdaaW.PrintWords Go.Proofs.YtdeijmofaapgdaaW.PrintLast Go.Proofs.YtdeijmofaapgdaaW.PrintMore Go.Proofs.Ytdeijmofaapgdaa.Sh
attribute [local go_sem] max2_int min2_int max_two min_two max_three min_three max_four min_four
set_option linter.unusedVariables false
set_option linter.unusedSimpArgs false
def impl_within.f (a0 : Int) (a1 : Int) (a2 : Int) : Option (Bool) := if a0 ≥ a1 then (some (decide (a0 ≤ a2))) else (some false)
set_option maxHeartbeats 8000000 in
set_option maxRecDepth 100000 in
theorem impl_within.calls (a0 : Int) (a1 : Int) (a2 : Int) (r : Bool) (w : World) (h : impl_within.f a0 a1 a2 = some r) :
  Calls Try.prog 55 #[.int .i64 a0, .int .i64 a1, .int .i64 a2] w fun e w' => e = .returned (.bool r) ∧ Drawn0 w w' := by
 have H : (if a0 ≥ a1 then (some (decide (a0 ≤ a2))) else (some false)) = some r := h
 clear h
 by_cases c4 : a0 ≥ a1
 ·rw [if_pos c4] at H
  have c4b0 : decide (a1 ≤ a0) = true := decide_eq_true c4
  clear c4
  obtain rfl := Option.some.inj H
  go_enter Try.func55, Try.ntmps55
  go_wp2
  go_ret
  exact ⟨by first | rfl | (simp; done) | (simp [*]; done), DR⟩
 ·rw [if_neg c4] at H
  have c4b0 : decide (a1 ≤ a0) = false := decide_eq_false c4
  clear c4
  obtain rfl := Option.some.inj H
  go_enter Try.func55, Try.ntmps55
  go_wp2
  go_ret
  exact ⟨by first | rfl | (simp; done) | (simp [*]; done), DR⟩
end Go.Proofs.Ytdeijmofaapgdaa.G

namespace Go.Proofs.Ytdeijmofaapgdaa.Man
open Go.RowKit Go.Proofs.YtdeijmofaapgdaaW.PrintWords Go.Proofs.YtdeijmofaapgdaaW.PrintLast Go.Proofs.YtdeijmofaapgdaaW.PrintMore
set_option linter.unusedVariables false
theorem wsucc_ {i : Nat} (h : i < 9223372036854775807) : wrap64 ((i : Int) + 1) = ((i + 1 : Nat) : Int) := by
 unfold wrap64
 omega
section
variable {P : Program}
theorem cycle_len (zc : Array Value) (n : Nat) (h : 0 < n) : (Builtin.zeroCells zc n).toList.length = n * zc.size := by
 simp [Builtin.zeroCells]
end
end Go.Proofs.Ytdeijmofaapgdaa.Man

namespace Go.Proofs.Ytdeijmofaapgdaa.G
open Go.RowKit Go.Proofs.YtdeijmofaapgdaaW.PrintWords Go.Proofs.YtdeijmofaapgdaaW.PrintLast Go.Proofs.YtdeijmofaapgdaaW.PrintMore Go.Proofs.Ytdeijmofaapgdaa.Sh
attribute [local go_sem] max2_int min2_int max_two min_two max_three min_three max_four min_four
set_option linter.unusedVariables false
set_option linter.unusedSimpArgs false
open Go.Proofs.Ytdeijmofaapgdaa.Man
def impl_Three_ghosts.f (a0 : Int) (a1 : Int) : Option Int := some (max 1 (wrap64 (a0 - a1)))
set_option maxHeartbeats 2000000 in
set_option maxRecDepth 100000 in
theorem impl_Three_ghosts.calls (g : Nat) (a0 : Int) (a1 : Int) (x2 x3 x4 : Value) (r : Int) (w : World) (hb : w.heap[g]? = some (.cells #[.int .i64 a0, .int .i64 a1, x2, x3, x4] 32 (0, 0))) (h : impl_Three_ghosts.f a0 a1 = some r) :
  Calls Try.prog 56 #[.pointer (some ⟨g, 0, none⟩)] w fun e w' => e = .returned (.int .i64 r) ∧ ∃ nd, w' = w.drewN nd := by
 unfold impl_Three_ghosts.f at h
 obtain rfl := Option.some.inj h
 clear h
 have hu45 := Try.underlying32
 have c0 : w.cell? ⟨g, 0, none⟩ = some (.int .i64 a0) := blk_cell hb 0
 have c1 : w.cell? ⟨g, 1, none⟩ = some (.int .i64 a1) := blk_cell hb 1
 have c2 : w.drew.cell? ⟨g, 0, none⟩ = some (.int .i64 a0) := blk_cell (blk_drew hb) 0
 have c3 : w.drew.cell? ⟨g, 1, none⟩ = some (.int .i64 a1) := blk_cell (blk_drew hb) 1
 have mixed : Try.prog.follows .mixedOrders = true := by kernel_rfl
 clear hb
 go_enter Try.func56, Try.ntmps56
 go_wp2
 go_region_o
 go_wp2
 ·go_ret
  exact ⟨by rw [show max 1 (wrap64 (a0 - a1)) = wrap64 (a0 - a1) by omega]; rfl, 1, rfl⟩
 ·go_ret
  exact ⟨by rw [show max 1 (wrap64 (a0 - a1)) = 1 by omega]; rfl, 1, rfl⟩
end Go.Proofs.Ytdeijmofaapgdaa.G

namespace Go.Proofs.Ytdeijmofaapgdaa.G
open Go.RowKit Go.Proofs.YtdeijmofaapgdaaW.PrintWords Go.Proofs.YtdeijmofaapgdaaW.PrintLast Go.Proofs.YtdeijmofaapgdaaW.PrintMore Go.Proofs.Ytdeijmofaapgdaa.Sh
attribute [local go_sem] max2_int min2_int max_two min_two max_three min_three max_four min_four
set_option linter.unusedVariables false
set_option linter.unusedSimpArgs false
def impl_isNum.f (a0 : Int) : Option (Bool) := (impl_within.f a0 0 4294967295).bind fun t531 => (some t531)
set_option maxHeartbeats 8000000 in
set_option maxRecDepth 100000 in
theorem impl_isNum.calls (a0 : Int) (r : Bool) (w : World) (h : impl_isNum.f a0 = some r) :
  Calls Try.prog 57 #[.int .i64 a0] w fun e w' => e = .returned (.bool r) ∧ Drawn0 w w' := by
 have H : ((impl_within.f a0 0 4294967295).bind fun t531 => (some t531)) = some r := h
 clear h
 replace H := BS H
 obtain ⟨t531, A20, H⟩ := H
 have A2 := Aside0.mk A20
 clear A20
 obtain rfl := Option.some.inj H
 go_enter Try.func57, Try.ntmps57
 go_wp2_with (first | ((with_reducible refine gate_callee (f := 55) rfl ?_); refine goesL_ (some 4) rfl rfl Try.func55 (by kernel_rfl) rfl #[.int .i64 a0, .int .i64 0, .int .i64 4294967295] rfl AQ ?_; (with_reducible refine (impl_within.calls a0 0 4294967295 t531 _ A2.out).mono ?_); rintro e w' ⟨rfl, ⟨nd, rfl⟩⟩; refine ⟨_, rfl, ?_⟩))
 go_ret
 exact ⟨by first | rfl | (simp; done) | (simp [*]; done), DR⟩
def slices_Index_int_int.l0 : Nat → List Int → Int → Int → Int → Option (Int)
 | 0, _, _, _, _ => none
 | k + 1, x0, x1, x7, x8 => if x8 < x7 then (if 0 ≤ x8 then (if x8 < (x0.length : Int) then (if x1 = (rd x0 x8) then (some x8) else (slices_Index_int_int.l0 k x0 x1 x7 (wrap64 (x8 + 1)))) else (none)) else (none)) else (some (-1))
def slices_Index_int_int.f (k : Nat) (l0 : List Int) (a1 : Int) : Option (Int) := slices_Index_int_int.l0 k l0 a1 (l0.length : Int) 0
theorem slices_Index_int_int.mono_l : ∀ k, (∀ y0 y1 y2 y3, LeO (slices_Index_int_int.l0 k y0 y1 y2 y3) (slices_Index_int_int.l0 (k + 1) y0 y1 y2 y3))
 | 0 => fun _ _ _ _ r h => by simp [slices_Index_int_int.l0] at h
 | k + 1 => by
  have ih0 := slices_Index_int_int.mono_l k
  ·intro y0 y1 y2 y3
   unfold slices_Index_int_int.l0
   repeat' first | (with_reducible first | exact ih0 _ _ _ _ | exact LeO.refl _ | exact LeO.none _ | refine LeO.ite ?_ ?_ | refine LeO.bind ?_ (fun _ => ?_)) | exact ih0 _ _ _ _ | exact LeO.none _ | refine LeO.ite ?_ ?_ | refine LeO.bind ?_ (fun _ => ?_)
theorem slices_Index_int_int.mono : ∀ a0 a1 k, LeO (slices_Index_int_int.f k a0 a1) (slices_Index_int_int.f (k + 1) a0 a1) := by
 intro a0 a1 k
 have ih0 := slices_Index_int_int.mono_l k
 unfold slices_Index_int_int.f
 repeat' first | (with_reducible first | exact ih0 _ _ _ _ | exact LeO.refl _ | exact LeO.none _ | refine LeO.ite ?_ ?_ | refine LeO.bind ?_ (fun _ => ?_)) | exact ih0 _ _ _ _ | exact LeO.none _ | refine LeO.ite ?_ ?_ | refine LeO.bind ?_ (fun _ => ?_)
set_option maxHeartbeats 8000000 in
set_option maxRecDepth 100000 in
theorem slices_Index_int_int.calls (k : Nat) (A0 : Option Addr) (c0 : Nat) (l0 : List Int) (a1 : Int) (r : Int) (w : World) (hr0 : Kd.C (Kd.int .i64) w A0 l0.length l0) (hc0 : l0.length ≤ c0) (h : slices_Index_int_int.f k l0 a1 = some r) :
  Calls Try.prog 88 #[.slice A0 l0.length c0, .int .i64 a1] w fun e w' => e = .returned (.int .i64 r) ∧ Drawn0 w w' := by
 have HR0 := Aside0.mk hr0
 have HC0 := Aside0.mk hc0
 clear hr0 hc0
 have H : (slices_Index_int_int.l0 k l0 a1 (l0.length : Int) 0) = some r := h
 clear h
 have H' := Aside0.mk H
 clear H
 go_enter Try.func88, Try.ntmps88
 go_wp2
 go_loopg [8] k (fun kq v8 w' => ∃ (x8_1 : Int), v8 = .int .i64 x8_1 ∧ Aside0 (slices_Index_int_int.l0 kq l0 a1 (l0.length : Int) x8_1 = some r) ∧ Aside0 (kq ≤ k) ∧ Drawn0 w w')
 case atStart => exact ⟨(0), RS, H', ⟨Nat.le_refl _⟩, DR⟩
 case round =>
  clear H'
  try clear p2
  obtain ⟨x8_1, rfl, HA, HK1, ⟨m1, rfl⟩⟩ := hrel
  cases gk with
  | zero => exact absurd HA.out (by simp [slices_Index_int_int.l0])
  | succ k1 =>
   have H := HA.out
   clear HA
   simp only [slices_Index_int_int.l0] at H
   by_cases c3 : x8_1 < (l0.length : Int)
   ·rw [if_pos c3] at H
    have c3b0 : decide (x8_1 < (l0.length : Int)) = true := decide_eq_true c3
    clear c3
    by_cases c4 : 0 ≤ x8_1
    ·rw [if_pos c4] at H
     have c4b0 : decide (0 ≤ x8_1) = true := decide_eq_true c4
     clear c4
     by_cases c5 : x8_1 < (l0.length : Int)
     ·rw [if_pos c5] at H
      have c5b0 : decide (x8_1 < (l0.length : Int)) = true := decide_eq_true c5
      clear c5
      by_cases c6 : a1 = (rd l0 x8_1)
      ·rw [if_pos c6] at H
       have c6b0 : (a1 == (rd l0 x8_1)) = true := beq_iff_eq.mpr c6
       have c6b1 : (a1 != (rd l0 x8_1)) = false := bne_eq_false_iff_eq.mpr c6
       clear c6
       obtain rfl := Option.some.inj H
       have p533 : 0 ≤ (x8_1 : Int) := of_decide_eq_true AS
       have q533 : x8_1 < (l0.length : Int) := of_decide_eq_true AS
       obtain ⟨ad533, e533, hx533_0⟩ := Kd.at_int HR0.out x8_1 p533 q533
       cases e533
       replace p533 := eq_true p533
       replace q533 := eq_true q533
       go_wp2
       go_ret
       exact ⟨by first | rfl | (simp; done) | (simp [*]; done), DR⟩
      ·rw [if_neg c6] at H
       have c6b0 : (a1 == (rd l0 x8_1)) = false := beq_eq_false_iff_ne.mpr c6
       have c6b1 : (a1 != (rd l0 x8_1)) = true := bne_iff_ne.mpr c6
       have H' := Aside0.mk H
       clear H
       have p533 : 0 ≤ (x8_1 : Int) := of_decide_eq_true AS
       have q533 : x8_1 < (l0.length : Int) := of_decide_eq_true AS
       obtain ⟨ad533, e533, hx533_0⟩ := Kd.at_int HR0.out x8_1 p533 q533
       cases e533
       replace p533 := eq_true p533
       replace q533 := eq_true q533
       go_wp2
       go_roundg k1
       case measure => have := HK1.out; omega
       case rel => exact ⟨(wrap64 (x8_1 + 1)), RS, H', ⟨by have := HK1.out; omega⟩, DR⟩
     ·rw [if_neg c5] at H
      exact absurd H (by simp)
    ·rw [if_neg c4] at H
     exact absurd H (by simp)
   ·rw [if_neg c3] at H
    have c3b0 : decide (x8_1 < (l0.length : Int)) = false := decide_eq_false c3
    clear c3
    obtain rfl := Option.some.inj H
    go_wp2
    go_ret
    exact ⟨by first | rfl | (simp; done) | (simp [*]; done), DR⟩
def slices_Contains_int_int.f (k : Nat) (l0 : List Int) (a1 : Int) : Option (Bool) := (slices_Index_int_int.f k l0 a1).bind fun t535 => (some (decide (t535 ≥ 0)))
theorem slices_Contains_int_int.mono : ∀ a0 a1 k, LeO (slices_Contains_int_int.f k a0 a1) (slices_Contains_int_int.f (k + 1) a0 a1) := by
 intro a0 a1 k
 unfold slices_Contains_int_int.f
 repeat' first | (with_reducible first | exact slices_Index_int_int.mono _ _ _ | exact LeO.refl _ | exact LeO.none _ | refine LeO.ite ?_ ?_ | refine LeO.bind ?_ (fun _ => ?_)) | exact slices_Index_int_int.mono _ _ _ | exact LeO.none _ | refine LeO.ite ?_ ?_ | refine LeO.bind ?_ (fun _ => ?_)
set_option maxHeartbeats 8000000 in
set_option maxRecDepth 100000 in
theorem slices_Contains_int_int.calls (k : Nat) (A0 : Option Addr) (c0 : Nat) (l0 : List Int) (a1 : Int) (r : Bool) (w : World) (hr0 : Kd.C (Kd.int .i64) w A0 l0.length l0) (hc0 : l0.length ≤ c0) (h : slices_Contains_int_int.f k l0 a1 = some r) :
  Calls Try.prog 58 #[.slice A0 l0.length c0, .int .i64 a1] w fun e w' => e = .returned (.bool r) ∧ Drawn0 w w' := by
 have HR0 := Aside0.mk hr0
 have HC0 := Aside0.mk hc0
 clear hr0 hc0
 have H : ((slices_Index_int_int.f k l0 a1).bind fun t535 => (some (decide (t535 ≥ 0)))) = some r := h
 clear h
 replace H := BS H
 obtain ⟨t535, A30, H⟩ := H
 have A3 := Aside0.mk A30
 clear A30
 obtain rfl := Option.some.inj H
 go_enter Try.func58, Try.ntmps58
 go_wp2_with (first | ((with_reducible refine gate_callee (f := 88) rfl ?_); refine goesL_ (some 7) rfl rfl Try.func88 (by kernel_rfl) rfl #[.slice A0 l0.length c0, .int .i64 a1] rfl AQ ?_; (with_reducible refine (slices_Index_int_int.calls k _ _ l0 a1 t535 _ ?side1 ?side2 A3.out).mono ?_); (case side1 => repeat (first | exact HR0.out | (with_reducible refine Kd.C_alloc ?_ _) | (with_reducible refine Kd.C_drewN ?_ _) | (with_reducible refine Kd.C_drew ?_))); (case side2 => exact HC0.out); rintro e w' ⟨rfl, ⟨nd, rfl⟩⟩; refine ⟨_, rfl, ?_⟩))
 go_ret
 exact ⟨by first | rfl | (simp; done) | (simp [*]; done), DR⟩
end Go.Proofs.Ytdeijmofaapgdaa.G

namespace Go.Proofs.Ytdeijmofaapgdaa.G
open Go.RowKit Go.Proofs.YtdeijmofaapgdaaW.PrintWords Go.Proofs.YtdeijmofaapgdaaW.PrintLast Go.Proofs.YtdeijmofaapgdaaW.PrintMore Go.Proofs.Ytdeijmofaapgdaa.Sh
attribute [local go_sem] max2_int min2_int max_two min_two max_three min_three max_four min_four
set_option linter.unusedVariables false
set_option linter.unusedSimpArgs false
open Go.Proofs.Ytdeijmofaapgdaa.Mm
def impl_copyItems.f (l0 : List (S95)) : Option ((List (S95))) := if ([] : List (S95)).length + l0.length < 3518437208883 then (some (([] : List (S95)) ++ l0)) else (none)
set_option maxHeartbeats 8000000 in
set_option maxRecDepth 100000 in
theorem impl_copyItems.calls (A0 : Option Addr) (c0 : Nat) (l0 : List (S95)) (r : List (S95)) (w : World) (hr0 : Kd.C k95 w A0 l0.length l0) (hc0 : l0.length ≤ c0) (h : impl_copyItems.f l0 = some r) :
  Calls Try.prog 59 #[.slice A0 l0.length c0] w fun e w' => ∃ v0_ : Value, e = .returned (v0_) ∧ Mem w [] w' [rowR k95 95 v0_ r] := by
 have HR0 := Aside0.mk hr0
 have HC0 := Aside0.mk hc0
 clear hr0 hc0
 have HM := Mem.nil w
 have H := h
 clear h
 unfold impl_copyItems.f at H
 go_enter Try.func59, Try.ntmps59
 replace H := GD H; obtain ⟨c2, H⟩ := H
 have LMc2 := Aside0.mk c2
 clear c2
 obtain rfl := Option.some.inj H
 go_wp2_with (first | ((with_reducible refine gate_builtin (b := .append) (xs := #[.const (.slice none 0 0), .tmp 3]) rfl ?_); refine pAn (.const (.slice none 0 0)) (.tmp 3) 30 95 k95 l0 A0 l0.length c0 HM rfl Try.underlying30 info95 (HM.came HR0.out) (by have h_ := LMc2.out; omega) ?_; clear HM; intro v537 w3 HM))
 go_ret
 exact ⟨_, ER, (MD HM).pick [0]⟩
end Go.Proofs.Ytdeijmofaapgdaa.G

namespace Go.Proofs.Ytdeijmofaapgdaa.G
open Go.RowKit Go.Proofs.YtdeijmofaapgdaaW.PrintWords Go.Proofs.YtdeijmofaapgdaaW.PrintLast Go.Proofs.YtdeijmofaapgdaaW.PrintMore Go.Proofs.Ytdeijmofaapgdaa.Sh
attribute [local go_sem] max2_int min2_int max_two min_two max_three min_three max_four min_four
set_option linter.unusedVariables false
set_option linter.unusedSimpArgs false
def impl_isPlain.l0 : Nat → ByteArray → Int → Option (Bool)
 | 0, _, _ => none
 | k + 1, x0, x3 => if x3 < (x0.size : Int) then (if 0 ≤ x3 then (if (bt x0 x3) = 32 then (some false) else (if (bt x0 x3) = 10 then (some false) else (impl_isPlain.l0 k x0 (wrap64 (x3 + 1))))) else (none)) else (some true)
def impl_isPlain.f (k : Nat) (a0 : ByteArray) : Option (Bool) := impl_isPlain.l0 k a0 0
theorem impl_isPlain.mono_l : ∀ k, (∀ y0 y1, LeO (impl_isPlain.l0 k y0 y1) (impl_isPlain.l0 (k + 1) y0 y1))
 | 0 => fun _ _ r h => by simp [impl_isPlain.l0] at h
 | k + 1 => by
  have ih0 := impl_isPlain.mono_l k
  ·intro y0 y1
   unfold impl_isPlain.l0
   repeat' first | (with_reducible first | exact ih0 _ _ | exact LeO.refl _ | exact LeO.none _ | refine LeO.ite ?_ ?_ | refine LeO.bind ?_ (fun _ => ?_)) | exact ih0 _ _ | exact LeO.none _ | refine LeO.ite ?_ ?_ | refine LeO.bind ?_ (fun _ => ?_)
theorem impl_isPlain.mono : ∀ a0 k, LeO (impl_isPlain.f k a0) (impl_isPlain.f (k + 1) a0) := by
 intro a0 k
 have ih0 := impl_isPlain.mono_l k
 unfold impl_isPlain.f
 repeat' first | (with_reducible first | exact ih0 _ _ | exact LeO.refl _ | exact LeO.none _ | refine LeO.ite ?_ ?_ | refine LeO.bind ?_ (fun _ => ?_)) | exact ih0 _ _ | exact LeO.none _ | refine LeO.ite ?_ ?_ | refine LeO.bind ?_ (fun _ => ?_)
set_option maxHeartbeats 8000000 in
set_option maxRecDepth 100000 in
theorem impl_isPlain.calls (k : Nat) (a0 : ByteArray) (r : Bool) (w : World) (h : impl_isPlain.f k a0 = some r) :
  Calls Try.prog 94 #[.string a0] w fun e w' => e = .returned (.bool r) ∧ Drawn0 w w' := by
 have H : (impl_isPlain.l0 k a0 0) = some r := h
 clear h
 have H' := Aside0.mk H
 clear H
 go_enter Try.func94, Try.ntmps94
 go_wp2
 go_loopg [3] k (fun kq v3 w' => ∃ (x3_1 : Int), v3 = .int .i64 x3_1 ∧ Aside0 (impl_isPlain.l0 kq a0 x3_1 = some r) ∧ Aside0 (kq ≤ k) ∧ Drawn0 w w')
 case atStart => exact ⟨(0), RS, H', ⟨Nat.le_refl _⟩, DR⟩
 case round =>
  clear H'
  obtain ⟨x3_1, rfl, HA, HK1, ⟨m1, rfl⟩⟩ := hrel
  cases gk with
  | zero => exact absurd HA.out (by simp [impl_isPlain.l0])
  | succ k1 =>
   have H := HA.out
   clear HA
   simp only [impl_isPlain.l0] at H
   by_cases c2 : x3_1 < (a0.size : Int)
   ·rw [if_pos c2] at H
    have c2b0 : decide (x3_1 < (a0.size : Int)) = true := decide_eq_true c2
    clear c2
    by_cases c3 : 0 ≤ x3_1
    ·rw [if_pos c3] at H
     have c3b0 : decide (0 ≤ x3_1) = true := decide_eq_true c3
     clear c3
     by_cases c5 : (bt a0 x3_1) = 32
     ·rw [if_pos c5] at H
      have c5b0 : ((bt a0 x3_1) == 32) = true := beq_iff_eq.mpr c5
      have c5b1 : ((bt a0 x3_1) != 32) = false := bne_eq_false_iff_eq.mpr c5
      clear c5
      obtain rfl := Option.some.inj H
      have p4 : 0 ≤ (x3_1 : Int) := of_decide_eq_true AS
      have q4 : x3_1 < (a0.size : Int) := of_decide_eq_true AS
      have hx4 := bt_at a0 x3_1
      replace p4 := eq_true p4
      replace q4 := eq_true q4
      go_wp2
      go_ret
      exact ⟨by first | rfl | (simp; done) | (simp [*]; done), DR⟩
     ·rw [if_neg c5] at H
      have c5b0 : ((bt a0 x3_1) == 32) = false := beq_eq_false_iff_ne.mpr c5
      have c5b1 : ((bt a0 x3_1) != 32) = true := bne_iff_ne.mpr c5
      by_cases c7 : (bt a0 x3_1) = 10
      ·rw [if_pos c7] at H
       have c7b0 : ((bt a0 x3_1) == 10) = true := beq_iff_eq.mpr c7
       have c7b1 : ((bt a0 x3_1) != 10) = false := bne_eq_false_iff_eq.mpr c7
       clear c7
       obtain rfl := Option.some.inj H
       have p4 : 0 ≤ (x3_1 : Int) := of_decide_eq_true AS
       have q4 : x3_1 < (a0.size : Int) := of_decide_eq_true AS
       have hx4 := bt_at a0 x3_1
       replace p4 := eq_true p4
       replace q4 := eq_true q4
       have p6 : 0 ≤ (x3_1 : Int) := of_decide_eq_true AS
       have q6 : x3_1 < (a0.size : Int) := of_decide_eq_true AS
       have hx6 := bt_at a0 x3_1
       replace p6 := eq_true p6
       replace q6 := eq_true q6
       go_wp2
       go_ret
       exact ⟨by first | rfl | (simp; done) | (simp [*]; done), DR⟩
      ·rw [if_neg c7] at H
       have c7b0 : ((bt a0 x3_1) == 10) = false := beq_eq_false_iff_ne.mpr c7
       have c7b1 : ((bt a0 x3_1) != 10) = true := bne_iff_ne.mpr c7
       have H' := Aside0.mk H
       clear H
       have p4 : 0 ≤ (x3_1 : Int) := of_decide_eq_true AS
       have q4 : x3_1 < (a0.size : Int) := of_decide_eq_true AS
       have hx4 := bt_at a0 x3_1
       replace p4 := eq_true p4
       replace q4 := eq_true q4
       have p6 : 0 ≤ (x3_1 : Int) := of_decide_eq_true AS
       have q6 : x3_1 < (a0.size : Int) := of_decide_eq_true AS
       have hx6 := bt_at a0 x3_1
       replace p6 := eq_true p6
       replace q6 := eq_true q6
       go_wp2
       go_roundg k1
       case measure => have := HK1.out; omega
       case rel => exact ⟨(wrap64 (x3_1 + 1)), RS, H', ⟨by have := HK1.out; omega⟩, DR⟩
    ·rw [if_neg c3] at H
     exact absurd H (by simp)
   ·rw [if_neg c2] at H
    have c2b0 : decide (x3_1 < (a0.size : Int)) = false := decide_eq_false c2
    clear c2
    obtain rfl := Option.some.inj H
    go_wp2
    go_ret
    exact ⟨by first | rfl | (simp; done) | (simp [*]; done), DR⟩
end Go.Proofs.Ytdeijmofaapgdaa.G

namespace Go.Proofs.Ytdeijmofaapgdaa.G
open Go.RowKit Go.Proofs.YtdeijmofaapgdaaW.PrintWords Go.Proofs.YtdeijmofaapgdaaW.PrintLast Go.Proofs.YtdeijmofaapgdaaW.PrintMore Go.Proofs.Ytdeijmofaapgdaa.Sh
attribute [local go_sem] max2_int min2_int max_two min_two max_three min_three max_four min_four
set_option linter.unusedVariables false
set_option linter.unusedSimpArgs false
open Go.Proofs.Ytdeijmofaapgdaa.Mm
def impl_ItemOk.f (k : Nat) (a0_0 : ByteArray) (a0_1 : ByteArray) (a0_2 : Int) : Option (Bool) := (impl_within.f (a0_0.size : Int) 1 20).bind fun t540 => (if t540 = true then (if (a0_1.size : Int) ≤ 40 then ((impl_isPlain.f k a0_0).bind fun t541 => (if t541 = true then ((impl_isPlain.f k a0_1).bind fun t542 => (if t542 = true then ((impl_within.f a0_2 0 3).bind fun t543 => (some t543)) else (some false))) else (some false))) else (some false)) else (some false))
theorem impl_ItemOk.mono : ∀ a0 a1 a2 k, LeO (impl_ItemOk.f k a0 a1 a2) (impl_ItemOk.f (k + 1) a0 a1 a2) := by
 intro a0 a1 a2 k
 unfold impl_ItemOk.f
 repeat' first | (with_reducible first | exact impl_isPlain.mono _ _ | exact LeO.refl _ | exact LeO.none _ | refine LeO.ite ?_ ?_ | refine LeO.bind ?_ (fun _ => ?_)) | exact impl_isPlain.mono _ _ | exact LeO.none _ | refine LeO.ite ?_ ?_ | refine LeO.bind ?_ (fun _ => ?_)
set_option maxHeartbeats 8000000 in
set_option maxRecDepth 100000 in
theorem impl_ItemOk.calls (k : Nat) (a0_0 : ByteArray) (a0_1 : ByteArray) (a0_2 : Int) (r : Bool) (w : World)  (h : impl_ItemOk.f k a0_0 a0_1 a0_2 = some r) :
  Calls Try.prog 75 #[.agg #[.string a0_0, .string a0_1, .int .i64 a0_2]] w fun e w' => e = .returned (.bool r) ∧ Mem w [] w' [] := by
 have hu95 := Try.underlying95
 have HM := Mem.nil w
 have H := h
 clear h
 unfold impl_ItemOk.f at H
 go_enter Try.func75, Try.ntmps75
 replace H := BN H; obtain ⟨t540, A4, H⟩ := H
 replace H := IB H
 rcases H with ⟨c6, H⟩ | ⟨c6, H⟩
 ·subst c6
  replace H := IT H; rcases H with ⟨c8, H⟩ | ⟨c8, H⟩
  ·replace c8 : (a0_1.size : Int) ≤ 40 := c8
   have c8b0 : decide ((a0_1.size : Int) ≤ 40) = true := decide_eq_true c8
   have c8b1 : decide (a0_1.size ≤ 40) = true := decide_eq_true (by omega)
   clear c8
   replace H := BN H; obtain ⟨t541, A9, H⟩ := H
   replace H := IB H
   rcases H with ⟨c11, H⟩ | ⟨c11, H⟩
   ·subst c11
    replace H := BN H; obtain ⟨t542, A13, H⟩ := H
    replace H := IB H
    rcases H with ⟨c15, H⟩ | ⟨c15, H⟩
    ·subst c15
     replace H := BN H; obtain ⟨t543, A17, H⟩ := H
     obtain rfl := Option.some.inj H
     go_wp2_with (first | ((with_reducible refine gate_dst (N := 1) rfl ?_); refine pB 1 95 [.string a0_0, .string a0_1, .int .i64 a0_2] HM rfl ?_; clear HM; intro gb539 w2 HM; obtain ⟨hcz3_0, hcz3_1, hcz3_2, hfz3_0, hfz3_1, hfz3_2⟩ := bk3 (HM.bx 0 rfl)) | ((with_reducible refine gate_callee (f := 55) rfl ?_); refine pC (some 6) rfl #[.int .i64 (a0_0.size : Int), .int .i64 1, .int .i64 20] rfl Try.func55 (impl_within.calls (a0_0.size : Int) 1 20 true _ A4.out) ?_; rintro e w5 ⟨rfl, hd⟩; refine ⟨_, rfl, ?_⟩; replace HM := HM.drawn hd; clear hd; obtain ⟨hcz7_0, hcz7_1, hcz7_2, hfz7_0, hfz7_1, hfz7_2⟩ := bk3 (HM.bx 0 rfl)) | ((with_reducible refine gate_callee (f := 94) rfl ?_); refine pC (some 16) rfl #[.string a0_0] rfl Try.func94 (impl_isPlain.calls k a0_0 true _ A9.out) ?_; rintro e w10 ⟨rfl, hd⟩; refine ⟨_, rfl, ?_⟩; replace HM := HM.drawn hd; clear hd; obtain ⟨hcz12_0, hcz12_1, hcz12_2, hfz12_0, hfz12_1, hfz12_2⟩ := bk3 (HM.bx 0 rfl)) | ((with_reducible refine gate_callee (f := 94) rfl ?_); refine pC (some 21) rfl #[.string a0_1] rfl Try.func94 (impl_isPlain.calls k a0_1 true _ A13.out) ?_; rintro e w14 ⟨rfl, hd⟩; refine ⟨_, rfl, ?_⟩; replace HM := HM.drawn hd; clear hd; obtain ⟨hcz16_0, hcz16_1, hcz16_2, hfz16_0, hfz16_1, hfz16_2⟩ := bk3 (HM.bx 0 rfl)) | ((with_reducible refine gate_callee (f := 55) rfl ?_); refine pC (some 26) rfl #[.int .i64 a0_2, .int .i64 0, .int .i64 3] rfl Try.func55 (impl_within.calls a0_2 0 3 t543 _ A17.out) ?_; rintro e w18 ⟨rfl, hd⟩; refine ⟨_, rfl, ?_⟩; replace HM := HM.drawn hd; clear hd))
     go_ret
     exact ⟨ER, (MD HM).pick []⟩
    ·subst c15
     obtain rfl := Option.some.inj H
     go_wp2_with (first | ((with_reducible refine gate_dst (N := 1) rfl ?_); refine pB 1 95 [.string a0_0, .string a0_1, .int .i64 a0_2] HM rfl ?_; clear HM; intro gb539 w2 HM; obtain ⟨hcz3_0, hcz3_1, hcz3_2, hfz3_0, hfz3_1, hfz3_2⟩ := bk3 (HM.bx 0 rfl)) | ((with_reducible refine gate_callee (f := 55) rfl ?_); refine pC (some 6) rfl #[.int .i64 (a0_0.size : Int), .int .i64 1, .int .i64 20] rfl Try.func55 (impl_within.calls (a0_0.size : Int) 1 20 true _ A4.out) ?_; rintro e w5 ⟨rfl, hd⟩; refine ⟨_, rfl, ?_⟩; replace HM := HM.drawn hd; clear hd; obtain ⟨hcz7_0, hcz7_1, hcz7_2, hfz7_0, hfz7_1, hfz7_2⟩ := bk3 (HM.bx 0 rfl)) | ((with_reducible refine gate_callee (f := 94) rfl ?_); refine pC (some 16) rfl #[.string a0_0] rfl Try.func94 (impl_isPlain.calls k a0_0 true _ A9.out) ?_; rintro e w10 ⟨rfl, hd⟩; refine ⟨_, rfl, ?_⟩; replace HM := HM.drawn hd; clear hd; obtain ⟨hcz12_0, hcz12_1, hcz12_2, hfz12_0, hfz12_1, hfz12_2⟩ := bk3 (HM.bx 0 rfl)) | ((with_reducible refine gate_callee (f := 94) rfl ?_); refine pC (some 21) rfl #[.string a0_1] rfl Try.func94 (impl_isPlain.calls k a0_1 false _ A13.out) ?_; rintro e w14 ⟨rfl, hd⟩; refine ⟨_, rfl, ?_⟩; replace HM := HM.drawn hd; clear hd))
     go_ret
     exact ⟨ER, (MD HM).pick []⟩
   ·subst c11
    obtain rfl := Option.some.inj H
    go_wp2_with (first | ((with_reducible refine gate_dst (N := 1) rfl ?_); refine pB 1 95 [.string a0_0, .string a0_1, .int .i64 a0_2] HM rfl ?_; clear HM; intro gb539 w2 HM; obtain ⟨hcz3_0, hcz3_1, hcz3_2, hfz3_0, hfz3_1, hfz3_2⟩ := bk3 (HM.bx 0 rfl)) | ((with_reducible refine gate_callee (f := 55) rfl ?_); refine pC (some 6) rfl #[.int .i64 (a0_0.size : Int), .int .i64 1, .int .i64 20] rfl Try.func55 (impl_within.calls (a0_0.size : Int) 1 20 true _ A4.out) ?_; rintro e w5 ⟨rfl, hd⟩; refine ⟨_, rfl, ?_⟩; replace HM := HM.drawn hd; clear hd; obtain ⟨hcz7_0, hcz7_1, hcz7_2, hfz7_0, hfz7_1, hfz7_2⟩ := bk3 (HM.bx 0 rfl)) | ((with_reducible refine gate_callee (f := 94) rfl ?_); refine pC (some 16) rfl #[.string a0_0] rfl Try.func94 (impl_isPlain.calls k a0_0 false _ A9.out) ?_; rintro e w10 ⟨rfl, hd⟩; refine ⟨_, rfl, ?_⟩; replace HM := HM.drawn hd; clear hd))
    go_ret
    exact ⟨ER, (MD HM).pick []⟩
  ·replace c8 : ¬ ((a0_1.size : Int) ≤ 40) := c8
   have c8b0 : decide ((a0_1.size : Int) ≤ 40) = false := decide_eq_false c8
   have c8b1 : decide (a0_1.size ≤ 40) = false := decide_eq_false (by omega)
   clear c8
   obtain rfl := Option.some.inj H
   go_wp2_with (first | ((with_reducible refine gate_dst (N := 1) rfl ?_); refine pB 1 95 [.string a0_0, .string a0_1, .int .i64 a0_2] HM rfl ?_; clear HM; intro gb539 w2 HM; obtain ⟨hcz3_0, hcz3_1, hcz3_2, hfz3_0, hfz3_1, hfz3_2⟩ := bk3 (HM.bx 0 rfl)) | ((with_reducible refine gate_callee (f := 55) rfl ?_); refine pC (some 6) rfl #[.int .i64 (a0_0.size : Int), .int .i64 1, .int .i64 20] rfl Try.func55 (impl_within.calls (a0_0.size : Int) 1 20 true _ A4.out) ?_; rintro e w5 ⟨rfl, hd⟩; refine ⟨_, rfl, ?_⟩; replace HM := HM.drawn hd; clear hd; obtain ⟨hcz7_0, hcz7_1, hcz7_2, hfz7_0, hfz7_1, hfz7_2⟩ := bk3 (HM.bx 0 rfl)))
   go_ret
   exact ⟨ER, (MD HM).pick []⟩
 ·subst c6
  obtain rfl := Option.some.inj H
  go_wp2_with (first | ((with_reducible refine gate_dst (N := 1) rfl ?_); refine pB 1 95 [.string a0_0, .string a0_1, .int .i64 a0_2] HM rfl ?_; clear HM; intro gb539 w2 HM; obtain ⟨hcz3_0, hcz3_1, hcz3_2, hfz3_0, hfz3_1, hfz3_2⟩ := bk3 (HM.bx 0 rfl)) | ((with_reducible refine gate_callee (f := 55) rfl ?_); refine pC (some 6) rfl #[.int .i64 (a0_0.size : Int), .int .i64 1, .int .i64 20] rfl Try.func55 (impl_within.calls (a0_0.size : Int) 1 20 false _ A4.out) ?_; rintro e w5 ⟨rfl, hd⟩; refine ⟨_, rfl, ?_⟩; replace HM := HM.drawn hd; clear hd))
  go_ret
  exact ⟨ER, (MD HM).pick []⟩
end Go.Proofs.Ytdeijmofaapgdaa.G

namespace Go.Proofs.Ytdeijmofaapgdaa.G
open Go.RowKit Go.Proofs.YtdeijmofaapgdaaW.PrintWords Go.Proofs.YtdeijmofaapgdaaW.PrintLast Go.Proofs.YtdeijmofaapgdaaW.PrintMore Go.Proofs.Ytdeijmofaapgdaa.Sh
attribute [local go_sem] max2_int min2_int max_two min_two max_three min_three max_four min_four
set_option linter.unusedVariables false
set_option linter.unusedSimpArgs false
open Go.Proofs.Ytdeijmofaapgdaa.Man
theorem impl_itemAt.closure (key : ByteArray) (B : Nat) (W : World) (x0 x1 : ByteArray) (x2 : Int) (hcell : W.cell? ⟨B, 0, none⟩ = some (.string key)) (hB : B < W.heap.size) :
  Calls Try.prog 102 #[.agg #[.string x0, .string x1, .int .i64 x2], .pointer (some ⟨B, 0, none⟩)] W fun e w' => e = .returned (.bool (x0.toList == key.toList)) ∧ Below W.heap.size W w' := by
 have hne : B ≠ W.heap.size := by omega
 have hu := Try.underlying95
 go_enter Try.func102, Try.ntmps102
 go_wp2
 go_ret
 exact ⟨rfl, by repeat (first | exact Below.refl _ _ | apply below_alloc)⟩
def impl_itemAt.idx (key : ByteArray) : List S95 → Nat → Int
 | [], _ => -1
 | x :: r, i => if x.f0.toList = key.toList then (i : Int) else impl_itemAt.idx key r (i + 1)
theorem impl_itemAt.idx_at (key : ByteArray) (l : List S95) (i : Nat) (h : i < l.length) : impl_itemAt.idx key (l.drop i) i = if (rd_T95 l (i : Int)).f0.toList = key.toList then (i : Int) else impl_itemAt.idx key (l.drop (i + 1)) (i + 1) := by
 rw [List.drop_eq_getElem_cons h, impl_itemAt.idx]
 have e : rd_T95 l (i : Int) = l[i] := by
  show l.getD (i : Int).toNat _ = _
  simp [List.getD_eq_getElem?_getD, h]
 rw [e]
theorem impl_itemAt.idx_end (key : ByteArray) (l : List S95) (i : Nat) (h : ¬ i < l.length) : impl_itemAt.idx key (l.drop i) i = -1 := by
 rw [List.drop_of_length_le (by omega)]; rfl
set_option maxHeartbeats 1000000 in
theorem impl_itemAt.indexFunc (key : ByteArray) (B : Nat) (A0 : Option Addr) (c0 : Nat) (l0 : List S95) (w : World) (hcell : w.cell? ⟨B, 0, none⟩ = some (.string key)) (hB : B < w.heap.size) (hr0 : Kd.C k95 w A0 l0.length l0) (hc0 : l0.length ≤ c0) :
  Calls Try.prog 98 #[.slice A0 l0.length c0, .func (.func 102) #[] #[.pointer (some ⟨B, 0, none⟩)]] w fun e w' => e = .returned (.int .i64 (impl_itemAt.idx key l0 0)) ∧ Below w.heap.size w w' := by
 have HR0 := Aside0.mk hr0
 have HC0 := Aside0.mk hc0
 have HL := Aside0.mk (show l0.length ≤ 9223372036854775807 from hr0.2.1)
 have HX := Aside0.mk hcell
 have HBB := Aside0.mk hB
 clear hr0 hc0 hcell hB
 have HB := Aside0.mk (Below.refl w.heap.size w)
 obtain ⟨R, hR⟩ : ∃ R, R = impl_itemAt.idx key l0 0 := ⟨_, rfl⟩
 rw [← hR]
 have HN := Aside0.mk (show impl_itemAt.idx key (l0.drop 0) 0 = R from hR.symm)
 clear hR
 go_enter Try.func98, Try.ntmps98
 go_wp2
 go_loopg [5, 8] l0.length (fun kq _ v8 w' => ∃ x : Int, v8 = .int .i64 x ∧ Aside0 (∃ n : Nat, x = (n : Int) ∧ impl_itemAt.idx key (l0.drop n) n = R ∧ n + kq = l0.length) ∧ Aside0 (Below w.heap.size w w'))
 case atStart => exact ⟨0, rfl, ⟨0, rfl, HN.out, Nat.zero_add _⟩, HB⟩
 case round =>
  clear HN
  obtain ⟨x, rfl, HN, HB⟩ := hrel
  have hcl : ∀ y : S95, Calls Try.prog 102 #[.agg #[.string y.f0, .string y.f1, .int .i64 y.f2], .pointer (some ⟨B, 0, none⟩)] wr fun e w' => e = .returned (.bool (y.f0.toList == key.toList)) ∧ Below wr.heap.size wr w' := fun y => impl_itemAt.closure key B wr y.f0 y.f1 y.f2 ((HB.out.cell (World.block_lt_of_cell? w _ HX.out)).trans HX.out) (Nat.lt_of_lt_of_le HBB.out HB.out.size)
  by_cases hlt : x < (l0.length : Int)
  ·have hd : decide (x < (l0.length : Int)) = true := decide_eq_true hlt
   have hn0 : 0 ≤ x := by obtain ⟨n, rfl, _⟩ := HN.out; exact Int.natCast_nonneg n
   obtain ⟨ad, hA, hx0, hx1, hx2⟩ := at_T95 HR0.out x hn0 hlt
   subst hA
   replace hx0 := (HB.out.cell (World.block_lt_of_cell? w _ hx0)).trans hx0
   replace hx1 := (HB.out.cell (World.block_lt_of_cell? w _ hx1)).trans hx1
   replace hx2 := (HB.out.cell (World.block_lt_of_cell? w _ hx2)).trans hx2
   have hcall := hcl (rd_T95 l0 x)
   clear hcl
   have H0 := Aside0.mk hn0
   have H1 := Aside0.mk hlt
   replace hn0 := eq_true hn0
   replace hlt := eq_true hlt
   obtain ⟨y, hy⟩ : ∃ y, rd_T95 l0 x = y := ⟨_, rfl⟩
   rw [hy] at hx0 hx1 hx2 hcall
   have HY := Aside0.mk hy
   clear hy
   by_cases c : y.f0.toList = key.toList
   ·rw [show (y.f0.toList == key.toList) = true from beq_iff_eq.mpr c] at hcall
    have C := Aside0.mk c
    clear c
    go_wp2_with fail
    refine hcall.mono ?_
    rintro e w' ⟨rfl, hb'⟩
    have HB' := Aside0.mk hb'
    clear hb' hcall
    go_wp2
    go_ret
    refine ⟨?_, below_step HB.out HB'.out⟩
    obtain ⟨n, rfl, hn, hk⟩ := HN.out
    have e := impl_itemAt.idx_at key l0 n (Int.ofNat_lt.mp H1.out)
    rw [HY.out, if_pos C.out, hn] at e
    rw [e]
    rfl
   ·rw [show (y.f0.toList == key.toList) = false from beq_eq_false_iff_ne.mpr c] at hcall
    have C := Aside0.mk c
    clear c
    go_wp2_with fail
    refine hcall.mono ?_
    rintro e w' ⟨rfl, hb'⟩
    have HB' := Aside0.mk hb'
    clear hb' hcall
    go_wp2
    obtain ⟨n, rfl, hn, hk⟩ := HN.out
    have hlt' := Int.ofNat_lt.mp H1.out
    go_roundg (gk - 1)
    case measure => omega
    case rel =>
     have e := impl_itemAt.idx_at key l0 n hlt'
     rw [HY.out, if_neg C.out, hn] at e
     exact ⟨_, rfl, ⟨n + 1, wsucc_ (by have := HL.out; omega), e.symm, by omega⟩, ⟨below_step HB.out HB'.out⟩⟩
  ·have hd : decide (x < (l0.length : Int)) = false := decide_eq_false hlt
   clear hcl
   have HLT := Aside0.mk hlt
   clear hlt
   go_wp2
   go_ret
   obtain ⟨n, rfl, hn, hk⟩ := HN.out
   have hlt' := HLT.out
   rw [impl_itemAt.idx_end key l0 n (by omega)] at hn
   exact ⟨by rw [← hn]; rfl, HB.out⟩
def impl_itemAt.f (l0 : List S95) (a1 : ByteArray) : Option Int := some (impl_itemAt.idx a1 l0 0)
theorem impl_itemAt.calls (A0 : Option Addr) (c0 : Nat) (l0 : List S95) (a1 : ByteArray) (r : Int) (w : World) (hr0 : Kd.C k95 w A0 l0.length l0) (hc0 : l0.length ≤ c0) (h : impl_itemAt.f l0 a1 = some r) :
  Calls Try.prog 89 #[.slice A0 l0.length c0, .string a1] w fun e w' => e = .returned (.int .i64 r) ∧ Below w.heap.size w w' := by
 obtain rfl := Option.some.inj h
 have hb0 : Below w.heap.size w (w.alloc (.cells #[.string a1] 9)) := below_alloc (Below.refl _ w) _
 have hcall := impl_itemAt.indexFunc a1 w.heap.size A0 c0 l0 (w.alloc (.cells #[.string a1] 9)) (by simp) (by simp) (Kd.C_below hr0 hb0) hc0
 have HB := Aside0.mk hb0
 clear h hr0 hc0 hb0
 obtain ⟨R, hR⟩ : ∃ R, R = impl_itemAt.idx a1 l0 0 := ⟨_, rfl⟩
 rw [← hR] at hcall ⊢
 have HR := Aside0.mk hR
 clear hR
 go_enter Try.func89, Try.ntmps89
 go_wp2_with fail
 refine hcall.mono ?_
 rintro e w' ⟨rfl, hb'⟩
 have HB' := Aside0.mk hb'
 clear hb' hcall
 go_wp2
 go_ret
 exact ⟨rfl, below_step HB.out HB'.out⟩
end Go.Proofs.Ytdeijmofaapgdaa.G

namespace Go.Proofs.Ytdeijmofaapgdaa.G
open Go.RowKit Go.Proofs.YtdeijmofaapgdaaW.PrintWords Go.Proofs.YtdeijmofaapgdaaW.PrintLast Go.Proofs.YtdeijmofaapgdaaW.PrintMore Go.Proofs.Ytdeijmofaapgdaa.Sh
attribute [local go_sem] max2_int min2_int max_two min_two max_three min_three max_four min_four
set_option linter.unusedVariables false
set_option linter.unusedSimpArgs false
open Go.Proofs.Ytdeijmofaapgdaa.Mm
def impl_areItems.l0 : Nat → List (S95) → List (S95) → Int → Int → Option (Bool)
 | 0, _, _, _, _ => none
 | k + 1, x0, x5, x6, x7 => if x7 < x6 then (if 0 ≤ x7 then (if x7 < (x5.length : Int) then ((impl_ItemOk.f k ((rd_T95 x5 x7).f0) ((rd_T95 x5 x7).f1) ((rd_T95 x5 x7).f2)).bind fun t546 => (if t546 = true then ((impl_itemAt.f x0 ((rd_T95 x5 x7).f0)).bind fun t547 => (if t547 = x7 then (impl_areItems.l0 k x0 x5 x6 (wrap64 (x7 + 1))) else (some false))) else (some false))) else (none)) else (none)) else (some true)
def impl_areItems.f (k : Nat) (l0 : List (S95)) : Option (Bool) := impl_areItems.l0 k l0 l0 (l0.length : Int) 0
theorem impl_areItems.mono_l : ∀ k, (∀ y0 y1 y2 y3, LeO (impl_areItems.l0 k y0 y1 y2 y3) (impl_areItems.l0 (k + 1) y0 y1 y2 y3))
 | 0 => fun _ _ _ _ r h => by simp [impl_areItems.l0] at h
 | k + 1 => by
  have ih0 := impl_areItems.mono_l k
  ·intro y0 y1 y2 y3
   unfold impl_areItems.l0
   repeat' first | (with_reducible first | exact ih0 _ _ _ _ | exact impl_ItemOk.mono _ _ _ _ | exact LeO.refl _ | exact LeO.none _ | refine LeO.ite ?_ ?_ | refine LeO.bind ?_ (fun _ => ?_)) | exact ih0 _ _ _ _ | exact impl_ItemOk.mono _ _ _ _ | exact LeO.none _ | refine LeO.ite ?_ ?_ | refine LeO.bind ?_ (fun _ => ?_)
theorem impl_areItems.mono : ∀ a0 k, LeO (impl_areItems.f k a0) (impl_areItems.f (k + 1) a0) := by
 intro a0 k
 have ih0 := impl_areItems.mono_l k
 unfold impl_areItems.f
 repeat' first | (with_reducible first | exact ih0 _ _ _ _ | exact impl_ItemOk.mono _ _ _ _ | exact LeO.refl _ | exact LeO.none _ | refine LeO.ite ?_ ?_ | refine LeO.bind ?_ (fun _ => ?_)) | exact ih0 _ _ _ _ | exact impl_ItemOk.mono _ _ _ _ | exact LeO.none _ | refine LeO.ite ?_ ?_ | refine LeO.bind ?_ (fun _ => ?_)
set_option maxHeartbeats 8000000 in
set_option maxRecDepth 100000 in
theorem impl_areItems.calls (k : Nat) (A0 : Option Addr) (c0 : Nat) (l0 : List (S95)) (r : Bool) (w : World) (hr0 : Kd.C k95 w A0 l0.length l0) (hc0 : l0.length ≤ c0) (h : impl_areItems.f k l0 = some r) :
  Calls Try.prog 60 #[.slice A0 l0.length c0] w fun e w' => e = .returned (.bool r) ∧ Mem w [] w' [] := by
 have hu95 := Try.underlying95
 have HR0 := Aside0.mk hr0
 have HC0 := Aside0.mk hc0
 clear hr0 hc0
 have HM := Mem.nil w
 have H := h
 clear h
 unfold impl_areItems.f at H
 go_enter Try.func60, Try.ntmps60
 have H' := Aside0.mk H
 clear H
 go_wp2
 go_loopg [7] k (fun kq v7 w' => ∃ (x7_1 : Int), v7 = .int .i64 x7_1 ∧ Aside0 (impl_areItems.l0 kq l0 l0 (l0.length : Int) x7_1 = some r) ∧ Aside0 (kq ≤ k) ∧ Mem w [] w' [])
 case atStart => exact ⟨(0), RS, H', ⟨Nat.le_refl _⟩, (MD HM).pick []⟩
 case round =>
  clear H' HM
  obtain ⟨x7_1, rfl, HA, HK1, HM⟩ := hrel
  cases gk with
  | zero => exact absurd HA.out (by simp [impl_areItems.l0])
  | succ k1 =>
   have H := HA.out
   clear HA
   simp only [impl_areItems.l0] at H
   go_upto_if 8 with (fail)
   replace H := IT H; rcases H with ⟨c2, H⟩ | ⟨c2, H⟩
   ·have c2b0 : decide (x7_1 < (l0.length : Int)) = true := decide_eq_true c2
    clear c2
    (first | rw [c2b0] | (simp only [i64_w, i32_w]; rw [c2b0]) | skip)
    replace H := GD H; obtain ⟨c3, H⟩ := H
    have c3b0 : decide (0 ≤ x7_1) = true := decide_eq_true c3
    clear c3
    replace H := GD H; obtain ⟨c4, H⟩ := H
    have c4b0 : decide (x7_1 < (l0.length : Int)) = true := decide_eq_true c4
    clear c4
    replace H := BN H; obtain ⟨t546, A8, H⟩ := H
    replace H := IB H
    rcases H with ⟨c10, H⟩ | ⟨c10, H⟩
    ·subst c10
     replace H := BN H; obtain ⟨t547, A12, H⟩ := H
     have p544 : 0 ≤ (x7_1 : Int) := of_decide_eq_true AS
     have q544 : (x7_1 : Int) < (l0.length : Int) := of_decide_eq_true AS
     obtain ⟨ad544, e544, hx544_0, hx544_1, hx544_2⟩ := at_T95 (HM.came HR0.out) x7_1 p544 q544
     cases e544
     replace p544 := eq_true p544
     replace q544 := eq_true q544
     go_upto_if 22 with (first | ((with_reducible refine gate_dst (N := 4) rfl ?_); refine pB 4 95 [.string (⟨#[]⟩ : ByteArray), .string (⟨#[]⟩ : ByteArray), .int .i64 0] HM rfl ?_; clear HM; intro gb545 w5 HM) | ((with_reducible refine gate_st (p := 4) rfl ?_); refine pS 0 4 0 [.string ((rd_T95 l0 x7_1).f0), .string ((rd_T95 l0 x7_1).f1), .int .i64 ((rd_T95 l0 x7_1).f2)] HM rfl rfl ?_; clear HM; intro w6 HM; obtain ⟨hcz7_0, hcz7_1, hcz7_2, hfz7_0, hfz7_1, hfz7_2⟩ := bk3 (HM.bx 0 rfl)) | ((with_reducible refine gate_callee (f := 75) rfl ?_); refine pC (some 13) rfl #[.agg #[.string ((rd_T95 l0 x7_1).f0), .string ((rd_T95 l0 x7_1).f1), .int .i64 ((rd_T95 l0 x7_1).f2)]] rfl Try.func75 (impl_ItemOk.calls k1 ((rd_T95 l0 x7_1).f0) ((rd_T95 l0 x7_1).f1) ((rd_T95 l0 x7_1).f2) true _ A8.out) ?_; rintro e w9 ⟨rfl, hR⟩; refine ⟨_, rfl, ?_⟩; replace HM := HM.call hR; clear hR; obtain ⟨hcz11_0, hcz11_1, hcz11_2, hfz11_0, hfz11_1, hfz11_2⟩ := bk3 (HM.bx 0 rfl)) | ((with_reducible refine gate_callee (f := 89) rfl ?_); refine pC (some 19) rfl #[.slice (some ad544) l0.length c0, .string ((rd_T95 l0 x7_1).f0)] rfl Try.func89 (impl_itemAt.calls (some ad544) c0 l0 ((rd_T95 l0 x7_1).f0) t547 _ (HM.came HR0.out) HC0.out A12.out) ?_; rintro e w13 ⟨rfl, hb⟩; refine ⟨_, rfl, ?_⟩; replace HM := HM.below hb; clear hb))
     replace HM := nzM HM
     replace H := IT H; rcases H with ⟨c14, H⟩ | ⟨c14, H⟩
     ·have c14b0 : (t547 == x7_1) = true := beq_iff_eq.mpr c14
      have c14b1 : (t547 != x7_1) = false := bne_eq_false_iff_eq.mpr c14
      clear c14
      (first | rw [c14b0] | (simp only [i64_w, i32_w]; rw [c14b0]) | skip)
      have H' := Aside0.mk H
      clear H
      go_wp2
      go_roundg k1
      case measure => have := HK1.out; omega
      case rel => exact ⟨(wrap64 (x7_1 + 1)), RS, H', ⟨by have := HK1.out; omega⟩, (MD HM).pick []⟩
     ·have c14b0 : (t547 == x7_1) = false := beq_eq_false_iff_ne.mpr c14
      have c14b1 : (t547 != x7_1) = true := bne_iff_ne.mpr c14
      (first | rw [c14b0] | (simp only [i64_w, i32_w]; rw [c14b0]) | skip)
      obtain rfl := Option.some.inj H
      go_wp2
      go_ret
      exact ⟨ER, (MD HM).pick []⟩
    ·subst c10
     obtain rfl := Option.some.inj H
     have p544 : 0 ≤ (x7_1 : Int) := of_decide_eq_true AS
     have q544 : (x7_1 : Int) < (l0.length : Int) := of_decide_eq_true AS
     obtain ⟨ad544, e544, hx544_0, hx544_1, hx544_2⟩ := at_T95 (HM.came HR0.out) x7_1 p544 q544
     cases e544
     replace p544 := eq_true p544
     replace q544 := eq_true q544
     go_wp2_with (first | ((with_reducible refine gate_dst (N := 4) rfl ?_); refine pB 4 95 [.string (⟨#[]⟩ : ByteArray), .string (⟨#[]⟩ : ByteArray), .int .i64 0] HM rfl ?_; clear HM; intro gb545 w5 HM) | ((with_reducible refine gate_st (p := 4) rfl ?_); refine pS 0 4 0 [.string ((rd_T95 l0 x7_1).f0), .string ((rd_T95 l0 x7_1).f1), .int .i64 ((rd_T95 l0 x7_1).f2)] HM rfl rfl ?_; clear HM; intro w6 HM; obtain ⟨hcz7_0, hcz7_1, hcz7_2, hfz7_0, hfz7_1, hfz7_2⟩ := bk3 (HM.bx 0 rfl)) | ((with_reducible refine gate_callee (f := 75) rfl ?_); refine pC (some 13) rfl #[.agg #[.string ((rd_T95 l0 x7_1).f0), .string ((rd_T95 l0 x7_1).f1), .int .i64 ((rd_T95 l0 x7_1).f2)]] rfl Try.func75 (impl_ItemOk.calls k1 ((rd_T95 l0 x7_1).f0) ((rd_T95 l0 x7_1).f1) ((rd_T95 l0 x7_1).f2) false _ A8.out) ?_; rintro e w9 ⟨rfl, hR⟩; refine ⟨_, rfl, ?_⟩; replace HM := HM.call hR; clear hR))
     go_ret
     exact ⟨ER, (MD HM).pick []⟩
   ·have c2b0 : decide (x7_1 < (l0.length : Int)) = false := decide_eq_false c2
    clear c2
    (first | rw [c2b0] | (simp only [i64_w, i32_w]; rw [c2b0]) | skip)
    obtain rfl := Option.some.inj H
    go_wp2
    go_ret
    exact ⟨ER, (MD HM).pick []⟩
mutual
def impl_ThreeOk.j0 : Nat → Bool → Int → Int → List (S95) → List (S95) → List Int → Option (Bool)
 | 0, _, _, _, _, _, _ => none
 | k + 1, x24, x549000, x549001, x549002, x549003, x549004 => if x24 = true then (some false) else (impl_ThreeOk.l0 k x549004 (x549004.length : Int) 0 x549000 x549001 x549002 x549003 x549004)
def impl_ThreeOk.l0 : Nat → List Int → Int → Int → Int → Int → List (S95) → List (S95) → List Int → Option (Bool)
 | 0, _, _, _, _, _, _, _, _ => none
 | k + 1, x26, x27, x28, x549000, x549001, x549002, x549003, x549004 => if x28 < x27 then (if 0 ≤ x28 then (if x28 < (x26.length : Int) then ((impl_isNum.f (rd x26 x28)).bind fun t560 => (if t560 = true then (if x28 ≤ (x549004.length : Int) then ((slices_Contains_int_int.f k (x549004.take (x28 : Int).toNat) (rd x26 x28)).bind fun t562 => (if t562 = true then (some false) else (impl_ThreeOk.l0 k x26 x27 (wrap64 (x28 + 1)) x549000 x549001 x549002 x549003 x549004))) else (none)) else (some false))) else (none)) else (none)) else ((impl_copyItems.f x549002).bind fun t552 => (if t552.length + x549003.length < 3518437208883 then ((some (t552 ++ x549003 : List (S95))).bind fun y555 => (if (y555.length : Int) ≤ x549000 then ((impl_areItems.f k y555).bind fun t558 => (some t558)) else (some false))) else (none)))
end
def impl_ThreeOk.f (k : Nat) (a0_0 : Int) (a0_1 : Int) (l0_2 : List (S95)) (l0_3 : List (S95)) (l0_4 : List Int) : Option (Bool) := (impl_within.f a0_0 1 60).bind fun t549 => (if t549 = true then ((impl_within.f a0_1 1 a0_0).bind fun t550 => (if t550 = true then ((impl_Three_ghosts.f a0_0 a0_1).bind fun t551 => (impl_ThreeOk.j0 k (decide ((l0_4.length : Int) > t551)) a0_0 a0_1 l0_2 l0_3 l0_4)) else (impl_ThreeOk.j0 k true a0_0 a0_1 l0_2 l0_3 l0_4))) else (impl_ThreeOk.j0 k true a0_0 a0_1 l0_2 l0_3 l0_4))
theorem impl_ThreeOk.mono_l : ∀ k, (∀ y0 y1 y2 y3 y4 y5, LeO (impl_ThreeOk.j0 k y0 y1 y2 y3 y4 y5) (impl_ThreeOk.j0 (k + 1) y0 y1 y2 y3 y4 y5)) ∧ (∀ y0 y1 y2 y3 y4 y5 y6 y7, LeO (impl_ThreeOk.l0 k y0 y1 y2 y3 y4 y5 y6 y7) (impl_ThreeOk.l0 (k + 1) y0 y1 y2 y3 y4 y5 y6 y7))
 | 0 => ⟨fun _ _ _ _ _ _ r h => by simp [impl_ThreeOk.j0] at h, fun _ _ _ _ _ _ _ _ r h => by simp [impl_ThreeOk.l0] at h⟩
 | k + 1 => by
  obtain ⟨ih0, ih1⟩ := impl_ThreeOk.mono_l k
  refine ⟨?_, ?_⟩
  ·intro y0 y1 y2 y3 y4 y5
   unfold impl_ThreeOk.j0
   repeat' first | (with_reducible first | exact ih0 _ _ _ _ _ _ | exact ih1 _ _ _ _ _ _ _ _ | exact impl_areItems.mono _ _ | exact slices_Contains_int_int.mono _ _ _ | exact LeO.refl _ | exact LeO.none _ | refine LeO.ite ?_ ?_ | refine LeO.bind ?_ (fun _ => ?_)) | exact ih0 _ _ _ _ _ _ | exact ih1 _ _ _ _ _ _ _ _ | exact impl_areItems.mono _ _ | exact slices_Contains_int_int.mono _ _ _ | exact LeO.none _ | refine LeO.ite ?_ ?_ | refine LeO.bind ?_ (fun _ => ?_)
  ·intro y0 y1 y2 y3 y4 y5 y6 y7
   unfold impl_ThreeOk.l0
   repeat' first | (with_reducible first | exact ih0 _ _ _ _ _ _ | exact ih1 _ _ _ _ _ _ _ _ | exact impl_areItems.mono _ _ | exact slices_Contains_int_int.mono _ _ _ | exact LeO.refl _ | exact LeO.none _ | refine LeO.ite ?_ ?_ | refine LeO.bind ?_ (fun _ => ?_)) | exact ih0 _ _ _ _ _ _ | exact ih1 _ _ _ _ _ _ _ _ | exact impl_areItems.mono _ _ | exact slices_Contains_int_int.mono _ _ _ | exact LeO.none _ | refine LeO.ite ?_ ?_ | refine LeO.bind ?_ (fun _ => ?_)
theorem impl_ThreeOk.mono : ∀ a0 a1 a2 a3 a4 k, LeO (impl_ThreeOk.f k a0 a1 a2 a3 a4) (impl_ThreeOk.f (k + 1) a0 a1 a2 a3 a4) := by
 intro a0 a1 a2 a3 a4 k
 obtain ⟨ih0, ih1⟩ := impl_ThreeOk.mono_l k
 unfold impl_ThreeOk.f
 repeat' first | (with_reducible first | exact ih0 _ _ _ _ _ _ | exact ih1 _ _ _ _ _ _ _ _ | exact impl_areItems.mono _ _ | exact slices_Contains_int_int.mono _ _ _ | exact LeO.refl _ | exact LeO.none _ | refine LeO.ite ?_ ?_ | refine LeO.bind ?_ (fun _ => ?_)) | exact ih0 _ _ _ _ _ _ | exact ih1 _ _ _ _ _ _ _ _ | exact impl_areItems.mono _ _ | exact slices_Contains_int_int.mono _ _ _ | exact LeO.none _ | refine LeO.ite ?_ ?_ | refine LeO.bind ?_ (fun _ => ?_)
def impl_ThreeOk.T1 : Bool × List (List Nat × List Nat) := (true, [([], []), ([0], [0]), ([1], [1]), ([2], [2]), ([3, 2], [3]), ([4], [4]), ([5, 4], [4, 5]), ([4], [4]), ([7, 4], [4, 7]), ([6, 8, 4, 4], [4, 6, 8]), ([9, 4], [4, 9]), ([4, 10], [4, 10]), ([11, 9], [11]), ([12], [12]), ([13, 12], [12, 13]), ([14, 12], [12, 14]), ([12, 12], [12]), ([15, 16, 12], [12, 15, 16]), ([12, 17], [12, 17])])
def impl_ThreeOk.B1 : List Nat := [0, 1, 3, 7, 15, 31, 63, 31, 159, 511, 1023, 2047, 4095, 8191, 16383, 32767, 8191, 131071, 262143]
theorem impl_ThreeOk.tab1 : rtab .any (opsOf Try.f27 1) = impl_ThreeOk.T1 := by kernel_rfl
theorem impl_ThreeOk.bits1 : waitsOk impl_ThreeOk.T1.2 impl_ThreeOk.B1 = true := by kernel_rfl
def impl_ThreeOk.T9 : Bool × List (List Nat × List Nat) := (true, [([], []), ([0], [0]), ([1], [1]), ([], []), ([3], [3]), ([2, 4, 2], [2, 4]), ([5, 5, 0, 1, 2, 3, 4, 5], [5])])
def impl_ThreeOk.B9 : List Nat := [0, 1, 3, 0, 8, 31, 63]
theorem impl_ThreeOk.tab9 : rtab .any (opsOf Try.f27 9) = impl_ThreeOk.T9 := by kernel_rfl
theorem impl_ThreeOk.bits9 : waitsOk impl_ThreeOk.T9.2 impl_ThreeOk.B9 = true := by kernel_rfl
set_option maxHeartbeats 8000000 in
set_option maxRecDepth 100000 in
theorem impl_ThreeOk.calls (k : Nat) (a0_0 : Int) (a0_1 : Int) (A0_2 : Option Addr) (c0_2 : Nat) (l0_2 : List (S95)) (A0_3 : Option Addr) (c0_3 : Nat) (l0_3 : List (S95)) (A0_4 : Option Addr) (c0_4 : Nat) (l0_4 : List Int) (r : Bool) (w : World) (hr0_2 : Kd.C k95 w A0_2 l0_2.length l0_2) (hc0_2 : l0_2.length ≤ c0_2) (hr0_3 : Kd.C k95 w A0_3 l0_3.length l0_3) (hc0_3 : l0_3.length ≤ c0_3) (hr0_4 : Kd.C (Kd.int .i64) w A0_4 l0_4.length l0_4) (hc0_4 : l0_4.length ≤ c0_4) (h : impl_ThreeOk.f k a0_0 a0_1 l0_2 l0_3 l0_4 = some r) :
  Calls Try.prog 27 #[.agg #[.int .i64 a0_0, .int .i64 a0_1, .slice A0_2 l0_2.length c0_2, .slice A0_3 l0_3.length c0_3, .slice A0_4 l0_4.length c0_4]] w fun e w' => e = .returned (.bool r) ∧ Mem w [] w' [] := by
 have hu32 := Try.underlying32
 have HR0_2 := Aside0.mk hr0_2
 have HC0_2 := Aside0.mk hc0_2
 clear hr0_2 hc0_2
 have HR0_3 := Aside0.mk hr0_3
 have HC0_3 := Aside0.mk hc0_3
 clear hr0_3 hc0_3
 have HR0_4 := Aside0.mk hr0_4
 have HC0_4 := Aside0.mk hc0_4
 clear hr0_4 hc0_4
 have HM := Mem.nil w
 have H := h
 clear h
 unfold impl_ThreeOk.f at H
 go_enter Try.func27, Try.ntmps27
 have HC3 := Aside0.mk H
 clear H
 go_upto_region 1 with (first | ((with_reducible refine gate_dst (N := 1) rfl ?_); refine pB 1 32 [.int .i64 a0_0, .int .i64 a0_1, .slice A0_2 l0_2.length c0_2, .slice A0_3 l0_3.length c0_3, .slice A0_4 l0_4.length c0_4] HM rfl ?_; clear HM; intro gb548 w2 HM))
 go_cut [24] (fun v24 wc => ∃ (kq : Nat) (x24_2 : Bool), v24 = .bool x24_2 ∧ Aside0 (impl_ThreeOk.j0 kq x24_2 a0_0 a0_1 l0_2 l0_3 l0_4 = some r) ∧ Aside0 (kq ≤ k) ∧ Mem w [] wc [box 32 gb548 [.int .i64 a0_0, .int .i64 a0_1, .slice A0_2 l0_2.length c0_2, .slice A0_3 l0_3.length c0_3, .slice A0_4 l0_4.length c0_4]])
 case first =>
  have H := HC3.out
  clear HC3
  try go_wp2
  replace H := BN H; obtain ⟨t549, A4, H⟩ := H
  replace H := IB H
  rcases H with ⟨c5, H⟩ | ⟨c5, H⟩
  ·subst c5
   replace H := BN H; obtain ⟨t550, A6, H⟩ := H
   replace H := IB H
   rcases H with ⟨c7, H⟩ | ⟨c7, H⟩
   ·subst c7
    replace H := BN H; obtain ⟨t551, A8, H⟩ := H
    refine RGN 19 [0, 1, 2, 3, 4, 5, 6, 7, 8, 9, 10, 11, 12, 13, 14, 15, 16, 17, 18] (fun a0 b a w' => a = putSel a0 b [(0, 6, .pointer (some ⟨gb548, 0, none⟩)), (1, 7, .int .i64 a0_0), (2, 8, .bool true), (3, 9, .bool (!true)), (4, 10, .bool (!true)), (5, 11, .pointer (some ⟨gb548, 1, none⟩)), (6, 12, .int .i64 a0_1), (7, 13, .pointer (some ⟨gb548, 0, none⟩)), (8, 14, .int .i64 a0_0), (9, 15, .bool true), (10, 16, .bool (!true)), (11, 17, .bool (!true)), (12, 18, .bool (!true)), (13, 19, .pointer (some ⟨gb548, 4, none⟩)), (14, 20, .slice A0_4 l0_4.length c0_4), (15, 21, .int .i64 (l0_4.length : Int)), (16, 22, .int .i64 t551), (17, 23, .bool (decide ((l0_4.length : Int) > t551))), (18, 24, .bool (decide ((l0_4.length : Int) > t551)))] ∧ Mem w [] w' [box 32 gb548 [.int .i64 a0_0, .int .i64 a0_1, .slice A0_2 l0_2.length c0_2, .slice A0_3 l0_3.length c0_3, .slice A0_4 l0_4.length c0_4]]) impl_ThreeOk.tab1 impl_ThreeOk.bits1 ?_ ?_ ?_
    ·exact ⟨PS0' rfl _, (HM.drew).pick [0]⟩
    ·clear HM
     refine steps_cons ?_ ?_
     ·rintro b a w ⟨ha, HM⟩ hb hon hoff
      refine ⟨_, rfl, fun K hK => ?_⟩
      have e1 := POF ha 1
      replace ha := Aside0.mk ha
      exact VL (.pointer (some ⟨gb548, 0, none⟩)) (hK.out _ _ ⟨PUT ha 0 hb, HM⟩)
     refine steps_cons ?_ ?_
     ·rintro b a w ⟨ha, HM⟩ hb hon hoff
      refine ⟨_, rfl, fun K hK => ?_⟩
      obtain ⟨hcz16_0, hcz16_1, hcz16_2, hcz16_3, hcz16_4, hfz16_0, hfz16_1, hfz16_2, hfz16_3, hfz16_4⟩ := bk5 (HM.bx 0 rfl)
      have e6 := PON ha 0 (hon 0 (by kernel_rfl))
      replace ha := Aside0.mk ha
      exact VL (.int .i64 a0_0) (hK.out _ _ ⟨PUT ha 1 hb, HM⟩)
     refine steps_cons ?_ ?_
     ·rintro b a w ⟨ha, HM⟩ hb hon hoff
      refine ⟨_, rfl, fun K hK => ?_⟩
      have e7 := PON ha 1 (hon 1 (by kernel_rfl))
      replace ha := Aside0.mk ha
      refine ST (eC (some 8) rfl #[.int .i64 a0_0, .int .i64 1, .int .i64 60] rfl Try.func55 (impl_within.calls a0_0 1 60 true _ A4.out) ?_ (hargs := by (simp only [List.map_toArray, List.map_cons, List.map_nil, evc, eval_of e7]) <;> rfl))
      rintro e w17 ⟨rfl, hd⟩
      refine ⟨_, rfl, ?_⟩
      replace HM := HM.drawn hd
      clear hd
      exact hK.out _ _ ⟨PUT ha 2 hb, (HM).pick [0]⟩
     refine steps_cons ?_ ?_
     ·rintro b a w ⟨ha, HM⟩ hb hon hoff
      refine ⟨_, rfl, fun K hK => ?_⟩
      have e8 := PON ha 2 (hon 2 (by kernel_rfl))
      replace ha := Aside0.mk ha
      exact VL (.bool (!true)) (hK.out _ _ ⟨PUT ha 3 hb, HM⟩)
     refine steps_cons ?_ ?_
     ·rintro b a w ⟨ha, HM⟩ hb hon hoff
      refine ⟨_, rfl, fun K hK => ?_⟩
      have e9 := PON ha 3 (hon 3 (by kernel_rfl))
      replace ha := Aside0.mk ha
      exact VL (.bool (!true)) (hK.out _ _ ⟨PUT ha 4 hb, HM⟩)
     refine steps_cons ?_ ?_
     ·rintro b a w ⟨ha, HM⟩ hb hon hoff
      refine ⟨_, rfl, fun K hK => ?_⟩
      have e1 := POF ha 1
      have e10 := PON ha 4 (hon 4 (by kernel_rfl))
      replace ha := Aside0.mk ha
      exact VL (.pointer (some ⟨gb548, 1, none⟩)) (hK.out _ _ ⟨PUT ha 5 hb, HM⟩) (hw := wanted_on rfl rfl rfl (e10.trans (by first | rfl | (simp [*]; done))))
     refine steps_cons ?_ ?_
     ·rintro b a w ⟨ha, HM⟩ hb hon hoff
      refine ⟨_, rfl, fun K hK => ?_⟩
      obtain ⟨hcz18_0, hcz18_1, hcz18_2, hcz18_3, hcz18_4, hfz18_0, hfz18_1, hfz18_2, hfz18_3, hfz18_4⟩ := bk5 (HM.bx 0 rfl)
      have e11 := PON ha 5 (hon 5 (by kernel_rfl))
      have e10 := PON ha 4 (hon 4 (by kernel_rfl))
      replace ha := Aside0.mk ha
      exact VL (.int .i64 a0_1) (hK.out _ _ ⟨PUT ha 6 hb, HM⟩) (hw := wanted_on rfl rfl rfl (e10.trans (by first | rfl | (simp [*]; done))))
     refine steps_cons ?_ ?_
     ·rintro b a w ⟨ha, HM⟩ hb hon hoff
      refine ⟨_, rfl, fun K hK => ?_⟩
      have e1 := POF ha 1
      have e10 := PON ha 4 (hon 4 (by kernel_rfl))
      replace ha := Aside0.mk ha
      exact VL (.pointer (some ⟨gb548, 0, none⟩)) (hK.out _ _ ⟨PUT ha 7 hb, HM⟩) (hw := wanted_on rfl rfl rfl (e10.trans (by first | rfl | (simp [*]; done))))
     refine steps_cons ?_ ?_
     ·rintro b a w ⟨ha, HM⟩ hb hon hoff
      refine ⟨_, rfl, fun K hK => ?_⟩
      obtain ⟨hcz19_0, hcz19_1, hcz19_2, hcz19_3, hcz19_4, hfz19_0, hfz19_1, hfz19_2, hfz19_3, hfz19_4⟩ := bk5 (HM.bx 0 rfl)
      have e13 := PON ha 7 (hon 7 (by kernel_rfl))
      have e10 := PON ha 4 (hon 4 (by kernel_rfl))
      replace ha := Aside0.mk ha
      exact VL (.int .i64 a0_0) (hK.out _ _ ⟨PUT ha 8 hb, HM⟩) (hw := wanted_on rfl rfl rfl (e10.trans (by first | rfl | (simp [*]; done))))
     refine steps_cons ?_ ?_
     ·rintro b a w ⟨ha, HM⟩ hb hon hoff
      refine ⟨_, rfl, fun K hK => ?_⟩
      have e12 := PON ha 6 (hon 6 (by kernel_rfl))
      have e14 := PON ha 8 (hon 8 (by kernel_rfl))
      have e10 := PON ha 4 (hon 4 (by kernel_rfl))
      replace ha := Aside0.mk ha
      refine ST (eC (some 15) rfl #[.int .i64 a0_1, .int .i64 1, .int .i64 a0_0] rfl Try.func55 (impl_within.calls a0_1 1 a0_0 true _ A6.out) ?_ (hargs := by (simp only [List.map_toArray, List.map_cons, List.map_nil, evc, eval_of e12, eval_of e14]) <;> rfl)) (hw := wanted_on rfl rfl rfl (e10.trans (by first | rfl | (simp [*]; done))))
      rintro e w20 ⟨rfl, hd⟩
      refine ⟨_, rfl, ?_⟩
      replace HM := HM.drawn hd
      clear hd
      exact hK.out _ _ ⟨PUT ha 9 hb, (HM).pick [0]⟩
     refine steps_cons ?_ ?_
     ·rintro b a w ⟨ha, HM⟩ hb hon hoff
      refine ⟨_, rfl, fun K hK => ?_⟩
      have e15 := PON ha 9 (hon 9 (by kernel_rfl))
      have e10 := PON ha 4 (hon 4 (by kernel_rfl))
      replace ha := Aside0.mk ha
      exact VL (.bool (!true)) (hK.out _ _ ⟨PUT ha 10 hb, HM⟩) (hw := wanted_on rfl rfl rfl (e10.trans (by first | rfl | (simp [*]; done))))
     refine steps_cons ?_ ?_
     ·rintro b a w ⟨ha, HM⟩ hb hon hoff
      refine ⟨_, rfl, fun K hK => ?_⟩
      have e10 := PON ha 4 (hon 4 (by kernel_rfl))
      have e16 := PON ha 10 (hon 10 (by kernel_rfl))
      replace ha := Aside0.mk ha
      exact VL (.bool (!true)) (hK.out _ _ ⟨PUT ha 11 hb, HM⟩)
     refine steps_cons ?_ ?_
     ·rintro b a w ⟨ha, HM⟩ hb hon hoff
      refine ⟨_, rfl, fun K hK => ?_⟩
      have e17 := PON ha 11 (hon 11 (by kernel_rfl))
      replace ha := Aside0.mk ha
      exact VL (.bool (!true)) (hK.out _ _ ⟨PUT ha 12 hb, HM⟩)
     refine steps_cons ?_ ?_
     ·rintro b a w ⟨ha, HM⟩ hb hon hoff
      refine ⟨_, rfl, fun K hK => ?_⟩
      have e1 := POF ha 1
      have e18 := PON ha 12 (hon 12 (by kernel_rfl))
      replace ha := Aside0.mk ha
      exact VL (.pointer (some ⟨gb548, 4, none⟩)) (hK.out _ _ ⟨PUT ha 13 hb, HM⟩) (hw := wanted_on rfl rfl rfl (e18.trans (by first | rfl | (simp [*]; done))))
     refine steps_cons ?_ ?_
     ·rintro b a w ⟨ha, HM⟩ hb hon hoff
      refine ⟨_, rfl, fun K hK => ?_⟩
      obtain ⟨hcz21_0, hcz21_1, hcz21_2, hcz21_3, hcz21_4, hfz21_0, hfz21_1, hfz21_2, hfz21_3, hfz21_4⟩ := bk5 (HM.bx 0 rfl)
      have e19 := PON ha 13 (hon 13 (by kernel_rfl))
      have e18 := PON ha 12 (hon 12 (by kernel_rfl))
      replace ha := Aside0.mk ha
      exact VL (.slice A0_4 l0_4.length c0_4) (hK.out _ _ ⟨PUT ha 14 hb, HM⟩) (hw := wanted_on rfl rfl rfl (e18.trans (by first | rfl | (simp [*]; done))))
     refine steps_cons ?_ ?_
     ·rintro b a w ⟨ha, HM⟩ hb hon hoff
      refine ⟨_, rfl, fun K hK => ?_⟩
      have e20 := PON ha 14 (hon 14 (by kernel_rfl))
      have e18 := PON ha 12 (hon 12 (by kernel_rfl))
      replace ha := Aside0.mk ha
      exact VL (.int .i64 (l0_4.length : Int)) (hK.out _ _ ⟨PUT ha 15 hb, HM⟩) (hw := wanted_on rfl rfl rfl (e18.trans (by first | rfl | (simp [*]; done))))
     refine steps_cons ?_ ?_
     ·rintro b a w ⟨ha, HM⟩ hb hon hoff
      refine ⟨_, rfl, fun K hK => ?_⟩
      have e1 := POF ha 1
      have e18 := PON ha 12 (hon 12 (by kernel_rfl))
      replace ha := Aside0.mk ha
      refine ST (eC (some 22) rfl #[.pointer (some ⟨gb548, 0, none⟩)] rfl Try.func56 (impl_Three_ghosts.calls gb548 a0_0 a0_1 _ _ _ t551 _ (HM.bx 0 rfl) A8.out) ?_ (hargs := by (simp only [List.map_toArray, List.map_cons, List.map_nil, evc, eval_of e1]) <;> rfl)) (hw := wanted_on rfl rfl rfl (e18.trans (by first | rfl | (simp [*]; done))))
      rintro e w22 ⟨rfl, nd_, rfl⟩
      refine ⟨_, rfl, ?_⟩
      replace HM := HM.drewN nd_
      exact hK.out _ _ ⟨PUT ha 16 hb, (HM).pick [0]⟩
     refine steps_cons ?_ ?_
     ·rintro b a w ⟨ha, HM⟩ hb hon hoff
      refine ⟨_, rfl, fun K hK => ?_⟩
      have e21 := PON ha 15 (hon 15 (by kernel_rfl))
      have e22 := PON ha 16 (hon 16 (by kernel_rfl))
      have e18 := PON ha 12 (hon 12 (by kernel_rfl))
      replace ha := Aside0.mk ha
      exact VL (.bool (decide ((l0_4.length : Int) > t551))) (hK.out _ _ ⟨PUT ha 17 hb, HM⟩) (hw := wanted_on rfl rfl rfl (e18.trans (by first | rfl | (simp [*]; done))))
     refine steps_cons ?_ ?_
     ·rintro b a w ⟨ha, HM⟩ hb hon hoff
      refine ⟨_, rfl, fun K hK => ?_⟩
      have e18 := PON ha 12 (hon 12 (by kernel_rfl))
      have e23 := PON ha 17 (hon 17 (by kernel_rfl))
      replace ha := Aside0.mk ha
      exact VL (.bool (decide ((l0_4.length : Int) > t551))) (hK.out _ _ ⟨PUT ha 18 hb, HM⟩)
     exact steps_nil
    rintro _ w23 ⟨rfl, HM⟩
    simp only [putSel, if_true, Act.put, List.setIfInBounds_toArray, List.set_cons_zero, List.set_cons_succ, gt_iff_lt, ge_iff_le]
    have H' := Aside0.mk H
    clear H
    go_wp2
    go_meet
    case rel => exact ⟨_, (decide ((l0_4.length : Int) > t551)), RS, H', ⟨by first | omega | exact Nat.le_refl _⟩, (MD HM).pick [0]⟩
   ·subst c7
    refine RGN 19 [0, 1, 2, 3, 4, 5, 6, 7, 8, 9, 10, 11, 12, 13, 14, 15, 16, 17, 18] (fun a0 b a w' => a = putSel a0 b [(0, 6, .pointer (some ⟨gb548, 0, none⟩)), (1, 7, .int .i64 a0_0), (2, 8, .bool true), (3, 9, .bool (!true)), (4, 10, .bool (!true)), (5, 11, .pointer (some ⟨gb548, 1, none⟩)), (6, 12, .int .i64 a0_1), (7, 13, .pointer (some ⟨gb548, 0, none⟩)), (8, 14, .int .i64 a0_0), (9, 15, .bool false), (10, 16, .bool (!false)), (11, 17, .bool (!false)), (12, 18, .bool (!false)), (13, 19, undef), (14, 20, undef), (15, 21, undef), (16, 22, undef), (17, 23, undef), (18, 24, .bool true)] ∧ Mem w [] w' [box 32 gb548 [.int .i64 a0_0, .int .i64 a0_1, .slice A0_2 l0_2.length c0_2, .slice A0_3 l0_3.length c0_3, .slice A0_4 l0_4.length c0_4]]) impl_ThreeOk.tab1 impl_ThreeOk.bits1 ?_ ?_ ?_
    ·exact ⟨PS0' rfl _, (HM.drew).pick [0]⟩
    ·clear HM
     refine steps_cons ?_ ?_
     ·rintro b a w ⟨ha, HM⟩ hb hon hoff
      refine ⟨_, rfl, fun K hK => ?_⟩
      have e1 := POF ha 1
      replace ha := Aside0.mk ha
      exact VL (.pointer (some ⟨gb548, 0, none⟩)) (hK.out _ _ ⟨PUT ha 0 hb, HM⟩)
     refine steps_cons ?_ ?_
     ·rintro b a w ⟨ha, HM⟩ hb hon hoff
      refine ⟨_, rfl, fun K hK => ?_⟩
      obtain ⟨hcz29_0, hcz29_1, hcz29_2, hcz29_3, hcz29_4, hfz29_0, hfz29_1, hfz29_2, hfz29_3, hfz29_4⟩ := bk5 (HM.bx 0 rfl)
      have e6 := PON ha 0 (hon 0 (by kernel_rfl))
      replace ha := Aside0.mk ha
      exact VL (.int .i64 a0_0) (hK.out _ _ ⟨PUT ha 1 hb, HM⟩)
     refine steps_cons ?_ ?_
     ·rintro b a w ⟨ha, HM⟩ hb hon hoff
      refine ⟨_, rfl, fun K hK => ?_⟩
      have e7 := PON ha 1 (hon 1 (by kernel_rfl))
      replace ha := Aside0.mk ha
      refine ST (eC (some 8) rfl #[.int .i64 a0_0, .int .i64 1, .int .i64 60] rfl Try.func55 (impl_within.calls a0_0 1 60 true _ A4.out) ?_ (hargs := by (simp only [List.map_toArray, List.map_cons, List.map_nil, evc, eval_of e7]) <;> rfl))
      rintro e w30 ⟨rfl, hd⟩
      refine ⟨_, rfl, ?_⟩
      replace HM := HM.drawn hd
      clear hd
      exact hK.out _ _ ⟨PUT ha 2 hb, (HM).pick [0]⟩
     refine steps_cons ?_ ?_
     ·rintro b a w ⟨ha, HM⟩ hb hon hoff
      refine ⟨_, rfl, fun K hK => ?_⟩
      have e8 := PON ha 2 (hon 2 (by kernel_rfl))
      replace ha := Aside0.mk ha
      exact VL (.bool (!true)) (hK.out _ _ ⟨PUT ha 3 hb, HM⟩)
     refine steps_cons ?_ ?_
     ·rintro b a w ⟨ha, HM⟩ hb hon hoff
      refine ⟨_, rfl, fun K hK => ?_⟩
      have e9 := PON ha 3 (hon 3 (by kernel_rfl))
      replace ha := Aside0.mk ha
      exact VL (.bool (!true)) (hK.out _ _ ⟨PUT ha 4 hb, HM⟩)
     refine steps_cons ?_ ?_
     ·rintro b a w ⟨ha, HM⟩ hb hon hoff
      refine ⟨_, rfl, fun K hK => ?_⟩
      have e1 := POF ha 1
      have e10 := PON ha 4 (hon 4 (by kernel_rfl))
      replace ha := Aside0.mk ha
      exact VL (.pointer (some ⟨gb548, 1, none⟩)) (hK.out _ _ ⟨PUT ha 5 hb, HM⟩) (hw := wanted_on rfl rfl rfl (e10.trans (by first | rfl | (simp [*]; done))))
     refine steps_cons ?_ ?_
     ·rintro b a w ⟨ha, HM⟩ hb hon hoff
      refine ⟨_, rfl, fun K hK => ?_⟩
      obtain ⟨hcz31_0, hcz31_1, hcz31_2, hcz31_3, hcz31_4, hfz31_0, hfz31_1, hfz31_2, hfz31_3, hfz31_4⟩ := bk5 (HM.bx 0 rfl)
      have e11 := PON ha 5 (hon 5 (by kernel_rfl))
      have e10 := PON ha 4 (hon 4 (by kernel_rfl))
      replace ha := Aside0.mk ha
      exact VL (.int .i64 a0_1) (hK.out _ _ ⟨PUT ha 6 hb, HM⟩) (hw := wanted_on rfl rfl rfl (e10.trans (by first | rfl | (simp [*]; done))))
     refine steps_cons ?_ ?_
     ·rintro b a w ⟨ha, HM⟩ hb hon hoff
      refine ⟨_, rfl, fun K hK => ?_⟩
      have e1 := POF ha 1
      have e10 := PON ha 4 (hon 4 (by kernel_rfl))
      replace ha := Aside0.mk ha
      exact VL (.pointer (some ⟨gb548, 0, none⟩)) (hK.out _ _ ⟨PUT ha 7 hb, HM⟩) (hw := wanted_on rfl rfl rfl (e10.trans (by first | rfl | (simp [*]; done))))
     refine steps_cons ?_ ?_
     ·rintro b a w ⟨ha, HM⟩ hb hon hoff
      refine ⟨_, rfl, fun K hK => ?_⟩
      obtain ⟨hcz32_0, hcz32_1, hcz32_2, hcz32_3, hcz32_4, hfz32_0, hfz32_1, hfz32_2, hfz32_3, hfz32_4⟩ := bk5 (HM.bx 0 rfl)
      have e13 := PON ha 7 (hon 7 (by kernel_rfl))
      have e10 := PON ha 4 (hon 4 (by kernel_rfl))
      replace ha := Aside0.mk ha
      exact VL (.int .i64 a0_0) (hK.out _ _ ⟨PUT ha 8 hb, HM⟩) (hw := wanted_on rfl rfl rfl (e10.trans (by first | rfl | (simp [*]; done))))
     refine steps_cons ?_ ?_
     ·rintro b a w ⟨ha, HM⟩ hb hon hoff
      refine ⟨_, rfl, fun K hK => ?_⟩
      have e12 := PON ha 6 (hon 6 (by kernel_rfl))
      have e14 := PON ha 8 (hon 8 (by kernel_rfl))
      have e10 := PON ha 4 (hon 4 (by kernel_rfl))
      replace ha := Aside0.mk ha
      refine ST (eC (some 15) rfl #[.int .i64 a0_1, .int .i64 1, .int .i64 a0_0] rfl Try.func55 (impl_within.calls a0_1 1 a0_0 false _ A6.out) ?_ (hargs := by (simp only [List.map_toArray, List.map_cons, List.map_nil, evc, eval_of e12, eval_of e14]) <;> rfl)) (hw := wanted_on rfl rfl rfl (e10.trans (by first | rfl | (simp [*]; done))))
      rintro e w33 ⟨rfl, hd⟩
      refine ⟨_, rfl, ?_⟩
      replace HM := HM.drawn hd
      clear hd
      exact hK.out _ _ ⟨PUT ha 9 hb, (HM).pick [0]⟩
     refine steps_cons ?_ ?_
     ·rintro b a w ⟨ha, HM⟩ hb hon hoff
      refine ⟨_, rfl, fun K hK => ?_⟩
      have e15 := PON ha 9 (hon 9 (by kernel_rfl))
      have e10 := PON ha 4 (hon 4 (by kernel_rfl))
      replace ha := Aside0.mk ha
      exact VL (.bool (!false)) (hK.out _ _ ⟨PUT ha 10 hb, HM⟩) (hw := wanted_on rfl rfl rfl (e10.trans (by first | rfl | (simp [*]; done))))
     refine steps_cons ?_ ?_
     ·rintro b a w ⟨ha, HM⟩ hb hon hoff
      refine ⟨_, rfl, fun K hK => ?_⟩
      have e10 := PON ha 4 (hon 4 (by kernel_rfl))
      have e16 := PON ha 10 (hon 10 (by kernel_rfl))
      replace ha := Aside0.mk ha
      exact VL (.bool (!false)) (hK.out _ _ ⟨PUT ha 11 hb, HM⟩)
     refine steps_cons ?_ ?_
     ·rintro b a w ⟨ha, HM⟩ hb hon hoff
      refine ⟨_, rfl, fun K hK => ?_⟩
      have e17 := PON ha 11 (hon 11 (by kernel_rfl))
      replace ha := Aside0.mk ha
      exact VL (.bool (!false)) (hK.out _ _ ⟨PUT ha 12 hb, HM⟩)
     refine steps_cons ?_ ?_
     ·rintro b a w ⟨ha, HM⟩ hb hon hoff
      refine ⟨_, rfl, fun K hK => ?_⟩
      have e18 := PON ha 12 (hon 12 (by kernel_rfl))
      replace ha := Aside0.mk ha
      exact VN ( wanted_off rfl rfl rfl (e18.trans (by first | rfl | (simp [*]; done)))) (hK.out _ _ ⟨PUT ha 13 hb, HM⟩)
     refine steps_cons ?_ ?_
     ·rintro b a w ⟨ha, HM⟩ hb hon hoff
      refine ⟨_, rfl, fun K hK => ?_⟩
      have e18 := PON ha 12 (hon 12 (by kernel_rfl))
      replace ha := Aside0.mk ha
      exact VN ( wanted_off rfl rfl rfl (e18.trans (by first | rfl | (simp [*]; done)))) (hK.out _ _ ⟨PUT ha 14 hb, HM⟩)
     refine steps_cons ?_ ?_
     ·rintro b a w ⟨ha, HM⟩ hb hon hoff
      refine ⟨_, rfl, fun K hK => ?_⟩
      have e18 := PON ha 12 (hon 12 (by kernel_rfl))
      replace ha := Aside0.mk ha
      exact VN ( wanted_off rfl rfl rfl (e18.trans (by first | rfl | (simp [*]; done)))) (hK.out _ _ ⟨PUT ha 15 hb, HM⟩)
     refine steps_cons ?_ ?_
     ·rintro b a w ⟨ha, HM⟩ hb hon hoff
      refine ⟨_, rfl, fun K hK => ?_⟩
      have e18 := PON ha 12 (hon 12 (by kernel_rfl))
      replace ha := Aside0.mk ha
      exact VN ( wanted_off rfl rfl rfl (e18.trans (by first | rfl | (simp [*]; done)))) (hK.out _ _ ⟨PUT ha 16 hb, HM⟩)
     refine steps_cons ?_ ?_
     ·rintro b a w ⟨ha, HM⟩ hb hon hoff
      refine ⟨_, rfl, fun K hK => ?_⟩
      have e18 := PON ha 12 (hon 12 (by kernel_rfl))
      replace ha := Aside0.mk ha
      exact VN ( wanted_off rfl rfl rfl (e18.trans (by first | rfl | (simp [*]; done)))) (hK.out _ _ ⟨PUT ha 17 hb, HM⟩)
     refine steps_cons ?_ ?_
     ·rintro b a w ⟨ha, HM⟩ hb hon hoff
      refine ⟨_, rfl, fun K hK => ?_⟩
      have e18 := PON ha 12 (hon 12 (by kernel_rfl))
      have e23 := PON ha 17 (hon 17 (by kernel_rfl))
      replace ha := Aside0.mk ha
      exact VL (.bool true) (hK.out _ _ ⟨PUT ha 18 hb, HM⟩)
     exact steps_nil
    rintro _ w34 ⟨rfl, HM⟩
    simp only [putSel, if_true, Act.put, List.setIfInBounds_toArray, List.set_cons_zero, List.set_cons_succ, gt_iff_lt, ge_iff_le]
    have H' := Aside0.mk H
    clear H
    go_wp2
    go_meet
    case rel => exact ⟨_, (true), RS, H', ⟨by first | omega | exact Nat.le_refl _⟩, (MD HM).pick [0]⟩
  ·subst c5
   refine RGN 19 [0, 1, 2, 3, 4, 5, 6, 7, 8, 9, 10, 11, 12, 13, 14, 15, 16, 17, 18] (fun a0 b a w' => a = putSel a0 b [(0, 6, .pointer (some ⟨gb548, 0, none⟩)), (1, 7, .int .i64 a0_0), (2, 8, .bool false), (3, 9, .bool (!false)), (4, 10, .bool (!false)), (5, 11, undef), (6, 12, undef), (7, 13, undef), (8, 14, undef), (9, 15, undef), (10, 16, undef), (11, 17, .bool true), (12, 18, .bool true), (13, 19, undef), (14, 20, undef), (15, 21, undef), (16, 22, undef), (17, 23, undef), (18, 24, .bool true)] ∧ Mem w [] w' [box 32 gb548 [.int .i64 a0_0, .int .i64 a0_1, .slice A0_2 l0_2.length c0_2, .slice A0_3 l0_3.length c0_3, .slice A0_4 l0_4.length c0_4]]) impl_ThreeOk.tab1 impl_ThreeOk.bits1 ?_ ?_ ?_
   ·exact ⟨PS0' rfl _, (HM.drew).pick [0]⟩
   ·clear HM
    refine steps_cons ?_ ?_
    ·rintro b a w ⟨ha, HM⟩ hb hon hoff
     refine ⟨_, rfl, fun K hK => ?_⟩
     have e1 := POF ha 1
     replace ha := Aside0.mk ha
     exact VL (.pointer (some ⟨gb548, 0, none⟩)) (hK.out _ _ ⟨PUT ha 0 hb, HM⟩)
    refine steps_cons ?_ ?_
    ·rintro b a w ⟨ha, HM⟩ hb hon hoff
     refine ⟨_, rfl, fun K hK => ?_⟩
     obtain ⟨hcz37_0, hcz37_1, hcz37_2, hcz37_3, hcz37_4, hfz37_0, hfz37_1, hfz37_2, hfz37_3, hfz37_4⟩ := bk5 (HM.bx 0 rfl)
     have e6 := PON ha 0 (hon 0 (by kernel_rfl))
     replace ha := Aside0.mk ha
     exact VL (.int .i64 a0_0) (hK.out _ _ ⟨PUT ha 1 hb, HM⟩)
    refine steps_cons ?_ ?_
    ·rintro b a w ⟨ha, HM⟩ hb hon hoff
     refine ⟨_, rfl, fun K hK => ?_⟩
     have e7 := PON ha 1 (hon 1 (by kernel_rfl))
     replace ha := Aside0.mk ha
     refine ST (eC (some 8) rfl #[.int .i64 a0_0, .int .i64 1, .int .i64 60] rfl Try.func55 (impl_within.calls a0_0 1 60 false _ A4.out) ?_ (hargs := by (simp only [List.map_toArray, List.map_cons, List.map_nil, evc, eval_of e7]) <;> rfl))
     rintro e w38 ⟨rfl, hd⟩
     refine ⟨_, rfl, ?_⟩
     replace HM := HM.drawn hd
     clear hd
     exact hK.out _ _ ⟨PUT ha 2 hb, (HM).pick [0]⟩
    refine steps_cons ?_ ?_
    ·rintro b a w ⟨ha, HM⟩ hb hon hoff
     refine ⟨_, rfl, fun K hK => ?_⟩
     have e8 := PON ha 2 (hon 2 (by kernel_rfl))
     replace ha := Aside0.mk ha
     exact VL (.bool (!false)) (hK.out _ _ ⟨PUT ha 3 hb, HM⟩)
    refine steps_cons ?_ ?_
    ·rintro b a w ⟨ha, HM⟩ hb hon hoff
     refine ⟨_, rfl, fun K hK => ?_⟩
     have e9 := PON ha 3 (hon 3 (by kernel_rfl))
     replace ha := Aside0.mk ha
     exact VL (.bool (!false)) (hK.out _ _ ⟨PUT ha 4 hb, HM⟩)
    refine steps_cons ?_ ?_
    ·rintro b a w ⟨ha, HM⟩ hb hon hoff
     refine ⟨_, rfl, fun K hK => ?_⟩
     have e10 := PON ha 4 (hon 4 (by kernel_rfl))
     replace ha := Aside0.mk ha
     exact VN ( wanted_off rfl rfl rfl (e10.trans (by first | rfl | (simp [*]; done)))) (hK.out _ _ ⟨PUT ha 5 hb, HM⟩)
    refine steps_cons ?_ ?_
    ·rintro b a w ⟨ha, HM⟩ hb hon hoff
     refine ⟨_, rfl, fun K hK => ?_⟩
     have e10 := PON ha 4 (hon 4 (by kernel_rfl))
     replace ha := Aside0.mk ha
     exact VN ( wanted_off rfl rfl rfl (e10.trans (by first | rfl | (simp [*]; done)))) (hK.out _ _ ⟨PUT ha 6 hb, HM⟩)
    refine steps_cons ?_ ?_
    ·rintro b a w ⟨ha, HM⟩ hb hon hoff
     refine ⟨_, rfl, fun K hK => ?_⟩
     have e10 := PON ha 4 (hon 4 (by kernel_rfl))
     replace ha := Aside0.mk ha
     exact VN ( wanted_off rfl rfl rfl (e10.trans (by first | rfl | (simp [*]; done)))) (hK.out _ _ ⟨PUT ha 7 hb, HM⟩)
    refine steps_cons ?_ ?_
    ·rintro b a w ⟨ha, HM⟩ hb hon hoff
     refine ⟨_, rfl, fun K hK => ?_⟩
     have e10 := PON ha 4 (hon 4 (by kernel_rfl))
     replace ha := Aside0.mk ha
     exact VN ( wanted_off rfl rfl rfl (e10.trans (by first | rfl | (simp [*]; done)))) (hK.out _ _ ⟨PUT ha 8 hb, HM⟩)
    refine steps_cons ?_ ?_
    ·rintro b a w ⟨ha, HM⟩ hb hon hoff
     refine ⟨_, rfl, fun K hK => ?_⟩
     have e10 := PON ha 4 (hon 4 (by kernel_rfl))
     replace ha := Aside0.mk ha
     exact VN ( wanted_off rfl rfl rfl (e10.trans (by first | rfl | (simp [*]; done)))) (hK.out _ _ ⟨PUT ha 9 hb, HM⟩)
    refine steps_cons ?_ ?_
    ·rintro b a w ⟨ha, HM⟩ hb hon hoff
     refine ⟨_, rfl, fun K hK => ?_⟩
     have e10 := PON ha 4 (hon 4 (by kernel_rfl))
     replace ha := Aside0.mk ha
     exact VN ( wanted_off rfl rfl rfl (e10.trans (by first | rfl | (simp [*]; done)))) (hK.out _ _ ⟨PUT ha 10 hb, HM⟩)
    refine steps_cons ?_ ?_
    ·rintro b a w ⟨ha, HM⟩ hb hon hoff
     refine ⟨_, rfl, fun K hK => ?_⟩
     have e10 := PON ha 4 (hon 4 (by kernel_rfl))
     have e16 := PON ha 10 (hon 10 (by kernel_rfl))
     replace ha := Aside0.mk ha
     exact VL (.bool true) (hK.out _ _ ⟨PUT ha 11 hb, HM⟩)
    refine steps_cons ?_ ?_
    ·rintro b a w ⟨ha, HM⟩ hb hon hoff
     refine ⟨_, rfl, fun K hK => ?_⟩
     have e17 := PON ha 11 (hon 11 (by kernel_rfl))
     replace ha := Aside0.mk ha
     exact VL (.bool true) (hK.out _ _ ⟨PUT ha 12 hb, HM⟩)
    refine steps_cons ?_ ?_
    ·rintro b a w ⟨ha, HM⟩ hb hon hoff
     refine ⟨_, rfl, fun K hK => ?_⟩
     have e18 := PON ha 12 (hon 12 (by kernel_rfl))
     replace ha := Aside0.mk ha
     exact VN ( wanted_off rfl rfl rfl (e18.trans (by first | rfl | (simp [*]; done)))) (hK.out _ _ ⟨PUT ha 13 hb, HM⟩)
    refine steps_cons ?_ ?_
    ·rintro b a w ⟨ha, HM⟩ hb hon hoff
     refine ⟨_, rfl, fun K hK => ?_⟩
     have e18 := PON ha 12 (hon 12 (by kernel_rfl))
     replace ha := Aside0.mk ha
     exact VN ( wanted_off rfl rfl rfl (e18.trans (by first | rfl | (simp [*]; done)))) (hK.out _ _ ⟨PUT ha 14 hb, HM⟩)
    refine steps_cons ?_ ?_
    ·rintro b a w ⟨ha, HM⟩ hb hon hoff
     refine ⟨_, rfl, fun K hK => ?_⟩
     have e18 := PON ha 12 (hon 12 (by kernel_rfl))
     replace ha := Aside0.mk ha
     exact VN ( wanted_off rfl rfl rfl (e18.trans (by first | rfl | (simp [*]; done)))) (hK.out _ _ ⟨PUT ha 15 hb, HM⟩)
    refine steps_cons ?_ ?_
    ·rintro b a w ⟨ha, HM⟩ hb hon hoff
     refine ⟨_, rfl, fun K hK => ?_⟩
     have e18 := PON ha 12 (hon 12 (by kernel_rfl))
     replace ha := Aside0.mk ha
     exact VN ( wanted_off rfl rfl rfl (e18.trans (by first | rfl | (simp [*]; done)))) (hK.out _ _ ⟨PUT ha 16 hb, HM⟩)
    refine steps_cons ?_ ?_
    ·rintro b a w ⟨ha, HM⟩ hb hon hoff
     refine ⟨_, rfl, fun K hK => ?_⟩
     have e18 := PON ha 12 (hon 12 (by kernel_rfl))
     replace ha := Aside0.mk ha
     exact VN ( wanted_off rfl rfl rfl (e18.trans (by first | rfl | (simp [*]; done)))) (hK.out _ _ ⟨PUT ha 17 hb, HM⟩)
    refine steps_cons ?_ ?_
    ·rintro b a w ⟨ha, HM⟩ hb hon hoff
     refine ⟨_, rfl, fun K hK => ?_⟩
     have e18 := PON ha 12 (hon 12 (by kernel_rfl))
     have e23 := PON ha 17 (hon 17 (by kernel_rfl))
     replace ha := Aside0.mk ha
     exact VL (.bool true) (hK.out _ _ ⟨PUT ha 18 hb, HM⟩)
    exact steps_nil
   rintro _ w39 ⟨rfl, HM⟩
   simp only [putSel, if_true, Act.put, List.setIfInBounds_toArray, List.set_cons_zero, List.set_cons_succ, gt_iff_lt, ge_iff_le]
   have H' := Aside0.mk H
   clear H
   go_wp2
   go_meet
   case rel => exact ⟨_, (true), RS, H', ⟨by first | omega | exact Nat.le_refl _⟩, (MD HM).pick [0]⟩
 case rest =>
  clear HC3 HM
  obtain ⟨kq, x24_2, rfl, HA, HJ2, HM⟩ := hcut
  cases kq with
  | zero => exact absurd HA.out (by simp [impl_ThreeOk.j0])
  | succ kj2 =>
   have H := HA.out
   clear HA
   simp only [impl_ThreeOk.j0] at H
   go_upto_if 24 with (fail)
   replace H := IB H
   rcases H with ⟨c40, H⟩ | ⟨c40, H⟩
   ·subst c40
    obtain rfl := Option.some.inj H
    go_wp2
    go_ret
    exact ⟨ER, (MD HM).pick []⟩
   ·subst c40
    have H' := Aside0.mk H
    clear H
    obtain ⟨hcz41_0, hcz41_1, hcz41_2, hcz41_3, hcz41_4, hfz41_0, hfz41_1, hfz41_2, hfz41_3, hfz41_4⟩ := bk5 (HM.bx 0 rfl)
    go_wp2
    go_loopg [28] kj2 (fun kq v28 w' => ∃ (x28_2 : Int), v28 = .int .i64 x28_2 ∧ Aside0 (impl_ThreeOk.l0 kq l0_4 (l0_4.length : Int) x28_2 a0_0 a0_1 l0_2 l0_3 l0_4 = some r) ∧ Aside0 (kq ≤ kj2) ∧ Mem w [] w' [box 32 gb548 [.int .i64 a0_0, .int .i64 a0_1, .slice A0_2 l0_2.length c0_2, .slice A0_3 l0_3.length c0_3, .slice A0_4 l0_4.length c0_4]])
    case atStart => exact ⟨(0), RS, H', ⟨Nat.le_refl _⟩, (MD HM).pick [0]⟩
    case round =>
     clear H' HM
     obtain ⟨x28_2, rfl, HA, HK2, HM⟩ := hrel
     cases gk with
     | zero => exact absurd HA.out (by simp [impl_ThreeOk.l0])
     | succ k2 =>
      have H := HA.out
      clear HA
      simp only [impl_ThreeOk.l0] at H
      go_upto_if 29 with (fail)
      replace H := IT H; rcases H with ⟨c42, H⟩ | ⟨c42, H⟩
      ·have c42b0 : decide (x28_2 < (l0_4.length : Int)) = true := decide_eq_true c42
       clear c42
       (first | rw [c42b0] | (simp only [i64_w, i32_w]; rw [c42b0]) | skip)
       replace H := GD H; obtain ⟨c43, H⟩ := H
       have c43b0 : decide (0 ≤ x28_2) = true := decide_eq_true c43
       clear c43
       replace H := GD H; obtain ⟨c44, H⟩ := H
       have c44b0 : decide (x28_2 < (l0_4.length : Int)) = true := decide_eq_true c44
       clear c44
       replace H := BN H; obtain ⟨t560, A45, H⟩ := H
       replace H := IB H
       rcases H with ⟨c47, H⟩ | ⟨c47, H⟩
       ·subst c47
        have c49b0 := eq_true (of_decide_eq_true AS : 0 ≤ x28_2)
        replace H := GD H; obtain ⟨c50, H⟩ := H
        have c50b0 := eq_true c50
        have c50b1 : decide (x28_2 ≤ (l0_4.length : Int)) = true := decide_eq_true c50
        clear c50
        replace H := BN H; obtain ⟨t562, A52, H⟩ := H
        have p559 : 0 ≤ (x28_2 : Int) := of_decide_eq_true AS
        have q559 : (x28_2 : Int) < (l0_4.length : Int) := of_decide_eq_true AS
        obtain ⟨ad559, e559, hx559_0⟩ := Kd.at_int (HM.came HR0_4.out) x28_2 p559 q559
        cases e559
        replace p559 := eq_true p559
        replace q559 := eq_true q559
        go_upto_if 43 with (first | ((with_reducible refine gate_callee (f := 57) rfl ?_); refine pC (some 34) rfl #[.int .i64 (rd l0_4 x28_2)] rfl Try.func57 (impl_isNum.calls (rd l0_4 x28_2) true _ A45.out) ?_; rintro e w46 ⟨rfl, hd⟩; refine ⟨_, rfl, ?_⟩; replace HM := HM.drawn hd; clear hd; obtain ⟨hcz48_0, hcz48_1, hcz48_2, hcz48_3, hcz48_4, hfz48_0, hfz48_1, hfz48_2, hfz48_3, hfz48_4⟩ := bk5 (HM.bx 0 rfl)) | ((with_reducible refine gate_sl (t := 23) rfl ?_); refine pRt 23 3 (Kd.int .i64) _ _ x28_2 l0_4 (some ad559) c0_4 rfl Try.underlying23 info3 (HM.came HR0_4.out) HC0_4.out (of_decide_eq_true AS) (of_decide_eq_true AS) ?_; intro Yx51 bx51 hYx51 hbx51; have HYx51 := Aside0.mk hYx51; have HBx51 := Aside0.mk hbx51; clear hYx51 hbx51; have hlx51 : (l0_4.take (x28_2 : Int).toNat).length = (x28_2 : Int).toNat := by rw [List.length_take]; have h_ : (x28_2 : Int) ≤ ((l0_4.length : Int) : Int) := of_decide_eq_true AS; omega) | ((with_reducible refine gate_callee (f := 58) rfl ?_); refine pC (some 42) rfl #[.slice Yx51 (l0_4.take (x28_2 : Int).toNat).length bx51, .int .i64 (rd l0_4 x28_2)] rfl Try.func58 (slices_Contains_int_int.calls k2 _ _ (l0_4.take (x28_2 : Int).toNat) (rd l0_4 x28_2) t562 _ HYx51.out HBx51.out A52.out) ?_ (hargs := by (try simp only [List.map_toArray, List.map_cons, List.map_nil]); first | done | rfl | (rw [hlx51]; rfl) | (simp only [List.length_take]; rfl)); rintro e w53 ⟨rfl, hd⟩; refine ⟨_, rfl, ?_⟩; replace HM := HM.drawn hd; clear hd))
        replace H := IB H
        rcases H with ⟨c54, H⟩ | ⟨c54, H⟩
        ·subst c54
         obtain rfl := Option.some.inj H
         go_wp2
         go_ret
         exact ⟨ER, (MD HM).pick []⟩
        ·subst c54
         have H' := Aside0.mk H
         clear H
         go_wp2
         go_roundg k2
         case measure => have := HJ2.out; have := HK2.out; omega
         case rel => exact ⟨(wrap64 (x28_2 + 1)), RS, H', ⟨by have := HJ2.out; have := HK2.out; omega⟩, (MD HM).pick [0]⟩
       ·subst c47
        obtain rfl := Option.some.inj H
        have p559 : 0 ≤ (x28_2 : Int) := of_decide_eq_true AS
        have q559 : (x28_2 : Int) < (l0_4.length : Int) := of_decide_eq_true AS
        obtain ⟨ad559, e559, hx559_0⟩ := Kd.at_int (HM.came HR0_4.out) x28_2 p559 q559
        cases e559
        replace p559 := eq_true p559
        replace q559 := eq_true q559
        go_wp2_with (first | ((with_reducible refine gate_callee (f := 57) rfl ?_); refine pC (some 34) rfl #[.int .i64 (rd l0_4 x28_2)] rfl Try.func57 (impl_isNum.calls (rd l0_4 x28_2) false _ A45.out) ?_; rintro e w46 ⟨rfl, hd⟩; refine ⟨_, rfl, ?_⟩; replace HM := HM.drawn hd; clear hd))
        go_ret
        exact ⟨ER, (MD HM).pick []⟩
      ·have c42b0 : decide (x28_2 < (l0_4.length : Int)) = false := decide_eq_false c42
       clear c42
       (first | rw [c42b0] | (simp only [i64_w, i32_w]; rw [c42b0]) | skip)
       try go_wp2
       replace H := BN H; obtain ⟨t552, A55, H⟩ := H
       replace H := GD H; obtain ⟨c56, H⟩ := H
       have LMc56 := Aside0.mk c56
       clear c56
       replace H := BLt H; obtain ⟨y555, Ny555, H⟩ := H
       replace Ny555 := Aside0.mk Ny555
       refine RGN 7 [0, 1, 2, 3, 4, 5, 6] (fun a0 b a w' => ∃ (v553 : Value) (v556 : Value), a = putSel a0 b [(0, 45, .pointer (some ⟨gb548, 2, none⟩)), (1, 46, .slice A0_2 l0_2.length c0_2), (2, 47, v553), (3, 48, .pointer (some ⟨gb548, 3, none⟩)), (4, 49, .slice A0_3 l0_3.length c0_3), (5, 50, v556), (6, 5, v556)] ∧ Mem w [] w' [box 32 gb548 [.int .i64 a0_0, .int .i64 a0_1, .slice A0_2 l0_2.length c0_2, .slice A0_3 l0_3.length c0_3, .slice A0_4 l0_4.length c0_4], sel (b 5) (rowR k95 95 v556 y555) (sel (b 2) (rowR k95 95 v553 t552) (emp))]) impl_ThreeOk.tab9 impl_ThreeOk.bits9 ?_ ?_ ?_
       ·exact ⟨.bool false, .bool false, PS0' rfl _, (HM.drew.ems 1).pick [0, 1]⟩
       ·clear HM
        refine steps_cons ?_ ?_
        ·rintro b a w ⟨v553, v556, ha, HM⟩ hb hon hoff
         refine ⟨_, rfl, fun K hK => ?_⟩
         have e1 := POF ha 1
         replace ha := Aside0.mk ha
         exact VL (.pointer (some ⟨gb548, 2, none⟩)) (hK.out _ _ ⟨v553, v556, PUT ha 0 hb, HM⟩)
        refine steps_cons ?_ ?_
        ·rintro b a w ⟨v553, v556, ha, HM⟩ hb hon hoff
         refine ⟨_, rfl, fun K hK => ?_⟩
         obtain ⟨hcz61_0, hcz61_1, hcz61_2, hcz61_3, hcz61_4, hfz61_0, hfz61_1, hfz61_2, hfz61_3, hfz61_4⟩ := bk5 (HM.bx 0 rfl)
         have e45 := PON ha 0 (hon 0 (by kernel_rfl))
         replace ha := Aside0.mk ha
         exact VL (.slice A0_2 l0_2.length c0_2) (hK.out _ _ ⟨v553, v556, PUT ha 1 hb, HM⟩)
        refine steps_cons ?_ ?_
        ·rintro b a w ⟨v553, v556, ha, HM⟩ hb hon hoff
         refine ⟨_, rfl, fun K hK => ?_⟩
         have e46 := PON ha 1 (hon 1 (by kernel_rfl))
         replace ha := Aside0.mk ha
         refine ST (eC (some 47) rfl #[.slice A0_2 l0_2.length c0_2] rfl Try.func59 (impl_copyItems.calls _ _ l0_2 t552 _ (HM.came HR0_2.out) HC0_2.out A55.out) ?_ (hargs := by (simp only [List.map_toArray, List.map_cons, List.map_nil, evc, eval_of e46]) <;> rfl))
         rintro e w62 ⟨v553, rfl, hR⟩
         refine ⟨_, rfl, ?_⟩
         replace HM := HM.call hR
         clear hR
         exact hK.out _ _ ⟨v553, v556, PUT ha 2 hb, (HM.iF 2 rfl (hoff 5 (by kernel_rfl))).pick [0, 2]⟩
        refine steps_cons ?_ ?_
        ·rintro b a w ⟨v553, v556, ha, HM⟩ hb hon hoff
         refine ⟨_, rfl, fun K hK => ?_⟩
         have e1 := POF ha 1
         replace ha := Aside0.mk ha
         exact VL (.pointer (some ⟨gb548, 3, none⟩)) (hK.out _ _ ⟨v553, v556, PUT ha 3 hb, HM⟩)
        refine steps_cons ?_ ?_
        ·rintro b a w ⟨v553, v556, ha, HM⟩ hb hon hoff
         refine ⟨_, rfl, fun K hK => ?_⟩
         obtain ⟨hcz63_0, hcz63_1, hcz63_2, hcz63_3, hcz63_4, hfz63_0, hfz63_1, hfz63_2, hfz63_3, hfz63_4⟩ := bk5 (HM.bx 0 rfl)
         have e48 := PON ha 3 (hon 3 (by kernel_rfl))
         replace ha := Aside0.mk ha
         exact VL (.slice A0_3 l0_3.length c0_3) (hK.out _ _ ⟨v553, v556, PUT ha 4 hb, HM⟩)
        refine steps_cons ?_ ?_
        ·rintro b a w ⟨v553, v556, ha, HM⟩ hb hon hoff
         refine ⟨_, rfl, fun K hK => ?_⟩
         replace HM := (HM.sF 1 rfl hb).sT 1 rfl (hon 2 (by kernel_rfl))
         have e47 := PON ha 2 (hon 2 (by kernel_rfl))
         have e49 := PON ha 4 (hon 4 (by kernel_rfl))
         replace ha := Aside0.mk ha
         refine ST (eA 1 (.tmp 47) (.tmp 49) 30 95 k95 v553 t552 l0_3 A0_3 l0_3.length c0_3 HM rfl Try.underlying30 info95 rfl (HM.came HR0_3.out) (by have h_ := LMc56.out; omega) ?_ (ops := #[]) (hw := by rfl) (hs := (eval_of e47)) (hx := (eval_of e49)))
         clear HM
         intro v556 w64 HM
         replace HM := HM.nm 1 rfl Ny555.out
         exact hK.out _ _ ⟨v553, v556, PUT (PCH ha 6 (hoff 6 (by kernel_rfl))) 5 hb, (HM).pick [0, 1]⟩
        refine steps_cons ?_ ?_
        ·rintro b a w ⟨v553, v556, ha, HM⟩ hb hon hoff
         refine ⟨_, rfl, fun K hK => ?_⟩
         have e50 := PON ha 5 (hon 5 (by kernel_rfl))
         replace ha := Aside0.mk ha
         exact VL (v556) (hK.out _ _ ⟨v553, v556, PUT ha 6 hb, HM⟩)
        exact steps_nil
       rintro _ w65 ⟨v553, v556, rfl, HM⟩
       replace HM := HM.sT 1 rfl rfl
       simp only [putSel, if_true, Act.put, List.setIfInBounds_toArray, List.set_cons_zero, List.set_cons_succ, gt_iff_lt, ge_iff_le]
       replace H := IT H; rcases H with ⟨c68, H⟩ | ⟨c68, H⟩
       ·have c68b0 : decide ((y555.length : Int) ≤ a0_0) = true := decide_eq_true c68
        clear c68
        replace H := BN H; obtain ⟨t558, A69, H⟩ := H
        obtain rfl := Option.some.inj H
        obtain ⟨Xo66, ko66, eo66⟩ := HM.rdR 1 rfl
        subst eo66
        obtain ⟨hcz67_0, hcz67_1, hcz67_2, hcz67_3, hcz67_4, hfz67_0, hfz67_1, hfz67_2, hfz67_3, hfz67_4⟩ := bk5 (HM.bx 0 rfl)
        go_wp2_with (first | ((with_reducible refine gate_callee (f := 60) rfl ?_); refine pC (some 58) rfl #[.slice Xo66 y555.length ko66] rfl Try.func60 (impl_areItems.calls k2 _ _ y555 t558 _ (HM.CR 1 rfl).2.2 (HM.CR 1 rfl).2.1 A69.out) ?_; rintro e w70 ⟨rfl, hR⟩; refine ⟨_, rfl, ?_⟩; replace HM := HM.call hR; clear hR))
        go_ret
        exact ⟨ER, (MD HM).pick []⟩
       ·have c68b0 : decide ((y555.length : Int) ≤ a0_0) = false := decide_eq_false c68
        clear c68
        obtain rfl := Option.some.inj H
        obtain ⟨Xo66, ko66, eo66⟩ := HM.rdR 1 rfl
        subst eo66
        obtain ⟨hcz67_0, hcz67_1, hcz67_2, hcz67_3, hcz67_4, hfz67_0, hfz67_1, hfz67_2, hfz67_3, hfz67_4⟩ := bk5 (HM.bx 0 rfl)
        go_wp2
        go_ret
        exact ⟨ER, (MD HM).pick []⟩
def impl_copyInts.f (l0 : List Int) : Option (List Int) := if ([] : List Int).length + l0.length < 17592186044416 then (some (([] : List Int) ++ l0)) else (none)
set_option maxHeartbeats 8000000 in
set_option maxRecDepth 100000 in
theorem impl_copyInts.calls (A0 : Option Addr) (c0 : Nat) (l0 : List Int) (r : List Int) (w : World) (hr0 : Kd.C (Kd.int .i64) w A0 l0.length l0) (hc0 : l0.length ≤ c0) (h : impl_copyInts.f l0 = some r) :
  Calls Try.prog 83 #[.slice A0 l0.length c0] w fun e w' => ∃ v0_ : Value, e = .returned (v0_) ∧ Mem w [] w' [rowR (Kd.int .i64) 3 v0_ r] := by
 have HR0 := Aside0.mk hr0
 have HC0 := Aside0.mk hc0
 clear hr0 hc0
 have HM := Mem.nil w
 have H := h
 clear h
 unfold impl_copyInts.f at H
 go_enter Try.func83, Try.ntmps83
 replace H := GD H; obtain ⟨c2, H⟩ := H
 have LMc2 := Aside0.mk c2
 clear c2
 obtain rfl := Option.some.inj H
 go_wp2_with (first | ((with_reducible refine gate_builtin (b := .append) (xs := #[.const (.slice none 0 0), .tmp 3]) rfl ?_); refine pAn (.const (.slice none 0 0)) (.tmp 3) 23 3 (Kd.int .i64) l0 A0 l0.length c0 HM rfl Try.underlying23 info3 (HM.came HR0.out) (by have h_ := LMc2.out; omega) ?_; clear HM; intro v564 w3 HM))
 go_ret
 exact ⟨_, ER, (MD HM).pick [0]⟩
def impl_copyThree.f (a0_0 : Int) (a0_1 : Int) (l0_2 : List (S95)) (l0_3 : List (S95)) (l0_4 : List Int) : Option (Int × Int × (List (S95)) × (List (S95)) × List Int) := (impl_copyItems.f l0_2).bind fun t568 => ((impl_copyItems.f l0_3).bind fun t571 => ((impl_copyInts.f l0_4).bind fun t574 => (some (a0_0, a0_1, t568, t571, t574))))
def impl_copyThree.T1 : Bool × List (List Nat × List Nat) := (true, [([], []), ([0], [0]), ([], []), ([2], [2]), ([], []), ([4], [4]), ([5], [5]), ([], []), ([7], [7]), ([8, 6], [8]), ([], []), ([10], [10]), ([11, 9], [11]), ([1, 3, 6, 9, 12], [1, 3, 6, 9, 12]), ([13, 12, 0, 1, 2, 3, 4, 5, 6, 7, 8, 9, 10, 11, 12, 13], [13])])
def impl_copyThree.B1 : List Nat := [0, 1, 0, 4, 0, 16, 48, 0, 128, 496, 0, 1024, 4080, 8191, 16383]
theorem impl_copyThree.tab1 : rtab .any (opsOf Try.f49 1) = impl_copyThree.T1 := by kernel_rfl
theorem impl_copyThree.bits1 : waitsOk impl_copyThree.T1.2 impl_copyThree.B1 = true := by kernel_rfl
set_option maxHeartbeats 8000000 in
set_option maxRecDepth 100000 in
theorem impl_copyThree.calls (a0_0 : Int) (a0_1 : Int) (A0_2 : Option Addr) (c0_2 : Nat) (l0_2 : List (S95)) (A0_3 : Option Addr) (c0_3 : Nat) (l0_3 : List (S95)) (A0_4 : Option Addr) (c0_4 : Nat) (l0_4 : List Int) (r1 : Int) (r2 : Int) (r3 : List (S95)) (r4 : List (S95)) (r5 : List Int) (w : World) (hr0_2 : Kd.C k95 w A0_2 l0_2.length l0_2) (hc0_2 : l0_2.length ≤ c0_2) (hr0_3 : Kd.C k95 w A0_3 l0_3.length l0_3) (hc0_3 : l0_3.length ≤ c0_3) (hr0_4 : Kd.C (Kd.int .i64) w A0_4 l0_4.length l0_4) (hc0_4 : l0_4.length ≤ c0_4) (h : impl_copyThree.f a0_0 a0_1 l0_2 l0_3 l0_4 = some (r1, r2, r3, r4, r5)) :
  Calls Try.prog 49 #[.agg #[.int .i64 a0_0, .int .i64 a0_1, .slice A0_2 l0_2.length c0_2, .slice A0_3 l0_3.length c0_3, .slice A0_4 l0_4.length c0_4]] w fun e w' => ∃ v2_ v3_ v4_ : Value, e = .returned (.agg #[.int .i64 r1, .int .i64 r2, v2_, v3_, v4_]) ∧ Mem w [] w' [rowR k95 95 v2_ r3, rowR k95 95 v3_ r4, rowR (Kd.int .i64) 3 v4_ r5] := by
 have hu32 := Try.underlying32
 have HR0_2 := Aside0.mk hr0_2
 have HC0_2 := Aside0.mk hc0_2
 clear hr0_2 hc0_2
 have HR0_3 := Aside0.mk hr0_3
 have HC0_3 := Aside0.mk hc0_3
 clear hr0_3 hc0_3
 have HR0_4 := Aside0.mk hr0_4
 have HC0_4 := Aside0.mk hc0_4
 clear hr0_4 hc0_4
 have HM := Mem.nil w
 have H := h
 clear h
 unfold impl_copyThree.f at H
 go_enter Try.func49, Try.ntmps49
 try go_wp2_with (first | ((with_reducible refine gate_dst (N := 1) rfl ?_); refine pB 1 32 [.int .i64 a0_0, .int .i64 a0_1, .slice A0_2 l0_2.length c0_2, .slice A0_3 l0_3.length c0_3, .slice A0_4 l0_4.length c0_4] HM rfl ?_; clear HM; intro gb566 w2 HM) | ((with_reducible refine gate_dst (N := 2) rfl ?_); refine pB 2 32 [.int .i64 0, .int .i64 0, .slice none 0 0, .slice none 0 0, .slice none 0 0] HM rfl ?_; clear HM; intro gb567 w3 HM))
 replace H := BN H; obtain ⟨t568, A4, H⟩ := H
 replace H := BN H; obtain ⟨t571, A5, H⟩ := H
 replace H := BN H; obtain ⟨t574, A6, H⟩ := H
 refine RGN 15 [0, 1, 2, 3, 4, 5, 6, 7, 8, 9, 10, 11, 12, 13, 14] (fun a0 b a w' => ∃ (v569 : Value) (v572 : Value) (v575 : Value), a = putSel a0 b [(0, 3, .pointer (some ⟨gb566, 0, none⟩)), (1, 4, .int .i64 a0_0), (2, 5, .pointer (some ⟨gb566, 1, none⟩)), (3, 6, .int .i64 a0_1), (4, 7, .pointer (some ⟨gb566, 2, none⟩)), (5, 8, .slice A0_2 l0_2.length c0_2), (6, 9, v569), (7, 10, .pointer (some ⟨gb566, 3, none⟩)), (8, 11, .slice A0_3 l0_3.length c0_3), (9, 12, v572), (10, 13, .pointer (some ⟨gb566, 4, none⟩)), (11, 14, .slice A0_4 l0_4.length c0_4), (12, 15, v575), (13, 16, .agg #[.int .i64 a0_0, .int .i64 a0_1, v569, v572, v575])] ∧ Mem w [] w' [box 32 gb566 [.int .i64 a0_0, .int .i64 a0_1, .slice A0_2 l0_2.length c0_2, .slice A0_3 l0_3.length c0_3, .slice A0_4 l0_4.length c0_4], sel (b 14) (box 32 gb567 [.int .i64 a0_0, .int .i64 a0_1, v569, v572, v575]) (box 32 gb567 [.int .i64 0, .int .i64 0, .slice none 0 0, .slice none 0 0, .slice none 0 0]), sel (b 6) (rowR k95 95 v569 t568) (emp), sel (b 9) (rowR k95 95 v572 t571) (emp), sel (b 12) (rowR (Kd.int .i64) 3 v575 t574) (emp)]) impl_copyThree.tab1 impl_copyThree.bits1 ?_ ?_ ?_
 ·exact ⟨.bool false, .bool false, .bool false, PS0' rfl _, (HM.drew.ems 3).pick [0, 1, 2, 3, 4]⟩
 ·clear HM
  refine steps_cons ?_ ?_
  ·rintro b a w ⟨v569, v572, v575, ha, HM⟩ hb hon hoff
   refine ⟨_, rfl, fun K hK => ?_⟩
   have e1 := POF ha 1
   replace ha := Aside0.mk ha
   exact VL (.pointer (some ⟨gb566, 0, none⟩)) (hK.out _ _ ⟨v569, v572, v575, PUT ha 0 hb, HM⟩)
  refine steps_cons ?_ ?_
  ·rintro b a w ⟨v569, v572, v575, ha, HM⟩ hb hon hoff
   refine ⟨_, rfl, fun K hK => ?_⟩
   obtain ⟨hcz22_0, hcz22_1, hcz22_2, hcz22_3, hcz22_4, hfz22_0, hfz22_1, hfz22_2, hfz22_3, hfz22_4⟩ := bk5 (HM.bx 0 rfl)
   have e3 := PON ha 0 (hon 0 (by kernel_rfl))
   replace ha := Aside0.mk ha
   exact VL (.int .i64 a0_0) (hK.out _ _ ⟨v569, v572, v575, PUT ha 1 hb, HM⟩)
  refine steps_cons ?_ ?_
  ·rintro b a w ⟨v569, v572, v575, ha, HM⟩ hb hon hoff
   refine ⟨_, rfl, fun K hK => ?_⟩
   have e1 := POF ha 1
   replace ha := Aside0.mk ha
   exact VL (.pointer (some ⟨gb566, 1, none⟩)) (hK.out _ _ ⟨v569, v572, v575, PUT ha 2 hb, HM⟩)
  refine steps_cons ?_ ?_
  ·rintro b a w ⟨v569, v572, v575, ha, HM⟩ hb hon hoff
   refine ⟨_, rfl, fun K hK => ?_⟩
   obtain ⟨hcz23_0, hcz23_1, hcz23_2, hcz23_3, hcz23_4, hfz23_0, hfz23_1, hfz23_2, hfz23_3, hfz23_4⟩ := bk5 (HM.bx 0 rfl)
   have e5 := PON ha 2 (hon 2 (by kernel_rfl))
   replace ha := Aside0.mk ha
   exact VL (.int .i64 a0_1) (hK.out _ _ ⟨v569, v572, v575, PUT ha 3 hb, HM⟩)
  refine steps_cons ?_ ?_
  ·rintro b a w ⟨v569, v572, v575, ha, HM⟩ hb hon hoff
   refine ⟨_, rfl, fun K hK => ?_⟩
   have e1 := POF ha 1
   replace ha := Aside0.mk ha
   exact VL (.pointer (some ⟨gb566, 2, none⟩)) (hK.out _ _ ⟨v569, v572, v575, PUT ha 4 hb, HM⟩)
  refine steps_cons ?_ ?_
  ·rintro b a w ⟨v569, v572, v575, ha, HM⟩ hb hon hoff
   refine ⟨_, rfl, fun K hK => ?_⟩
   obtain ⟨hcz24_0, hcz24_1, hcz24_2, hcz24_3, hcz24_4, hfz24_0, hfz24_1, hfz24_2, hfz24_3, hfz24_4⟩ := bk5 (HM.bx 0 rfl)
   have e7 := PON ha 4 (hon 4 (by kernel_rfl))
   replace ha := Aside0.mk ha
   exact VL (.slice A0_2 l0_2.length c0_2) (hK.out _ _ ⟨v569, v572, v575, PUT ha 5 hb, HM⟩)
  refine steps_cons ?_ ?_
  ·rintro b a w ⟨v569, v572, v575, ha, HM⟩ hb hon hoff
   refine ⟨_, rfl, fun K hK => ?_⟩
   have e8 := PON ha 5 (hon 5 (by kernel_rfl))
   replace ha := Aside0.mk ha
   refine ST (eC (some 9) rfl #[.slice A0_2 l0_2.length c0_2] rfl Try.func59 (impl_copyItems.calls _ _ l0_2 t568 _ (HM.came HR0_2.out) HC0_2.out A4.out) ?_ (hargs := by (simp only [List.map_toArray, List.map_cons, List.map_nil, evc, eval_of e8]) <;> rfl))
   rintro e w25 ⟨v569, rfl, hR⟩
   refine ⟨_, rfl, ?_⟩
   replace HM := HM.call hR
   clear hR
   exact hK.out _ _ ⟨v569, v572, v575, PUT (PCH ha 13 (hoff 13 (by kernel_rfl))) 6 hb, ((HM.sF 1 rfl (hoff 14 (by kernel_rfl))).iF 1 rfl (hoff 14 (by kernel_rfl))).pick [0, 1, 5, 3, 4]⟩
  refine steps_cons ?_ ?_
  ·rintro b a w ⟨v569, v572, v575, ha, HM⟩ hb hon hoff
   refine ⟨_, rfl, fun K hK => ?_⟩
   have e1 := POF ha 1
   replace ha := Aside0.mk ha
   exact VL (.pointer (some ⟨gb566, 3, none⟩)) (hK.out _ _ ⟨v569, v572, v575, PUT ha 7 hb, HM⟩)
  refine steps_cons ?_ ?_
  ·rintro b a w ⟨v569, v572, v575, ha, HM⟩ hb hon hoff
   refine ⟨_, rfl, fun K hK => ?_⟩
   obtain ⟨hcz26_0, hcz26_1, hcz26_2, hcz26_3, hcz26_4, hfz26_0, hfz26_1, hfz26_2, hfz26_3, hfz26_4⟩ := bk5 (HM.bx 0 rfl)
   have e10 := PON ha 7 (hon 7 (by kernel_rfl))
   replace ha := Aside0.mk ha
   exact VL (.slice A0_3 l0_3.length c0_3) (hK.out _ _ ⟨v569, v572, v575, PUT ha 8 hb, HM⟩)
  refine steps_cons ?_ ?_
  ·rintro b a w ⟨v569, v572, v575, ha, HM⟩ hb hon hoff
   refine ⟨_, rfl, fun K hK => ?_⟩
   have e11 := PON ha 8 (hon 8 (by kernel_rfl))
   replace ha := Aside0.mk ha
   refine ST (eC (some 12) rfl #[.slice A0_3 l0_3.length c0_3] rfl Try.func59 (impl_copyItems.calls _ _ l0_3 t571 _ (HM.came HR0_3.out) HC0_3.out A5.out) ?_ (hargs := by (simp only [List.map_toArray, List.map_cons, List.map_nil, evc, eval_of e11]) <;> rfl))
   rintro e w27 ⟨v572, rfl, hR⟩
   refine ⟨_, rfl, ?_⟩
   replace HM := HM.call hR
   clear hR
   exact hK.out _ _ ⟨v569, v572, v575, PUT (PCH ha 13 (hoff 13 (by kernel_rfl))) 9 hb, ((HM.sF 1 rfl (hoff 14 (by kernel_rfl))).iF 1 rfl (hoff 14 (by kernel_rfl))).pick [0, 1, 2, 5, 4]⟩
  refine steps_cons ?_ ?_
  ·rintro b a w ⟨v569, v572, v575, ha, HM⟩ hb hon hoff
   refine ⟨_, rfl, fun K hK => ?_⟩
   have e1 := POF ha 1
   replace ha := Aside0.mk ha
   exact VL (.pointer (some ⟨gb566, 4, none⟩)) (hK.out _ _ ⟨v569, v572, v575, PUT ha 10 hb, HM⟩)
  refine steps_cons ?_ ?_
  ·rintro b a w ⟨v569, v572, v575, ha, HM⟩ hb hon hoff
   refine ⟨_, rfl, fun K hK => ?_⟩
   obtain ⟨hcz28_0, hcz28_1, hcz28_2, hcz28_3, hcz28_4, hfz28_0, hfz28_1, hfz28_2, hfz28_3, hfz28_4⟩ := bk5 (HM.bx 0 rfl)
   have e13 := PON ha 10 (hon 10 (by kernel_rfl))
   replace ha := Aside0.mk ha
   exact VL (.slice A0_4 l0_4.length c0_4) (hK.out _ _ ⟨v569, v572, v575, PUT ha 11 hb, HM⟩)
  refine steps_cons ?_ ?_
  ·rintro b a w ⟨v569, v572, v575, ha, HM⟩ hb hon hoff
   refine ⟨_, rfl, fun K hK => ?_⟩
   have e14 := PON ha 11 (hon 11 (by kernel_rfl))
   replace ha := Aside0.mk ha
   refine ST (eC (some 15) rfl #[.slice A0_4 l0_4.length c0_4] rfl Try.func83 (impl_copyInts.calls _ _ l0_4 t574 _ (HM.came HR0_4.out) HC0_4.out A6.out) ?_ (hargs := by (simp only [List.map_toArray, List.map_cons, List.map_nil, evc, eval_of e14]) <;> rfl))
   rintro e w29 ⟨v575, rfl, hR⟩
   refine ⟨_, rfl, ?_⟩
   replace HM := HM.call hR
   clear hR
   exact hK.out _ _ ⟨v569, v572, v575, PUT (PCH ha 13 (hoff 13 (by kernel_rfl))) 12 hb, ((HM.sF 1 rfl (hoff 14 (by kernel_rfl))).iF 1 rfl (hoff 14 (by kernel_rfl))).pick [0, 1, 2, 3, 5]⟩
  refine steps_cons ?_ ?_
  ·rintro b a w ⟨v569, v572, v575, ha, HM⟩ hb hon hoff
   refine ⟨_, rfl, fun K hK => ?_⟩
   have HZ := HM
   replace HM := HM.sT 2 rfl (hon 6 (by kernel_rfl))
   replace HM := HM.sT 3 rfl (hon 9 (by kernel_rfl))
   replace HM := HM.sT 4 rfl (hon 12 (by kernel_rfl))
   obtain ⟨Xo30, ko30, eo30⟩ := HM.rdR 4 rfl
   subst eo30
   obtain ⟨Xo31, ko31, eo31⟩ := HM.rdR 3 rfl
   subst eo31
   obtain ⟨Xo32, ko32, eo32⟩ := HM.rdR 2 rfl
   subst eo32
   have e4 := PON ha 1 (hon 1 (by kernel_rfl))
   have e6 := PON ha 3 (hon 3 (by kernel_rfl))
   have e9 := PON ha 6 (hon 6 (by kernel_rfl))
   have e12 := PON ha 9 (hon 9 (by kernel_rfl))
   have e15 := PON ha 12 (hon 12 (by kernel_rfl))
   replace ha := Aside0.mk ha
   exact VL (.agg #[.int .i64 a0_0, .int .i64 a0_1, .slice Xo32 t568.length ko32, .slice Xo31 t571.length ko31, .slice Xo30 t574.length ko30]) (hK.out _ _ ⟨.slice Xo32 t568.length ko32, .slice Xo31 t571.length ko31, .slice Xo30 t574.length ko30, PUT ha 13 hb, HZ⟩)
  refine steps_cons ?_ ?_
  ·rintro b a w ⟨v569, v572, v575, ha, HM⟩ hb hon hoff
   refine ⟨_, rfl, fun K hK => ?_⟩
   replace HM := HM.sF 1 rfl hb
   replace HM := HM.sT 2 rfl (hon 6 (by kernel_rfl))
   replace HM := HM.sT 3 rfl (hon 9 (by kernel_rfl))
   replace HM := HM.sT 4 rfl (hon 12 (by kernel_rfl))
   obtain ⟨Xo33, ko33, eo33⟩ := HM.rdR 2 rfl
   subst eo33
   obtain ⟨Xo34, ko34, eo34⟩ := HM.rdR 3 rfl
   subst eo34
   obtain ⟨Xo35, ko35, eo35⟩ := HM.rdR 4 rfl
   subst eo35
   have e2 := POF ha 2
   have e16 := PON ha 13 (hon 13 (by kernel_rfl))
   replace ha := Aside0.mk ha
   refine ST (eS 1 2 0 [.int .i64 a0_0, .int .i64 a0_1, .slice Xo33 t568.length ko33, .slice Xo34 t571.length ko34, .slice Xo35 t574.length ko35] HM rfl rfl ?_ (hp := (eval_of e2)) (hx := (by rw [eval_of e16]; rfl)))
   clear HM
   intro w36 HM
   exact hK.out _ _ ⟨.slice Xo33 t568.length ko33, .slice Xo34 t571.length ko34, .slice Xo35 t574.length ko35, PUS ha, (((HM.iT 2 rfl (hon 6 (by kernel_rfl))).iT 3 rfl (hon 9 (by kernel_rfl))).iT 4 rfl (hon 12 (by kernel_rfl))).pick [0, 1, 2, 3, 4]⟩
  exact steps_nil
 rintro _ w37 ⟨v569, v572, v575, rfl, HM⟩
 replace HM := HM.sT 1 rfl rfl
 replace HM := HM.sT 2 rfl rfl
 replace HM := HM.sT 3 rfl rfl
 replace HM := HM.sT 4 rfl rfl
 simp only [putSel, if_true, Act.put, List.setIfInBounds_toArray, List.set_cons_zero, List.set_cons_succ, gt_iff_lt, ge_iff_le]
 simp only [Option.some.injEq, Prod.mk.injEq] at H
 obtain ⟨rfl, rfl, rfl, rfl, rfl⟩ := H
 go_wp2
 refine bodyPost_ret (results_cell_row rfl _ _ gb567 32 #[.int .i64 a0_0, .int .i64 a0_1, v569, v572, v575] (0, 0) _ rfl (HM.bx 1 rfl) Try.underlying32 rfl (by kernel_rfl)) rfl ?_
 exact ⟨_, _, _, ER, (MD HM).pick [2, 3, 4]⟩
end Go.Proofs.Ytdeijmofaapgdaa.G

namespace Go.Proofs.Ytdeijmofaapgdaa.G
open Go.RowKit Go.Proofs.YtdeijmofaapgdaaW.PrintWords Go.Proofs.YtdeijmofaapgdaaW.PrintLast Go.Proofs.YtdeijmofaapgdaaW.PrintMore Go.Proofs.Ytdeijmofaapgdaa.Sh
attribute [local go_sem] max2_int min2_int max_two min_two max_three min_three max_four min_four
set_option linter.unusedVariables false
set_option linter.unusedSimpArgs false
open Go.Proofs.Ytdeijmofaapgdaa.Man
def impl_Three_item.f (l2 l3 : List S95) (a1 : ByteArray) : Option Int := (impl_itemAt.f l2 a1).bind fun a => if 0 ≤ a then some a else (impl_itemAt.f l3 a1).bind fun b => if 0 ≤ b then some ((l2.length : Int) + b) else some (-1)
def impl_Three_item.ptr (A2 A3 : Option Addr) (n : Nat) (r : Int) : Option Addr := if r < 0 then none else if r < (n : Int) then A2.map (·.add (r.toNat * 3)) else A3.map (·.add ((wrap64 (r - (n : Int))).toNat * 3))
theorem impl_Three_item.ptr_nil {A2 A3 : Option Addr} {n : Nat} {r : Int} (h : decide (r < 0) = true) : impl_Three_item.ptr A2 A3 n r = none := if_pos (of_decide_eq_true h)
theorem impl_Three_item.ptr_small {g : Nat} {A3 : Option Addr} {n : Nat} {r : Int} (h : decide (r < 0) = false) (h1 : decide (r < (n : Int)) = true) : impl_Three_item.ptr (some ⟨g, 0, none⟩) A3 n r = some ⟨g, r.toNat * 3, none⟩ := by
 refine (if_neg (of_decide_eq_false h)).trans ((if_pos (of_decide_eq_true h1)).trans ?_)
 rw [Option.map_some, add_plain]
theorem impl_Three_item.ptr_main {A2 : Option Addr} {g : Nat} {n : Nat} {r : Int} (h : decide (r < 0) = false) (h1 : decide (r < (n : Int)) = false) : impl_Three_item.ptr A2 (some ⟨g, 0, none⟩) n r = some ⟨g, (wrap64 (r - (n : Int))).toNat * 3, none⟩ := by
 refine (if_neg (of_decide_eq_false h)).trans ((if_neg (of_decide_eq_false h1)).trans ?_)
 rw [Option.map_some, add_plain]
theorem impl_Three_item.ptr_nil' {A2 A3 : Option Addr} {n : Nat} {r : Int} (h : decide (0 ≤ r) = false) : impl_Three_item.ptr A2 A3 n r = none := impl_Three_item.ptr_nil (decide_eq_true (by have := of_decide_eq_false h; omega))
theorem impl_Three_item.ptr_small' {g : Nat} {A3 : Option Addr} {n : Nat} {r : Int} (h : decide (0 ≤ r) = true) (h1 : decide (r < (n : Int)) = true) : impl_Three_item.ptr (some ⟨g, 0, none⟩) A3 n r = some ⟨g, r.toNat * 3, none⟩ := impl_Three_item.ptr_small (decide_eq_false (by have := of_decide_eq_true h; omega)) h1
theorem impl_Three_item.ptr_main' {A2 : Option Addr} {g : Nat} {n : Nat} {r : Int} (h : decide (0 ≤ r) = true) (h1 : decide (r < (n : Int)) = false) : impl_Three_item.ptr A2 (some ⟨g, 0, none⟩) n r = some ⟨g, (wrap64 (r - (n : Int))).toNat * 3, none⟩ := impl_Three_item.ptr_main (decide_eq_false (by have := of_decide_eq_true h; omega)) h1
theorem impl_itemAt.idx_lt (key : ByteArray) : ∀ (l : List S95) (i : Nat), impl_itemAt.idx key l i < ((i + l.length : Nat) : Int) ∧ (impl_itemAt.idx key l i = -1 ∨ 0 ≤ impl_itemAt.idx key l i)
 | [], i => ⟨by simp [impl_itemAt.idx]; omega, .inl rfl⟩
 | x :: r, i => by
  rw [impl_itemAt.idx]
  by_cases c : x.f0.toList = key.toList
  ·rw [if_pos c]; simp only [List.length_cons]; omega
  ·rw [if_neg c]
   have := impl_itemAt.idx_lt key r (i + 1)
   simp only [List.length_cons]
   omega
set_option maxHeartbeats 4000000 in
set_option maxRecDepth 100000 in
theorem impl_Three_item.calls (g : Nat) (a0 b0 : Int) (x4 : Value) (A2 : Option Addr) (c2 : Nat) (l2 : List S95) (A3 : Option Addr) (c3 : Nat) (l3 : List S95) (a1 : ByteArray) (r : Int) (w : World) (hr2 : Kd.C k95 w A2 l2.length l2) (hc2 : l2.length ≤ c2) (hr3 : Kd.C k95 w A3 l3.length l3) (hc3 : l3.length ≤ c3) (hb : w.heap[g]? = some (.cells #[.int .i64 a0, .int .i64 b0, .slice A2 l2.length c2, .slice A3 l3.length c3, x4] 32 (0, 0))) (h : impl_Three_item.f l2 l3 a1 = some r) :
  Calls Try.prog 61 #[.pointer (some ⟨g, 0, none⟩), .string a1] w fun e w' => e = .returned (.pointer (impl_Three_item.ptr A2 A3 l2.length r)) ∧ Below w.heap.size w w' := by
 have e1 : impl_itemAt.f l2 a1 = some (impl_itemAt.idx a1 l2 0) := rfl
 have e2 : impl_itemAt.f l3 a1 = some (impl_itemAt.idx a1 l3 0) := rfl
 have q1 := impl_itemAt.idx_lt a1 l2 0
 have q2 := impl_itemAt.idx_lt a1 l3 0
 have L2 : l2.length ≤ 9223372036854775807 := hr2.2.1
 have L3 : l3.length ≤ 9223372036854775807 := hr3.2.1
 have HB := Aside0.mk hb
 have HR2 := Aside0.mk hr2
 have HC2 := Aside0.mk hc2
 have HR3 := Aside0.mk hr3
 have HC3 := Aside0.mk hc3
 have hu45 := Try.underlying32
 have k0 : w.cell? ⟨g, 2, none⟩ = some (.slice A2 l2.length c2) := blk_cell hb 2
 unfold impl_Three_item.f at h
 rw [e1, Option.bind_some] at h
 obtain ⟨K1, hK1⟩ : ∃ K1, impl_itemAt.idx a1 l2 0 = K1 := ⟨_, rfl⟩
 rw [hK1] at h e1 q1
 clear hb hr2 hc2 hr3 hc3
 by_cases c1 : 0 ≤ K1
 ·rw [if_pos c1] at h
  obtain rfl := Option.some.inj h
  clear h
  have hlt : K1 < (l2.length : Int) := by have := q1.1; omega
  obtain ⟨ad, hA, _⟩ := at_T95 HR2.out K1 c1 hlt
  subst hA
  have hp : impl_Three_item.ptr (some ad) A3 l2.length K1 = some (ad.add (K1.toNat * 3)) := by
   unfold impl_Three_item.ptr
   rw [if_neg (by omega), if_pos hlt]; rfl
  rw [hp]
  have HE := Aside0.mk e1
  have d1 : decide (0 ≤ K1) = true := decide_eq_true c1
  replace c1 := eq_true c1
  replace hlt := eq_true hlt
  clear e1 e2 q1 q2 hK1 hp
  go_enter Try.func61, Try.ntmps61
  go_wp2_with fail
  refine (impl_itemAt.calls _ _ _ _ _ _ HR2.out HC2.out HE.out).mono ?_
  rintro e w1 ⟨rfl, hb1⟩
  have HB1 := Aside0.mk hb1
  have k1 : w1.cell? ⟨g, 2, none⟩ = some (.slice (some ad) l2.length c2) := blk_cell (blk_below HB.out hb1) 2
  clear hb1
  go_wp2
  go_ret
  exact ⟨rfl, HB1.out⟩
 ·rw [if_neg c1, e2, Option.bind_some] at h
  obtain ⟨K2, hK2⟩ : ∃ K2, impl_itemAt.idx a1 l3 0 = K2 := ⟨_, rfl⟩
  rw [hK2] at h e2 q2
  have k00 : w.cell? ⟨g, 3, none⟩ = some (.slice A3 l3.length c3) := blk_cell HB.out 3
  have d1 : decide (0 ≤ K1) = false := decide_eq_false c1
  by_cases c2' : 0 ≤ K2
  ·rw [if_pos c2'] at h
   obtain rfl := Option.some.inj h
   clear h
   have hlt : K2 < (l3.length : Int) := by have := q2.1; omega
   obtain ⟨ad, hA, _⟩ := at_T95 HR3.out K2 c2' hlt
   subst hA
   have hp : impl_Three_item.ptr A2 (some ad) l2.length ((l2.length : Int) + K2) = some (ad.add (K2.toNat * 3)) := by
    unfold impl_Three_item.ptr
    rw [if_neg (by omega), if_neg (by omega), show wrap64 ((l2.length : Int) + K2 - (l2.length : Int)) = K2 by unfold wrap64; omega]; rfl
   rw [hp]
   have HE := Aside0.mk e1
   have HE2 := Aside0.mk e2
   have d2 : decide (0 ≤ K2) = true := decide_eq_true c2'
   replace c2' := eq_true c2'
   replace hlt := eq_true hlt
   clear e1 e2 q1 q2 hK1 hK2 hp c1
   go_enter Try.func61, Try.ntmps61
   go_wp2_with fail
   refine (impl_itemAt.calls _ _ _ _ _ _ HR2.out HC2.out HE.out).mono ?_
   rintro e w1 ⟨rfl, hb1⟩
   have HB1 := Aside0.mk hb1
   have k1 : w1.cell? ⟨g, 2, none⟩ = some (.slice A2 l2.length c2) := blk_cell (blk_below HB.out hb1) 2
   have k11 : w1.cell? ⟨g, 3, none⟩ = some (.slice (some ad) l3.length c3) := blk_cell (blk_below HB.out hb1) 3
   clear hb1
   go_wp2_with fail
   refine (impl_itemAt.calls _ _ _ _ _ _ (Kd.C_below HR3.out HB1.out) HC3.out HE2.out).mono ?_
   rintro e w2 ⟨rfl, hb2⟩
   have HB2 := Aside0.mk (below_step HB1.out hb2)
   have k2 : w2.cell? ⟨g, 3, none⟩ = some (.slice (some ad) l3.length c3) := blk_cell (blk_below HB.out HB2.out) 3
   clear hb2
   go_wp2
   go_ret
   exact ⟨rfl, HB2.out⟩
  ·rw [if_neg c2'] at h
   obtain rfl := Option.some.inj h
   clear h
   have hp : impl_Three_item.ptr A2 A3 l2.length (-1) = none := by
    unfold impl_Three_item.ptr
    rw [if_pos (by omega)]
   rw [hp]
   have HE := Aside0.mk e1
   have HE2 := Aside0.mk e2
   have d2 : decide (0 ≤ K2) = false := decide_eq_false c2'
   clear e1 e2 q1 q2 hK1 hK2 hp c1 c2'
   go_enter Try.func61, Try.ntmps61
   go_wp2_with fail
   refine (impl_itemAt.calls _ _ _ _ _ _ HR2.out HC2.out HE.out).mono ?_
   rintro e w1 ⟨rfl, hb1⟩
   have HB1 := Aside0.mk hb1
   have k1 : w1.cell? ⟨g, 2, none⟩ = some (.slice A2 l2.length c2) := blk_cell (blk_below HB.out hb1) 2
   have k11 : w1.cell? ⟨g, 3, none⟩ = some (.slice A3 l3.length c3) := blk_cell (blk_below HB.out hb1) 3
   clear hb1
   go_wp2_with fail
   refine (impl_itemAt.calls _ _ _ _ _ _ (Kd.C_below HR3.out HB1.out) HC3.out HE2.out).mono ?_
   rintro e w2 ⟨rfl, hb2⟩
   have HB2 := Aside0.mk (below_step HB1.out hb2)
   clear hb2
   go_wp2
   go_ret
   exact ⟨rfl, HB2.out⟩
end Go.Proofs.Ytdeijmofaapgdaa.G

namespace Go.Proofs.Ytdeijmofaapgdaa.G
open Go.RowKit Go.Proofs.YtdeijmofaapgdaaW.PrintWords Go.Proofs.YtdeijmofaapgdaaW.PrintLast Go.Proofs.YtdeijmofaapgdaaW.PrintMore Go.Proofs.Ytdeijmofaapgdaa.Sh
attribute [local go_sem] max2_int min2_int max_two min_two max_three min_three max_four min_four
set_option linter.unusedVariables false
set_option linter.unusedSimpArgs false
open Go.Proofs.Ytdeijmofaapgdaa.Mm
def impl_Get.f (k : Nat) (a0_0 : Int) (a0_1 : Int) (l0_2 : List (S95)) (l0_3 : List (S95)) (l0_4 : List Int) (a1 : ByteArray) : Option (Int × Int × (List (S95)) × (List (S95)) × List Int × ByteArray × Bool) := (impl_ThreeOk.f k a0_0 a0_1 l0_2 l0_3 l0_4).bind fun t579 => (if t579 = true then ((impl_copyThree.f a0_0 a0_1 l0_2 l0_3 l0_4).bind fun bt580 => ((impl_Three_item.f bt580.2.2.1 bt580.2.2.2.1 a1).bind fun t592 => (if t592 < 0 then (some (bt580.1, bt580.2.1, bt580.2.2.1, bt580.2.2.2.1, bt580.2.2.2.2, (⟨#[]⟩ : ByteArray), false)) else (if t592 < (bt580.2.2.1.length : Int) then (if 0 ≤ t592 then ((some (bt580.2.2.1.set (t592 : Int).toNat (⟨(rd_T95 bt580.2.2.1 t592).f0, (rd_T95 bt580.2.2.1 t592).f1, mn 3 (wrap64 (((rd_T95 bt580.2.2.1 t592).f2) + 1))⟩ : S95) : List (S95))).bind fun y593 => (some (bt580.1, bt580.2.1, y593, bt580.2.2.2.1, bt580.2.2.2.2, (rd_T95 y593 t592).f1, true))) else (none)) else (if 0 ≤ (wrap64 (t592 - (bt580.2.2.1.length : Int))) then (if (wrap64 (t592 - (bt580.2.2.1.length : Int))) < (bt580.2.2.2.1.length : Int) then ((some (bt580.2.2.2.1.set ((wrap64 (t592 - (bt580.2.2.1.length : Int))) : Int).toNat (⟨(rd_T95 bt580.2.2.2.1 (wrap64 (t592 - (bt580.2.2.1.length : Int)))).f0, (rd_T95 bt580.2.2.2.1 (wrap64 (t592 - (bt580.2.2.1.length : Int)))).f1, mn 3 (wrap64 (((rd_T95 bt580.2.2.2.1 (wrap64 (t592 - (bt580.2.2.1.length : Int)))).f2) + 1))⟩ : S95) : List (S95))).bind fun y595 => (some (bt580.1, bt580.2.1, bt580.2.2.1, y595, bt580.2.2.2.2, (rd_T95 y595 (wrap64 (t592 - (bt580.2.2.1.length : Int)))).f1, true))) else (none)) else (none)))))) else (some (0, 0, ([] : List (S95)), ([] : List (S95)), ([] : List Int), (⟨#[]⟩ : ByteArray), false)))
theorem impl_Get.mono : ∀ a0 a1 a2 a3 a4 a5 k, LeO (impl_Get.f k a0 a1 a2 a3 a4 a5) (impl_Get.f (k + 1) a0 a1 a2 a3 a4 a5) := by
 intro a0 a1 a2 a3 a4 a5 k
 unfold impl_Get.f
 repeat' first | (with_reducible first | exact impl_ThreeOk.mono _ _ _ _ _ _ | exact LeO.refl _ | exact LeO.none _ | refine LeO.ite ?_ ?_ | refine LeO.bind ?_ (fun _ => ?_)) | exact impl_ThreeOk.mono _ _ _ _ _ _ | exact LeO.none _ | refine LeO.ite ?_ ?_ | refine LeO.bind ?_ (fun _ => ?_)
def impl_Get.T8 : Bool × List (List Nat × List Nat) := (true, [([], []), ([], []), ([1], [1]), ([2], [2]), ([3], [3]), ([0, 0], [0]), ([4, 5, 0, 1, 2, 3, 4, 5], [4]), ([6, 0, 1, 2, 3, 4, 5, 6], [])])
def impl_Get.B8 : List Nat := [0, 0, 2, 6, 14, 1, 63, 127]
theorem impl_Get.tab8 : rtab .any (opsOf Try.f28 8) = impl_Get.T8 := by kernel_rfl
theorem impl_Get.bits8 : waitsOk impl_Get.T8.2 impl_Get.B8 = true := by kernel_rfl
set_option maxHeartbeats 8000000 in
set_option maxRecDepth 100000 in
theorem impl_Get.calls (k : Nat) (a0_0 : Int) (a0_1 : Int) (A0_2 : Option Addr) (c0_2 : Nat) (l0_2 : List (S95)) (A0_3 : Option Addr) (c0_3 : Nat) (l0_3 : List (S95)) (A0_4 : Option Addr) (c0_4 : Nat) (l0_4 : List Int) (a1 : ByteArray) (r1 : Int) (r2 : Int) (r3 : List (S95)) (r4 : List (S95)) (r5 : List Int) (r6 : ByteArray) (r7 : Bool) (w : World) (hr0_2 : Kd.C k95 w A0_2 l0_2.length l0_2) (hc0_2 : l0_2.length ≤ c0_2) (hr0_3 : Kd.C k95 w A0_3 l0_3.length l0_3) (hc0_3 : l0_3.length ≤ c0_3) (hr0_4 : Kd.C (Kd.int .i64) w A0_4 l0_4.length l0_4) (hc0_4 : l0_4.length ≤ c0_4) (h : impl_Get.f k a0_0 a0_1 l0_2 l0_3 l0_4 a1 = some (r1, r2, r3, r4, r5, r6, r7)) :
  Calls Try.prog 28 #[.agg #[.int .i64 a0_0, .int .i64 a0_1, .slice A0_2 l0_2.length c0_2, .slice A0_3 l0_3.length c0_3, .slice A0_4 l0_4.length c0_4], .string a1] w fun e w' => ∃ v2_ v3_ v4_ : Value, e = .returned (.tuple #[.agg #[.int .i64 r1, .int .i64 r2, v2_, v3_, v4_], .string r6, .bool r7]) ∧ Mem w [] w' [rowR k95 95 v2_ r3, rowR k95 95 v3_ r4, rowR (Kd.int .i64) 3 v4_ r5] := by
 have hu32 := Try.underlying32
 have HR0_2 := Aside0.mk hr0_2
 have HC0_2 := Aside0.mk hc0_2
 clear hr0_2 hc0_2
 have HR0_3 := Aside0.mk hr0_3
 have HC0_3 := Aside0.mk hc0_3
 clear hr0_3 hc0_3
 have HR0_4 := Aside0.mk hr0_4
 have HC0_4 := Aside0.mk hc0_4
 clear hr0_4 hc0_4
 have HM := Mem.nil w
 have H := h
 clear h
 unfold impl_Get.f at H
 go_enter Try.func28, Try.ntmps28
 replace H := BN H; obtain ⟨t579, A6, H⟩ := H
 replace H := IB H
 rcases H with ⟨c8, H⟩ | ⟨c8, H⟩
 ·subst c8
  replace H := BN H; obtain ⟨⟨t580, t581, t582, t585, t588⟩, A10, H⟩ := H
  replace H := BN H; obtain ⟨t592, A18, H⟩ := H
  replace H := IT H; rcases H with ⟨c20, H⟩ | ⟨c20, H⟩
  ·have c20b0 : decide (t592 < 0) = true := decide_eq_true c20
   clear c20
   simp only [Option.some.injEq, Prod.mk.injEq] at H
   obtain ⟨rfl, rfl, rfl, rfl, rfl, rfl, rfl⟩ := H
   go_wp2_with (first | ((with_reducible refine gate_dst (N := 2) rfl ?_); refine pB 2 32 [.int .i64 a0_0, .int .i64 a0_1, .slice A0_2 l0_2.length c0_2, .slice A0_3 l0_3.length c0_3, .slice A0_4 l0_4.length c0_4] HM rfl ?_; clear HM; intro gb577 w3 HM) | ((with_reducible refine gate_dst (N := 4) rfl ?_); refine pB 4 32 [.int .i64 0, .int .i64 0, .slice none 0 0, .slice none 0 0, .slice none 0 0] HM rfl ?_; clear HM; intro gb578 w4 HM; obtain ⟨hcz5_0, hcz5_1, hcz5_2, hcz5_3, hcz5_4, hfz5_0, hfz5_1, hfz5_2, hfz5_3, hfz5_4⟩ := bk5 (HM.bx 0 rfl)) | ((with_reducible refine gate_callee (f := 27) rfl ?_); refine pC (some 10) rfl #[.agg #[.int .i64 a0_0, .int .i64 a0_1, .slice A0_2 l0_2.length c0_2, .slice A0_3 l0_3.length c0_3, .slice A0_4 l0_4.length c0_4]] rfl Try.func27 (impl_ThreeOk.calls k a0_0 a0_1 _ _ l0_2 _ _ l0_3 _ _ l0_4 true _ (HM.came HR0_2.out) HC0_2.out (HM.came HR0_3.out) HC0_3.out (HM.came HR0_4.out) HC0_4.out A6.out) ?_; rintro e w7 ⟨rfl, hR⟩; refine ⟨_, rfl, ?_⟩; replace HM := HM.call hR; clear hR; obtain ⟨hcz9_0, hcz9_1, hcz9_2, hcz9_3, hcz9_4, hfz9_0, hfz9_1, hfz9_2, hfz9_3, hfz9_4⟩ := bk5 (HM.bx 0 rfl)) | ((with_reducible refine gate_callee (f := 49) rfl ?_); refine pC (some 14) rfl #[.agg #[.int .i64 a0_0, .int .i64 a0_1, .slice A0_2 l0_2.length c0_2, .slice A0_3 l0_3.length c0_3, .slice A0_4 l0_4.length c0_4]] rfl Try.func49 (impl_copyThree.calls a0_0 a0_1 _ _ l0_2 _ _ l0_3 _ _ l0_4 t580 t581 t582 t585 t588 _ (HM.came HR0_2.out) HC0_2.out (HM.came HR0_3.out) HC0_3.out (HM.came HR0_4.out) HC0_4.out A10.out) ?_; rintro e w11 ⟨v583, v586, v589, rfl, hR⟩; refine ⟨_, rfl, ?_⟩; replace HM := HM.call hR; clear hR) | ((with_reducible refine gate_dst (N := 7) rfl ?_); refine pB 7 32 [.int .i64 0, .int .i64 0, .slice none 0 0, .slice none 0 0, .slice none 0 0] HM rfl ?_; clear HM; intro gb591 w12 HM; obtain ⟨Xo13, ko13, eo13⟩ := HM.rdR 2 rfl; subst eo13; obtain ⟨Xo14, ko14, eo14⟩ := HM.rdR 3 rfl; subst eo14; obtain ⟨Xo15, ko15, eo15⟩ := HM.rdR 4 rfl; subst eo15) | ((with_reducible refine gate_st (p := 7) rfl ?_); refine pS 5 7 0 [.int .i64 t580, .int .i64 t581, .slice Xo13 t582.length ko13, .slice Xo14 t585.length ko14, .slice Xo15 t588.length ko15] HM rfl rfl ?_; clear HM; intro w16 HM; obtain ⟨hcz17_0, hcz17_1, hcz17_2, hcz17_3, hcz17_4, hfz17_0, hfz17_1, hfz17_2, hfz17_3, hfz17_4⟩ := bk5 (HM.bx 5 rfl)) | ((with_reducible refine gate_callee (f := 61) rfl ?_); refine pC (some 16) rfl #[.pointer (some ⟨gb591, 0, none⟩), .string a1] rfl Try.func61 (impl_Three_item.calls gb591 t580 t581 (.slice Xo15 t588.length ko15) Xo13 ko13 t582 Xo14 ko14 t585 a1 t592 _ (HM.CR 2 rfl).2.2 (HM.CR 2 rfl).2.1 (HM.CR 3 rfl).2.2 (HM.CR 3 rfl).2.1 (HM.bx 5 rfl) A18.out) ?_; rintro e w19 ⟨rfl, hb⟩; refine ⟨_, rfl, ?_⟩; replace HM := HM.below hb; clear hb; (first | rw [impl_Three_item.ptr_nil (by assumption)] | rw [impl_Three_item.ptr_small (by assumption) (by assumption)] | rw [impl_Three_item.ptr_main (by assumption) (by assumption)] | rw [impl_Three_item.ptr_nil' (by assumption)] | rw [impl_Three_item.ptr_small' (by assumption) (by assumption)] | rw [impl_Three_item.ptr_main' (by assumption) (by assumption)]); obtain ⟨hcz21_0, hcz21_1, hcz21_2, hcz21_3, hcz21_4, hfz21_0, hfz21_1, hfz21_2, hfz21_3, hfz21_4⟩ := bk5 (HM.bx 5 rfl)) | ((with_reducible refine gate_st (p := 4) rfl ?_); refine pS 1 4 0 [.int .i64 t580, .int .i64 t581, .slice Xo13 t582.length ko13, .slice Xo14 t585.length ko14, .slice Xo15 t588.length ko15] HM rfl rfl ?_; clear HM; intro w22 HM))
   refine bodyPost_ret (results_ctt rfl _ _ gb578 32 #[.int .i64 t580, .int .i64 t581, .slice Xo13 t582.length ko13, .slice Xo14 t585.length ko14, .slice Xo15 t588.length ko15] (0, 0) _ rfl (HM.bx 1 rfl) Try.underlying32 rfl (by kernel_rfl)) rfl ?_
   exact ⟨_, _, _, ER, (MD HM).pick [2, 3, 4]⟩
  ·have c20b0 : decide (t592 < 0) = false := decide_eq_false c20
   clear c20
   replace H := IT H; rcases H with ⟨c24, H⟩ | ⟨c24, H⟩
   ·have c24b0 : decide (t592 < (t582.length : Int)) = true := decide_eq_true c24
    clear c24
    replace H := GD H; obtain ⟨c25, H⟩ := H
    have c25b0 : decide (0 ≤ t592) = true := decide_eq_true c25
    clear c25
    obtain ⟨ji28, hji28⟩ : ∃ j_ : Int, (mn 3 (wrap64 (((rd_T95 t582 t592).f2) + 1))) = j_ := ⟨_, rfl⟩
    (first | rw [hji28] at H | simp only [hji28] at H | skip)
    have hji28_ : (if (wrap64 (((rd_T95 t582 t592).f2) + 1)) < 3 then (wrap64 (((rd_T95 t582 t592).f2) + 1)) else 3) = ji28 := hji28
    (try (have hji28h : ji28 ≤ 3 := by (rw [← hji28]; unfold mn; (repeat' split) <;> omega)))
    replace H := BLt H; obtain ⟨y593, Ny593, H⟩ := H
    replace Ny593 := Aside0.mk Ny593
    try go_wp2_with (first | ((with_reducible refine gate_dst (N := 2) rfl ?_); refine pB 2 32 [.int .i64 a0_0, .int .i64 a0_1, .slice A0_2 l0_2.length c0_2, .slice A0_3 l0_3.length c0_3, .slice A0_4 l0_4.length c0_4] HM rfl ?_; clear HM; intro gb577 w3 HM) | ((with_reducible refine gate_dst (N := 4) rfl ?_); refine pB 4 32 [.int .i64 0, .int .i64 0, .slice none 0 0, .slice none 0 0, .slice none 0 0] HM rfl ?_; clear HM; intro gb578 w4 HM; obtain ⟨hcz5_0, hcz5_1, hcz5_2, hcz5_3, hcz5_4, hfz5_0, hfz5_1, hfz5_2, hfz5_3, hfz5_4⟩ := bk5 (HM.bx 0 rfl)) | ((with_reducible refine gate_callee (f := 27) rfl ?_); refine pC (some 10) rfl #[.agg #[.int .i64 a0_0, .int .i64 a0_1, .slice A0_2 l0_2.length c0_2, .slice A0_3 l0_3.length c0_3, .slice A0_4 l0_4.length c0_4]] rfl Try.func27 (impl_ThreeOk.calls k a0_0 a0_1 _ _ l0_2 _ _ l0_3 _ _ l0_4 true _ (HM.came HR0_2.out) HC0_2.out (HM.came HR0_3.out) HC0_3.out (HM.came HR0_4.out) HC0_4.out A6.out) ?_; rintro e w7 ⟨rfl, hR⟩; refine ⟨_, rfl, ?_⟩; replace HM := HM.call hR; clear hR; obtain ⟨hcz9_0, hcz9_1, hcz9_2, hcz9_3, hcz9_4, hfz9_0, hfz9_1, hfz9_2, hfz9_3, hfz9_4⟩ := bk5 (HM.bx 0 rfl)) | ((with_reducible refine gate_callee (f := 49) rfl ?_); refine pC (some 14) rfl #[.agg #[.int .i64 a0_0, .int .i64 a0_1, .slice A0_2 l0_2.length c0_2, .slice A0_3 l0_3.length c0_3, .slice A0_4 l0_4.length c0_4]] rfl Try.func49 (impl_copyThree.calls a0_0 a0_1 _ _ l0_2 _ _ l0_3 _ _ l0_4 t580 t581 t582 t585 t588 _ (HM.came HR0_2.out) HC0_2.out (HM.came HR0_3.out) HC0_3.out (HM.came HR0_4.out) HC0_4.out A10.out) ?_; rintro e w11 ⟨v583, v586, v589, rfl, hR⟩; refine ⟨_, rfl, ?_⟩; replace HM := HM.call hR; clear hR) | ((with_reducible refine gate_dst (N := 7) rfl ?_); refine pB 7 32 [.int .i64 0, .int .i64 0, .slice none 0 0, .slice none 0 0, .slice none 0 0] HM rfl ?_; clear HM; intro gb591 w12 HM; obtain ⟨Xo13, ko13, eo13⟩ := HM.rdR 2 rfl; subst eo13; obtain ⟨Xo14, ko14, eo14⟩ := HM.rdR 3 rfl; subst eo14; obtain ⟨Xo15, ko15, eo15⟩ := HM.rdR 4 rfl; subst eo15) | ((with_reducible refine gate_st (p := 7) rfl ?_); refine pS 5 7 0 [.int .i64 t580, .int .i64 t581, .slice Xo13 t582.length ko13, .slice Xo14 t585.length ko14, .slice Xo15 t588.length ko15] HM rfl rfl ?_; clear HM; intro w16 HM; obtain ⟨hcz17_0, hcz17_1, hcz17_2, hcz17_3, hcz17_4, hfz17_0, hfz17_1, hfz17_2, hfz17_3, hfz17_4⟩ := bk5 (HM.bx 5 rfl)) | ((with_reducible refine gate_callee (f := 61) rfl ?_); refine pC (some 16) rfl #[.pointer (some ⟨gb591, 0, none⟩), .string a1] rfl Try.func61 (impl_Three_item.calls gb591 t580 t581 (.slice Xo15 t588.length ko15) Xo13 ko13 t582 Xo14 ko14 t585 a1 t592 _ (HM.CR 2 rfl).2.2 (HM.CR 2 rfl).2.1 (HM.CR 3 rfl).2.2 (HM.CR 3 rfl).2.1 (HM.bx 5 rfl) A18.out) ?_; rintro e w19 ⟨rfl, hb⟩; refine ⟨_, rfl, ?_⟩; replace HM := HM.below hb; clear hb; have pf27 : 0 ≤ (t592 : Int) := of_decide_eq_true AS; have qf27 : (t592 : Int) < ((t582.length : Int) : Int) := of_decide_eq_true AS; obtain ⟨gof27, eff27⟩ := HM.form 2 rfl (by have h_ := (HM.CR 2 rfl).1; omega); subst eff27; clear pf27 qf27; (first | rw [impl_Three_item.ptr_nil (by assumption)] | rw [impl_Three_item.ptr_small (by assumption) (by assumption)] | rw [impl_Three_item.ptr_main (by assumption) (by assumption)] | rw [impl_Three_item.ptr_nil' (by assumption)] | rw [impl_Three_item.ptr_small' (by assumption) (by assumption)] | rw [impl_Three_item.ptr_main' (by assumption) (by assumption)]); obtain ⟨hcz23_0, hcz23_1, hcz23_2, hcz23_3, hcz23_4, hfz23_0, hfz23_1, hfz23_2, hfz23_3, hfz23_4⟩ := bk5 (HM.bx 5 rfl); have p26 : 0 ≤ (t592 : Int) := of_decide_eq_true AS; have q26 : (t592 : Int) < ((t582.length : Int) : Int) := of_decide_eq_true AS; obtain ⟨hcc26, hfr26⟩ := HM.el 2 rfl z95 (t592 : Int) p26 (by have h_ := (HM.CR 2 rfl).1; omega) [.string ((rd_T95 t582 t592).f0), .string ((rd_T95 t582 t592).f1), .int .i64 ((rd_T95 t582 t592).f2)] (fun _ _ h => k95_openM h); have hx26_0 : w19.cell? ⟨gof27, (t592 : Int).toNat * 3, none⟩ = some (.string ((rd_T95 t582 t592).f0)) := (by have h_ := hcc26 0 _ rfl; first | exact h_ | (simp only [show (k95).sz = 3 from rfl, Nat.mul_one, Nat.add_zero] at h_; exact h_) | simpa using h_); have hf26_0 : w19.frozen? ⟨gof27, (t592 : Int).toNat * 3, none⟩ = false := (by have h_ := hfr26 0; first | exact h_ | (simp only [show (k95).sz = 3 from rfl, Nat.mul_one, Nat.add_zero] at h_; exact h_) | simpa using h_); have hx26_1 : w19.cell? ⟨gof27, (t592 : Int).toNat * 3 + 1, none⟩ = some (.string ((rd_T95 t582 t592).f1)) := (by have h_ := hcc26 1 _ rfl; first | exact h_ | (simp only [show (k95).sz = 3 from rfl, Nat.mul_one, Nat.add_zero] at h_; exact h_) | simpa using h_); have hf26_1 : w19.frozen? ⟨gof27, (t592 : Int).toNat * 3 + 1, none⟩ = false := (by have h_ := hfr26 1; first | exact h_ | (simp only [show (k95).sz = 3 from rfl, Nat.mul_one, Nat.add_zero] at h_; exact h_) | simpa using h_); have hx26_2 : w19.cell? ⟨gof27, (t592 : Int).toNat * 3 + 2, none⟩ = some (.int .i64 ((rd_T95 t582 t592).f2)) := (by have h_ := hcc26 2 _ rfl; first | exact h_ | (simp only [show (k95).sz = 3 from rfl, Nat.mul_one, Nat.add_zero] at h_; exact h_) | simpa using h_); have hf26_2 : w19.frozen? ⟨gof27, (t592 : Int).toNat * 3 + 2, none⟩ = false := (by have h_ := hfr26 2; first | exact h_ | (simp only [show (k95).sz = 3 from rfl, Nat.mul_one, Nat.add_zero] at h_; exact h_) | simpa using h_); clear hcc26 hfr26; replace p26 := eq_true p26; replace q26 := eq_true q26) | ((with_reducible refine gate_st (p := 28) rfl ?_); refine pPR 2 28 (t592 : Int) 2 [.int .i64 ji28] k95 95 t582 (⟨(rd_T95 t582 t592).f0, (rd_T95 t582 t592).f1, ji28⟩ : S95) z95 [.string ((rd_T95 t582 t592).f0), .string ((rd_T95 t582 t592).f1), .int .i64 ((rd_T95 t582 t592).f2)] HM rfl rfl (of_decide_eq_true AS) (by have h_ : (t592 : Int) < ((t582.length : Int) : Int) := of_decide_eq_true AS; have e_ := (HM.CR 2 rfl).1; omega) (fun _ _ h => k95_openM h) (k95_mkM _ _ _ (⟨(rd_T95 t582 t592).f0, (rd_T95 t582 t592).f1, ji28⟩ : S95)) ?_; clear HM; intro w29 HM; replace HM := HM.nm 2 rfl Ny593.out; have p30 : 0 ≤ (t592 : Int) := of_decide_eq_true AS; have q30 : (t592 : Int) < ((t582.length : Int) : Int) := of_decide_eq_true AS; obtain ⟨hcc30, hfr30⟩ := HM.el 2 rfl z95 (t592 : Int) p30 (by have h_ := (HM.CR 2 rfl).1; omega) [.string ((rd_T95 y593 t592).f0), .string ((rd_T95 y593 t592).f1), .int .i64 ((rd_T95 y593 t592).f2)] (fun _ _ h => k95_openM h); have hx30_0 : w29.cell? ⟨gof27, (t592 : Int).toNat * 3, none⟩ = some (.string ((rd_T95 y593 t592).f0)) := (by have h_ := hcc30 0 _ rfl; first | exact h_ | (simp only [show (k95).sz = 3 from rfl, Nat.mul_one, Nat.add_zero] at h_; exact h_) | simpa using h_); have hf30_0 : w29.frozen? ⟨gof27, (t592 : Int).toNat * 3, none⟩ = false := (by have h_ := hfr30 0; first | exact h_ | (simp only [show (k95).sz = 3 from rfl, Nat.mul_one, Nat.add_zero] at h_; exact h_) | simpa using h_); have hx30_1 : w29.cell? ⟨gof27, (t592 : Int).toNat * 3 + 1, none⟩ = some (.string ((rd_T95 y593 t592).f1)) := (by have h_ := hcc30 1 _ rfl; first | exact h_ | (simp only [show (k95).sz = 3 from rfl, Nat.mul_one, Nat.add_zero] at h_; exact h_) | simpa using h_); have hf30_1 : w29.frozen? ⟨gof27, (t592 : Int).toNat * 3 + 1, none⟩ = false := (by have h_ := hfr30 1; first | exact h_ | (simp only [show (k95).sz = 3 from rfl, Nat.mul_one, Nat.add_zero] at h_; exact h_) | simpa using h_); have hx30_2 : w29.cell? ⟨gof27, (t592 : Int).toNat * 3 + 2, none⟩ = some (.int .i64 ((rd_T95 y593 t592).f2)) := (by have h_ := hcc30 2 _ rfl; first | exact h_ | (simp only [show (k95).sz = 3 from rfl, Nat.mul_one, Nat.add_zero] at h_; exact h_) | simpa using h_); have hf30_2 : w29.frozen? ⟨gof27, (t592 : Int).toNat * 3 + 2, none⟩ = false := (by have h_ := hfr30 2; first | exact h_ | (simp only [show (k95).sz = 3 from rfl, Nat.mul_one, Nat.add_zero] at h_; exact h_) | simpa using h_); clear hcc30 hfr30; replace p30 := eq_true p30; replace q30 := eq_true q30))
    have p594 : 0 ≤ (t592 : Int) := of_decide_eq_true AS
    have q594 : (t592 : Int) < (y593.length : Int) := (by have h_ : (t592 : Int) < ((t582.length : Int) : Int) := of_decide_eq_true AS; first | exact h_ | (simp only [Ny593.out, List.length_set] at h_ ⊢; exact h_))
    have ql594 : ((t592 : Int) < ((t582.length : Int) : Int)) = True := eq_true (of_decide_eq_true AS)
    obtain ⟨ad594, e594, hx594_0, hx594_1, hx594_2⟩ := at_T95 (HM.CR 2 rfl).2.2 t592 p594 q594
    obtain rfl := Option.some.inj e594
    (first | simp only [add_plain] at hx594_0 | simp only [add_at] at hx594_0 | simp only [Addr.add, Nat.zero_add] at hx594_0 | skip)
    (first | simp only [add_plain] at hx594_1 | simp only [add_at] at hx594_1 | simp only [Addr.add, Nat.zero_add] at hx594_1 | skip)
    (first | simp only [add_plain] at hx594_2 | simp only [add_at] at hx594_2 | simp only [Addr.add, Nat.zero_add] at hx594_2 | skip)
    replace p594 := eq_true p594
    replace q594 := eq_true q594
    refine RGN 8 [0, 1, 2, 3, 4, 5, 6, 7] (fun a0 b a w' => a = putSel a0 b [(0, 29, .agg #[.int .i64 t580, .int .i64 t581, .slice (some ⟨gof27, 0, none⟩) t582.length ko13, .slice Xo14 t585.length ko14, .slice Xo15 t588.length ko15]), (1, 30, .pointer (some ⟨gof27, (t592 : Int).toNat * 3, none⟩)), (2, 31, .pointer (some ⟨gof27, (t592 : Int).toNat * 3, none⟩)), (3, 32, .pointer (some ⟨gof27, (t592 : Int).toNat * 3 + 1, none⟩)), (4, 33, .string ((rd_T95 y593 t592).f1)), (6, 5, .string ((rd_T95 y593 t592).f1)), (7, 6, .bool true)] ∧ Mem w [] w' [box 32 gb577 [.int .i64 a0_0, .int .i64 a0_1, .slice A0_2 l0_2.length c0_2, .slice A0_3 l0_3.length c0_3, .slice A0_4 l0_4.length c0_4], sel (b 5) (box 32 gb578 [.int .i64 t580, .int .i64 t581, .slice (some ⟨gof27, 0, none⟩) t582.length ko13, .slice Xo14 t585.length ko14, .slice Xo15 t588.length ko15]) (box 32 gb578 [.int .i64 0, .int .i64 0, .slice none 0 0, .slice none 0 0, .slice none 0 0]), rowR k95 95 (.slice (some ⟨gof27, 0, none⟩) t582.length ko13) y593, rowR k95 95 (.slice Xo14 t585.length ko14) t585, rowR (Kd.int .i64) 3 (.slice Xo15 t588.length ko15) t588, box 32 gb591 [.int .i64 t580, .int .i64 t581, .slice (some ⟨gof27, 0, none⟩) t582.length ko13, .slice Xo14 t585.length ko14, .slice Xo15 t588.length ko15]]) impl_Get.tab8 impl_Get.bits8 ?_ ?_ ?_
    ·exact ⟨PS0' rfl _, (HM.drew).pick [0, 1, 2, 3, 4, 5]⟩
    ·clear HM
     refine steps_cons ?_ ?_
     ·rintro b a w ⟨ha, HM⟩ hb hon hoff
      refine ⟨_, rfl, fun K hK => ?_⟩
      obtain ⟨hcz33_0, hcz33_1, hcz33_2, hcz33_3, hcz33_4, hfz33_0, hfz33_1, hfz33_2, hfz33_3, hfz33_4⟩ := bk5 (HM.bx 5 rfl)
      have e7 := POF ha 7
      replace ha := Aside0.mk ha
      exact VL (.agg #[.int .i64 t580, .int .i64 t581, .slice (some ⟨gof27, 0, none⟩) t582.length ko13, .slice Xo14 t585.length ko14, .slice Xo15 t588.length ko15]) (hK.out _ _ ⟨PUT ha 0 hb, HM⟩)
     refine steps_cons ?_ ?_
     ·rintro b a w ⟨ha, HM⟩ hb hon hoff
      refine ⟨_, rfl, fun K hK => ?_⟩
      have e8 := POF ha 8
      replace ha := Aside0.mk ha
      exact VL (.pointer (some ⟨gof27, (t592 : Int).toNat * 3, none⟩)) (hK.out _ _ ⟨PUT ha 1 hb, HM⟩)
     refine steps_cons ?_ ?_
     ·rintro b a w ⟨ha, HM⟩ hb hon hoff
      refine ⟨_, rfl, fun K hK => ?_⟩
      have e30 := PON ha 1 (hon 1 (by kernel_rfl))
      replace ha := Aside0.mk ha
      exact VL (.pointer (some ⟨gof27, (t592 : Int).toNat * 3, none⟩)) (hK.out _ _ ⟨PUT ha 2 hb, HM⟩)
     refine steps_cons ?_ ?_
     ·rintro b a w ⟨ha, HM⟩ hb hon hoff
      refine ⟨_, rfl, fun K hK => ?_⟩
      have e31 := PON ha 2 (hon 2 (by kernel_rfl))
      replace ha := Aside0.mk ha
      exact VL (.pointer (some ⟨gof27, (t592 : Int).toNat * 3 + 1, none⟩)) (hK.out _ _ ⟨PUT ha 3 hb, HM⟩)
     refine steps_cons ?_ ?_
     ·rintro b a w ⟨ha, HM⟩ hb hon hoff
      refine ⟨_, rfl, fun K hK => ?_⟩
      have p594 : 0 ≤ (t592 : Int) := of_decide_eq_true AS
      have q594 : (t592 : Int) < (y593.length : Int) := (by have h_ : (t592 : Int) < ((t582.length : Int) : Int) := of_decide_eq_true AS; first | exact h_ | (simp only [Ny593.out, List.length_set] at h_ ⊢; exact h_))
      have ql594 : ((t592 : Int) < ((t582.length : Int) : Int)) = True := eq_true (of_decide_eq_true AS)
      obtain ⟨ad594, e594, hx594_0, hx594_1, hx594_2⟩ := at_T95 (HM.CR 2 rfl).2.2 t592 p594 q594
      obtain rfl := Option.some.inj e594
      (first | simp only [add_plain] at hx594_0 | simp only [add_at] at hx594_0 | simp only [Addr.add, Nat.zero_add] at hx594_0 | skip)
      (first | simp only [add_plain] at hx594_1 | simp only [add_at] at hx594_1 | simp only [Addr.add, Nat.zero_add] at hx594_1 | skip)
      (first | simp only [add_plain] at hx594_2 | simp only [add_at] at hx594_2 | simp only [Addr.add, Nat.zero_add] at hx594_2 | skip)
      replace p594 := eq_true p594
      replace q594 := eq_true q594
      have e32 := PON ha 3 (hon 3 (by kernel_rfl))
      replace ha := Aside0.mk ha
      exact VL (.string ((rd_T95 y593 t592).f1)) (hK.out _ _ ⟨PUT ha 4 hb, HM⟩)
     refine steps_cons ?_ ?_
     ·rintro b a w ⟨ha, HM⟩ hb hon hoff
      refine ⟨_, rfl, fun K hK => ?_⟩
      replace HM := HM.sF 1 rfl hb
      have e4 := POF ha 4
      have e29 := PON ha 0 (hon 0 (by kernel_rfl))
      replace ha := Aside0.mk ha
      refine ST (eS 1 4 0 [.int .i64 t580, .int .i64 t581, .slice (some ⟨gof27, 0, none⟩) t582.length ko13, .slice Xo14 t585.length ko14, .slice Xo15 t588.length ko15] HM rfl rfl ?_ (hp := (eval_of e4)) (hx := (by rw [eval_of e29]; rfl)))
      clear HM
      intro w34 HM
      exact hK.out _ _ ⟨PUS ha, (HM).pick [0, 1, 2, 3, 4, 5]⟩
     refine steps_cons ?_ ?_
     ·rintro b a w ⟨ha, HM⟩ hb hon hoff
      refine ⟨_, rfl, fun K hK => ?_⟩
      have e33 := PON ha 4 (hon 4 (by kernel_rfl))
      replace ha := Aside0.mk ha
      exact VL (.string ((rd_T95 y593 t592).f1)) (hK.out _ _ ⟨PUT ha 5 hb, HM⟩)
     refine steps_cons ?_ ?_
     ·rintro b a w ⟨ha, HM⟩ hb hon hoff
      refine ⟨_, rfl, fun K hK => ?_⟩
      replace ha := Aside0.mk ha
      exact VL (.bool true) (hK.out _ _ ⟨PUT ha 6 hb, HM⟩)
     exact steps_nil
    rintro _ w35 ⟨rfl, HM⟩
    replace HM := HM.sT 1 rfl rfl
    simp only [putSel, if_true, Act.put, List.setIfInBounds_toArray, List.set_cons_zero, List.set_cons_succ, gt_iff_lt, ge_iff_le]
    simp only [Option.some.injEq, Prod.mk.injEq] at H
    obtain ⟨rfl, rfl, rfl, rfl, rfl, rfl, rfl⟩ := H
    go_wp2
    refine bodyPost_ret (results_ctt rfl _ _ gb578 32 #[.int .i64 t580, .int .i64 t581, .slice (some ⟨gof27, 0, none⟩) t582.length ko13, .slice Xo14 t585.length ko14, .slice Xo15 t588.length ko15] (0, 0) _ rfl (HM.bx 1 rfl) Try.underlying32 rfl (by kernel_rfl)) rfl ?_
    exact ⟨_, _, _, ER, (MD HM).pick [2, 3, 4]⟩
   ·have c24b0 : decide (t592 < (t582.length : Int)) = false := decide_eq_false c24
    clear c24
    replace H := GD H; obtain ⟨c36, H⟩ := H
    have c36b0 : decide (0 ≤ (wrap64 (t592 - (t582.length : Int)))) = true := decide_eq_true c36
    clear c36
    replace H := GD H; obtain ⟨c37, H⟩ := H
    have c37b0 : decide ((wrap64 (t592 - (t582.length : Int))) < (t585.length : Int)) = true := decide_eq_true c37
    clear c37
    obtain ⟨ji40, hji40⟩ : ∃ j_ : Int, (mn 3 (wrap64 (((rd_T95 t585 (wrap64 (t592 - (t582.length : Int)))).f2) + 1))) = j_ := ⟨_, rfl⟩
    (first | rw [hji40] at H | simp only [hji40] at H | skip)
    have hji40_ : (if (wrap64 (((rd_T95 t585 (wrap64 (t592 - (t582.length : Int)))).f2) + 1)) < 3 then (wrap64 (((rd_T95 t585 (wrap64 (t592 - (t582.length : Int)))).f2) + 1)) else 3) = ji40 := hji40
    (try (have hji40h : ji40 ≤ 3 := by (rw [← hji40]; unfold mn; (repeat' split) <;> omega)))
    replace H := BLt H; obtain ⟨y595, Ny595, H⟩ := H
    replace Ny595 := Aside0.mk Ny595
    try go_wp2_with (first | ((with_reducible refine gate_dst (N := 2) rfl ?_); refine pB 2 32 [.int .i64 a0_0, .int .i64 a0_1, .slice A0_2 l0_2.length c0_2, .slice A0_3 l0_3.length c0_3, .slice A0_4 l0_4.length c0_4] HM rfl ?_; clear HM; intro gb577 w3 HM) | ((with_reducible refine gate_dst (N := 4) rfl ?_); refine pB 4 32 [.int .i64 0, .int .i64 0, .slice none 0 0, .slice none 0 0, .slice none 0 0] HM rfl ?_; clear HM; intro gb578 w4 HM; obtain ⟨hcz5_0, hcz5_1, hcz5_2, hcz5_3, hcz5_4, hfz5_0, hfz5_1, hfz5_2, hfz5_3, hfz5_4⟩ := bk5 (HM.bx 0 rfl)) | ((with_reducible refine gate_callee (f := 27) rfl ?_); refine pC (some 10) rfl #[.agg #[.int .i64 a0_0, .int .i64 a0_1, .slice A0_2 l0_2.length c0_2, .slice A0_3 l0_3.length c0_3, .slice A0_4 l0_4.length c0_4]] rfl Try.func27 (impl_ThreeOk.calls k a0_0 a0_1 _ _ l0_2 _ _ l0_3 _ _ l0_4 true _ (HM.came HR0_2.out) HC0_2.out (HM.came HR0_3.out) HC0_3.out (HM.came HR0_4.out) HC0_4.out A6.out) ?_; rintro e w7 ⟨rfl, hR⟩; refine ⟨_, rfl, ?_⟩; replace HM := HM.call hR; clear hR; obtain ⟨hcz9_0, hcz9_1, hcz9_2, hcz9_3, hcz9_4, hfz9_0, hfz9_1, hfz9_2, hfz9_3, hfz9_4⟩ := bk5 (HM.bx 0 rfl)) | ((with_reducible refine gate_callee (f := 49) rfl ?_); refine pC (some 14) rfl #[.agg #[.int .i64 a0_0, .int .i64 a0_1, .slice A0_2 l0_2.length c0_2, .slice A0_3 l0_3.length c0_3, .slice A0_4 l0_4.length c0_4]] rfl Try.func49 (impl_copyThree.calls a0_0 a0_1 _ _ l0_2 _ _ l0_3 _ _ l0_4 t580 t581 t582 t585 t588 _ (HM.came HR0_2.out) HC0_2.out (HM.came HR0_3.out) HC0_3.out (HM.came HR0_4.out) HC0_4.out A10.out) ?_; rintro e w11 ⟨v583, v586, v589, rfl, hR⟩; refine ⟨_, rfl, ?_⟩; replace HM := HM.call hR; clear hR) | ((with_reducible refine gate_dst (N := 7) rfl ?_); refine pB 7 32 [.int .i64 0, .int .i64 0, .slice none 0 0, .slice none 0 0, .slice none 0 0] HM rfl ?_; clear HM; intro gb591 w12 HM; obtain ⟨Xo13, ko13, eo13⟩ := HM.rdR 2 rfl; subst eo13; obtain ⟨Xo14, ko14, eo14⟩ := HM.rdR 3 rfl; subst eo14; obtain ⟨Xo15, ko15, eo15⟩ := HM.rdR 4 rfl; subst eo15) | ((with_reducible refine gate_st (p := 7) rfl ?_); refine pS 5 7 0 [.int .i64 t580, .int .i64 t581, .slice Xo13 t582.length ko13, .slice Xo14 t585.length ko14, .slice Xo15 t588.length ko15] HM rfl rfl ?_; clear HM; intro w16 HM; obtain ⟨hcz17_0, hcz17_1, hcz17_2, hcz17_3, hcz17_4, hfz17_0, hfz17_1, hfz17_2, hfz17_3, hfz17_4⟩ := bk5 (HM.bx 5 rfl)) | ((with_reducible refine gate_callee (f := 61) rfl ?_); refine pC (some 16) rfl #[.pointer (some ⟨gb591, 0, none⟩), .string a1] rfl Try.func61 (impl_Three_item.calls gb591 t580 t581 (.slice Xo15 t588.length ko15) Xo13 ko13 t582 Xo14 ko14 t585 a1 t592 _ (HM.CR 2 rfl).2.2 (HM.CR 2 rfl).2.1 (HM.CR 3 rfl).2.2 (HM.CR 3 rfl).2.1 (HM.bx 5 rfl) A18.out) ?_; rintro e w19 ⟨rfl, hb⟩; refine ⟨_, rfl, ?_⟩; replace HM := HM.below hb; clear hb; have pf39 : 0 ≤ ((wrap64 (t592 - (t582.length : Int))) : Int) := of_decide_eq_true AS; have qf39 : ((wrap64 (t592 - (t582.length : Int))) : Int) < ((t585.length : Int) : Int) := of_decide_eq_true AS; obtain ⟨gof39, eff39⟩ := HM.form 3 rfl (by have h_ := (HM.CR 3 rfl).1; omega); subst eff39; clear pf39 qf39; (first | rw [impl_Three_item.ptr_nil (by assumption)] | rw [impl_Three_item.ptr_small (by assumption) (by assumption)] | rw [impl_Three_item.ptr_main (by assumption) (by assumption)] | rw [impl_Three_item.ptr_nil' (by assumption)] | rw [impl_Three_item.ptr_small' (by assumption) (by assumption)] | rw [impl_Three_item.ptr_main' (by assumption) (by assumption)]); obtain ⟨hcz23_0, hcz23_1, hcz23_2, hcz23_3, hcz23_4, hfz23_0, hfz23_1, hfz23_2, hfz23_3, hfz23_4⟩ := bk5 (HM.bx 5 rfl); have p38 : 0 ≤ ((wrap64 (t592 - (t582.length : Int))) : Int) := of_decide_eq_true AS; have q38 : ((wrap64 (t592 - (t582.length : Int))) : Int) < ((t585.length : Int) : Int) := of_decide_eq_true AS; obtain ⟨hcc38, hfr38⟩ := HM.el 3 rfl z95 ((wrap64 (t592 - (t582.length : Int))) : Int) p38 (by have h_ := (HM.CR 3 rfl).1; omega) [.string ((rd_T95 t585 (wrap64 (t592 - (t582.length : Int)))).f0), .string ((rd_T95 t585 (wrap64 (t592 - (t582.length : Int)))).f1), .int .i64 ((rd_T95 t585 (wrap64 (t592 - (t582.length : Int)))).f2)] (fun _ _ h => k95_openM h); have hx38_0 : w19.cell? ⟨gof39, ((wrap64 (t592 - (t582.length : Int))) : Int).toNat * 3, none⟩ = some (.string ((rd_T95 t585 (wrap64 (t592 - (t582.length : Int)))).f0)) := (by have h_ := hcc38 0 _ rfl; first | exact h_ | (simp only [show (k95).sz = 3 from rfl, Nat.mul_one, Nat.add_zero] at h_; exact h_) | simpa using h_); have hf38_0 : w19.frozen? ⟨gof39, ((wrap64 (t592 - (t582.length : Int))) : Int).toNat * 3, none⟩ = false := (by have h_ := hfr38 0; first | exact h_ | (simp only [show (k95).sz = 3 from rfl, Nat.mul_one, Nat.add_zero] at h_; exact h_) | simpa using h_); have hx38_1 : w19.cell? ⟨gof39, ((wrap64 (t592 - (t582.length : Int))) : Int).toNat * 3 + 1, none⟩ = some (.string ((rd_T95 t585 (wrap64 (t592 - (t582.length : Int)))).f1)) := (by have h_ := hcc38 1 _ rfl; first | exact h_ | (simp only [show (k95).sz = 3 from rfl, Nat.mul_one, Nat.add_zero] at h_; exact h_) | simpa using h_); have hf38_1 : w19.frozen? ⟨gof39, ((wrap64 (t592 - (t582.length : Int))) : Int).toNat * 3 + 1, none⟩ = false := (by have h_ := hfr38 1; first | exact h_ | (simp only [show (k95).sz = 3 from rfl, Nat.mul_one, Nat.add_zero] at h_; exact h_) | simpa using h_); have hx38_2 : w19.cell? ⟨gof39, ((wrap64 (t592 - (t582.length : Int))) : Int).toNat * 3 + 2, none⟩ = some (.int .i64 ((rd_T95 t585 (wrap64 (t592 - (t582.length : Int)))).f2)) := (by have h_ := hcc38 2 _ rfl; first | exact h_ | (simp only [show (k95).sz = 3 from rfl, Nat.mul_one, Nat.add_zero] at h_; exact h_) | simpa using h_); have hf38_2 : w19.frozen? ⟨gof39, ((wrap64 (t592 - (t582.length : Int))) : Int).toNat * 3 + 2, none⟩ = false := (by have h_ := hfr38 2; first | exact h_ | (simp only [show (k95).sz = 3 from rfl, Nat.mul_one, Nat.add_zero] at h_; exact h_) | simpa using h_); clear hcc38 hfr38; replace p38 := eq_true p38; replace q38 := eq_true q38) | ((with_reducible refine gate_st (p := 28) rfl ?_); refine pPR 3 28 ((wrap64 (t592 - (t582.length : Int))) : Int) 2 [.int .i64 ji40] k95 95 t585 (⟨(rd_T95 t585 (wrap64 (t592 - (t582.length : Int)))).f0, (rd_T95 t585 (wrap64 (t592 - (t582.length : Int)))).f1, ji40⟩ : S95) z95 [.string ((rd_T95 t585 (wrap64 (t592 - (t582.length : Int)))).f0), .string ((rd_T95 t585 (wrap64 (t592 - (t582.length : Int)))).f1), .int .i64 ((rd_T95 t585 (wrap64 (t592 - (t582.length : Int)))).f2)] HM rfl rfl (of_decide_eq_true AS) (by have h_ : ((wrap64 (t592 - (t582.length : Int))) : Int) < ((t585.length : Int) : Int) := of_decide_eq_true AS; have e_ := (HM.CR 3 rfl).1; omega) (fun _ _ h => k95_openM h) (k95_mkM _ _ _ (⟨(rd_T95 t585 (wrap64 (t592 - (t582.length : Int)))).f0, (rd_T95 t585 (wrap64 (t592 - (t582.length : Int)))).f1, ji40⟩ : S95)) ?_; clear HM; intro w41 HM; replace HM := HM.nm 3 rfl Ny595.out; have p42 : 0 ≤ ((wrap64 (t592 - (t582.length : Int))) : Int) := of_decide_eq_true AS; have q42 : ((wrap64 (t592 - (t582.length : Int))) : Int) < ((t585.length : Int) : Int) := of_decide_eq_true AS; obtain ⟨hcc42, hfr42⟩ := HM.el 3 rfl z95 ((wrap64 (t592 - (t582.length : Int))) : Int) p42 (by have h_ := (HM.CR 3 rfl).1; omega) [.string ((rd_T95 y595 (wrap64 (t592 - (t582.length : Int)))).f0), .string ((rd_T95 y595 (wrap64 (t592 - (t582.length : Int)))).f1), .int .i64 ((rd_T95 y595 (wrap64 (t592 - (t582.length : Int)))).f2)] (fun _ _ h => k95_openM h); have hx42_0 : w41.cell? ⟨gof39, ((wrap64 (t592 - (t582.length : Int))) : Int).toNat * 3, none⟩ = some (.string ((rd_T95 y595 (wrap64 (t592 - (t582.length : Int)))).f0)) := (by have h_ := hcc42 0 _ rfl; first | exact h_ | (simp only [show (k95).sz = 3 from rfl, Nat.mul_one, Nat.add_zero] at h_; exact h_) | simpa using h_); have hf42_0 : w41.frozen? ⟨gof39, ((wrap64 (t592 - (t582.length : Int))) : Int).toNat * 3, none⟩ = false := (by have h_ := hfr42 0; first | exact h_ | (simp only [show (k95).sz = 3 from rfl, Nat.mul_one, Nat.add_zero] at h_; exact h_) | simpa using h_); have hx42_1 : w41.cell? ⟨gof39, ((wrap64 (t592 - (t582.length : Int))) : Int).toNat * 3 + 1, none⟩ = some (.string ((rd_T95 y595 (wrap64 (t592 - (t582.length : Int)))).f1)) := (by have h_ := hcc42 1 _ rfl; first | exact h_ | (simp only [show (k95).sz = 3 from rfl, Nat.mul_one, Nat.add_zero] at h_; exact h_) | simpa using h_); have hf42_1 : w41.frozen? ⟨gof39, ((wrap64 (t592 - (t582.length : Int))) : Int).toNat * 3 + 1, none⟩ = false := (by have h_ := hfr42 1; first | exact h_ | (simp only [show (k95).sz = 3 from rfl, Nat.mul_one, Nat.add_zero] at h_; exact h_) | simpa using h_); have hx42_2 : w41.cell? ⟨gof39, ((wrap64 (t592 - (t582.length : Int))) : Int).toNat * 3 + 2, none⟩ = some (.int .i64 ((rd_T95 y595 (wrap64 (t592 - (t582.length : Int)))).f2)) := (by have h_ := hcc42 2 _ rfl; first | exact h_ | (simp only [show (k95).sz = 3 from rfl, Nat.mul_one, Nat.add_zero] at h_; exact h_) | simpa using h_); have hf42_2 : w41.frozen? ⟨gof39, ((wrap64 (t592 - (t582.length : Int))) : Int).toNat * 3 + 2, none⟩ = false := (by have h_ := hfr42 2; first | exact h_ | (simp only [show (k95).sz = 3 from rfl, Nat.mul_one, Nat.add_zero] at h_; exact h_) | simpa using h_); clear hcc42 hfr42; replace p42 := eq_true p42; replace q42 := eq_true q42))
    have p596 : 0 ≤ ((wrap64 (t592 - (t582.length : Int))) : Int) := of_decide_eq_true AS
    have q596 : ((wrap64 (t592 - (t582.length : Int))) : Int) < (y595.length : Int) := (by have h_ : ((wrap64 (t592 - (t582.length : Int))) : Int) < ((t585.length : Int) : Int) := of_decide_eq_true AS; first | exact h_ | (simp only [Ny595.out, List.length_set] at h_ ⊢; exact h_))
    have ql596 : (((wrap64 (t592 - (t582.length : Int))) : Int) < ((t585.length : Int) : Int)) = True := eq_true (of_decide_eq_true AS)
    obtain ⟨ad596, e596, hx596_0, hx596_1, hx596_2⟩ := at_T95 (HM.CR 3 rfl).2.2 (wrap64 (t592 - (t582.length : Int))) p596 q596
    obtain rfl := Option.some.inj e596
    (first | simp only [add_plain] at hx596_0 | simp only [add_at] at hx596_0 | simp only [Addr.add, Nat.zero_add] at hx596_0 | skip)
    (first | simp only [add_plain] at hx596_1 | simp only [add_at] at hx596_1 | simp only [Addr.add, Nat.zero_add] at hx596_1 | skip)
    (first | simp only [add_plain] at hx596_2 | simp only [add_at] at hx596_2 | simp only [Addr.add, Nat.zero_add] at hx596_2 | skip)
    replace p596 := eq_true p596
    replace q596 := eq_true q596
    refine RGN 8 [0, 1, 2, 3, 4, 5, 6, 7] (fun a0 b a w' => a = putSel a0 b [(0, 29, .agg #[.int .i64 t580, .int .i64 t581, .slice Xo13 t582.length ko13, .slice (some ⟨gof39, 0, none⟩) t585.length ko14, .slice Xo15 t588.length ko15]), (1, 30, .pointer (some ⟨gof39, (wrap64 (t592 - (t582.length : Int)) : Int).toNat * 3, none⟩)), (2, 31, .pointer (some ⟨gof39, (wrap64 (t592 - (t582.length : Int)) : Int).toNat * 3, none⟩)), (3, 32, .pointer (some ⟨gof39, (wrap64 (t592 - (t582.length : Int)) : Int).toNat * 3 + 1, none⟩)), (4, 33, .string ((rd_T95 y595 (wrap64 (t592 - (t582.length : Int)))).f1)), (6, 5, .string ((rd_T95 y595 (wrap64 (t592 - (t582.length : Int)))).f1)), (7, 6, .bool true)] ∧ Mem w [] w' [box 32 gb577 [.int .i64 a0_0, .int .i64 a0_1, .slice A0_2 l0_2.length c0_2, .slice A0_3 l0_3.length c0_3, .slice A0_4 l0_4.length c0_4], sel (b 5) (box 32 gb578 [.int .i64 t580, .int .i64 t581, .slice Xo13 t582.length ko13, .slice (some ⟨gof39, 0, none⟩) t585.length ko14, .slice Xo15 t588.length ko15]) (box 32 gb578 [.int .i64 0, .int .i64 0, .slice none 0 0, .slice none 0 0, .slice none 0 0]), rowR k95 95 (.slice Xo13 t582.length ko13) t582, rowR k95 95 (.slice (some ⟨gof39, 0, none⟩) t585.length ko14) y595, rowR (Kd.int .i64) 3 (.slice Xo15 t588.length ko15) t588, box 32 gb591 [.int .i64 t580, .int .i64 t581, .slice Xo13 t582.length ko13, .slice (some ⟨gof39, 0, none⟩) t585.length ko14, .slice Xo15 t588.length ko15]]) impl_Get.tab8 impl_Get.bits8 ?_ ?_ ?_
    ·exact ⟨PS0' rfl _, (HM.drew).pick [0, 1, 2, 3, 4, 5]⟩
    ·clear HM
     refine steps_cons ?_ ?_
     ·rintro b a w ⟨ha, HM⟩ hb hon hoff
      refine ⟨_, rfl, fun K hK => ?_⟩
      obtain ⟨hcz45_0, hcz45_1, hcz45_2, hcz45_3, hcz45_4, hfz45_0, hfz45_1, hfz45_2, hfz45_3, hfz45_4⟩ := bk5 (HM.bx 5 rfl)
      have e7 := POF ha 7
      replace ha := Aside0.mk ha
      exact VL (.agg #[.int .i64 t580, .int .i64 t581, .slice Xo13 t582.length ko13, .slice (some ⟨gof39, 0, none⟩) t585.length ko14, .slice Xo15 t588.length ko15]) (hK.out _ _ ⟨PUT ha 0 hb, HM⟩)
     refine steps_cons ?_ ?_
     ·rintro b a w ⟨ha, HM⟩ hb hon hoff
      refine ⟨_, rfl, fun K hK => ?_⟩
      have e8 := POF ha 8
      replace ha := Aside0.mk ha
      exact VL (.pointer (some ⟨gof39, (wrap64 (t592 - (t582.length : Int)) : Int).toNat * 3, none⟩)) (hK.out _ _ ⟨PUT ha 1 hb, HM⟩)
     refine steps_cons ?_ ?_
     ·rintro b a w ⟨ha, HM⟩ hb hon hoff
      refine ⟨_, rfl, fun K hK => ?_⟩
      have e30 := PON ha 1 (hon 1 (by kernel_rfl))
      replace ha := Aside0.mk ha
      exact VL (.pointer (some ⟨gof39, (wrap64 (t592 - (t582.length : Int)) : Int).toNat * 3, none⟩)) (hK.out _ _ ⟨PUT ha 2 hb, HM⟩)
     refine steps_cons ?_ ?_
     ·rintro b a w ⟨ha, HM⟩ hb hon hoff
      refine ⟨_, rfl, fun K hK => ?_⟩
      have e31 := PON ha 2 (hon 2 (by kernel_rfl))
      replace ha := Aside0.mk ha
      exact VL (.pointer (some ⟨gof39, (wrap64 (t592 - (t582.length : Int)) : Int).toNat * 3 + 1, none⟩)) (hK.out _ _ ⟨PUT ha 3 hb, HM⟩)
     refine steps_cons ?_ ?_
     ·rintro b a w ⟨ha, HM⟩ hb hon hoff
      refine ⟨_, rfl, fun K hK => ?_⟩
      have p596 : 0 ≤ ((wrap64 (t592 - (t582.length : Int))) : Int) := of_decide_eq_true AS
      have q596 : ((wrap64 (t592 - (t582.length : Int))) : Int) < (y595.length : Int) := (by have h_ : ((wrap64 (t592 - (t582.length : Int))) : Int) < ((t585.length : Int) : Int) := of_decide_eq_true AS; first | exact h_ | (simp only [Ny595.out, List.length_set] at h_ ⊢; exact h_))
      have ql596 : (((wrap64 (t592 - (t582.length : Int))) : Int) < ((t585.length : Int) : Int)) = True := eq_true (of_decide_eq_true AS)
      obtain ⟨ad596, e596, hx596_0, hx596_1, hx596_2⟩ := at_T95 (HM.CR 3 rfl).2.2 (wrap64 (t592 - (t582.length : Int))) p596 q596
      obtain rfl := Option.some.inj e596
      (first | simp only [add_plain] at hx596_0 | simp only [add_at] at hx596_0 | simp only [Addr.add, Nat.zero_add] at hx596_0 | skip)
      (first | simp only [add_plain] at hx596_1 | simp only [add_at] at hx596_1 | simp only [Addr.add, Nat.zero_add] at hx596_1 | skip)
      (first | simp only [add_plain] at hx596_2 | simp only [add_at] at hx596_2 | simp only [Addr.add, Nat.zero_add] at hx596_2 | skip)
      replace p596 := eq_true p596
      replace q596 := eq_true q596
      have e32 := PON ha 3 (hon 3 (by kernel_rfl))
      replace ha := Aside0.mk ha
      exact VL (.string ((rd_T95 y595 (wrap64 (t592 - (t582.length : Int)))).f1)) (hK.out _ _ ⟨PUT ha 4 hb, HM⟩)
     refine steps_cons ?_ ?_
     ·rintro b a w ⟨ha, HM⟩ hb hon hoff
      refine ⟨_, rfl, fun K hK => ?_⟩
      replace HM := HM.sF 1 rfl hb
      have e4 := POF ha 4
      have e29 := PON ha 0 (hon 0 (by kernel_rfl))
      replace ha := Aside0.mk ha
      refine ST (eS 1 4 0 [.int .i64 t580, .int .i64 t581, .slice Xo13 t582.length ko13, .slice (some ⟨gof39, 0, none⟩) t585.length ko14, .slice Xo15 t588.length ko15] HM rfl rfl ?_ (hp := (eval_of e4)) (hx := (by rw [eval_of e29]; rfl)))
      clear HM
      intro w46 HM
      exact hK.out _ _ ⟨PUS ha, (HM).pick [0, 1, 2, 3, 4, 5]⟩
     refine steps_cons ?_ ?_
     ·rintro b a w ⟨ha, HM⟩ hb hon hoff
      refine ⟨_, rfl, fun K hK => ?_⟩
      have e33 := PON ha 4 (hon 4 (by kernel_rfl))
      replace ha := Aside0.mk ha
      exact VL (.string ((rd_T95 y595 (wrap64 (t592 - (t582.length : Int)))).f1)) (hK.out _ _ ⟨PUT ha 5 hb, HM⟩)
     refine steps_cons ?_ ?_
     ·rintro b a w ⟨ha, HM⟩ hb hon hoff
      refine ⟨_, rfl, fun K hK => ?_⟩
      replace ha := Aside0.mk ha
      exact VL (.bool true) (hK.out _ _ ⟨PUT ha 6 hb, HM⟩)
     exact steps_nil
    rintro _ w47 ⟨rfl, HM⟩
    replace HM := HM.sT 1 rfl rfl
    simp only [putSel, if_true, Act.put, List.setIfInBounds_toArray, List.set_cons_zero, List.set_cons_succ, gt_iff_lt, ge_iff_le]
    simp only [Option.some.injEq, Prod.mk.injEq] at H
    obtain ⟨rfl, rfl, rfl, rfl, rfl, rfl, rfl⟩ := H
    go_wp2
    refine bodyPost_ret (results_ctt rfl _ _ gb578 32 #[.int .i64 t580, .int .i64 t581, .slice Xo13 t582.length ko13, .slice (some ⟨gof39, 0, none⟩) t585.length ko14, .slice Xo15 t588.length ko15] (0, 0) _ rfl (HM.bx 1 rfl) Try.underlying32 rfl (by kernel_rfl)) rfl ?_
    exact ⟨_, _, _, ER, (MD HM).pick [2, 3, 4]⟩
 ·subst c8
  simp only [Option.some.injEq, Prod.mk.injEq] at H
  obtain ⟨rfl, rfl, rfl, rfl, rfl, rfl, rfl⟩ := H
  go_wp2_with (first | ((with_reducible refine gate_dst (N := 2) rfl ?_); refine pB 2 32 [.int .i64 a0_0, .int .i64 a0_1, .slice A0_2 l0_2.length c0_2, .slice A0_3 l0_3.length c0_3, .slice A0_4 l0_4.length c0_4] HM rfl ?_; clear HM; intro gb577 w3 HM) | ((with_reducible refine gate_dst (N := 4) rfl ?_); refine pB 4 32 [.int .i64 0, .int .i64 0, .slice none 0 0, .slice none 0 0, .slice none 0 0] HM rfl ?_; clear HM; intro gb578 w4 HM; obtain ⟨hcz5_0, hcz5_1, hcz5_2, hcz5_3, hcz5_4, hfz5_0, hfz5_1, hfz5_2, hfz5_3, hfz5_4⟩ := bk5 (HM.bx 0 rfl)) | ((with_reducible refine gate_callee (f := 27) rfl ?_); refine pC (some 10) rfl #[.agg #[.int .i64 a0_0, .int .i64 a0_1, .slice A0_2 l0_2.length c0_2, .slice A0_3 l0_3.length c0_3, .slice A0_4 l0_4.length c0_4]] rfl Try.func27 (impl_ThreeOk.calls k a0_0 a0_1 _ _ l0_2 _ _ l0_3 _ _ l0_4 false _ (HM.came HR0_2.out) HC0_2.out (HM.came HR0_3.out) HC0_3.out (HM.came HR0_4.out) HC0_4.out A6.out) ?_; rintro e w7 ⟨rfl, hR⟩; refine ⟨_, rfl, ?_⟩; replace HM := HM.call hR; clear hR) | ((with_reducible refine gate_st (p := 4) rfl ?_); refine pS 1 4 0 [.int .i64 0, .int .i64 0, .slice none 0 0, .slice none 0 0, .slice none 0 0] HM rfl rfl ?_; clear HM; intro w48 HM; replace HM := HM.nl k95 95; replace HM := HM.nl k95 95; replace HM := HM.nl (Kd.int .i64) 3))
  refine bodyPost_ret (results_ctt rfl _ _ gb578 32 #[.int .i64 0, .int .i64 0, .slice none 0 0, .slice none 0 0, .slice none 0 0] (0, 0) _ rfl (HM.bx 1 rfl) Try.underlying32 rfl (by kernel_rfl)) rfl ?_
  exact ⟨_, _, _, ER, (MD HM).pick [2, 3, 4]⟩
def impl_OpOk.f (k : Nat) (a0_0 : Int) (a0_1 : ByteArray) (a0_2 : ByteArray) : Option (Bool) := (impl_within.f a0_0 1 3).bind fun t601 => (if t601 = true then ((impl_ItemOk.f k a0_1 a0_2 0).bind fun t602 => (if t602 = true then (if a0_0 = 2 then (some true) else (some (a0_2.toList == ([] : List UInt8)))) else (some false))) else (some false))
theorem impl_OpOk.mono : ∀ a0 a1 a2 k, LeO (impl_OpOk.f k a0 a1 a2) (impl_OpOk.f (k + 1) a0 a1 a2) := by
 intro a0 a1 a2 k
 unfold impl_OpOk.f
 repeat' first | (with_reducible first | exact impl_ItemOk.mono _ _ _ _ | exact LeO.refl _ | exact LeO.none _ | refine LeO.ite ?_ ?_ | refine LeO.bind ?_ (fun _ => ?_)) | exact impl_ItemOk.mono _ _ _ _ | exact LeO.none _ | refine LeO.ite ?_ ?_ | refine LeO.bind ?_ (fun _ => ?_)
set_option maxHeartbeats 8000000 in
set_option maxRecDepth 100000 in
theorem impl_OpOk.calls (k : Nat) (a0_0 : Int) (a0_1 : ByteArray) (a0_2 : ByteArray) (r : Bool) (w : World)  (h : impl_OpOk.f k a0_0 a0_1 a0_2 = some r) :
  Calls Try.prog 39 #[.agg #[.int .i64 a0_0, .string a0_1, .string a0_2]] w fun e w' => e = .returned (.bool r) ∧ Mem w [] w' [] := by
 have hu38 := Try.underlying38
 have hu95 := Try.underlying95
 have HM := Mem.nil w
 have H := h
 clear h
 unfold impl_OpOk.f at H
 go_enter Try.func39, Try.ntmps39
 replace H := BN H; obtain ⟨t601, A4, H⟩ := H
 replace H := IB H
 rcases H with ⟨c6, H⟩ | ⟨c6, H⟩
 ·subst c6
  replace H := BN H; obtain ⟨t602, A8, H⟩ := H
  replace H := IB H
  rcases H with ⟨c10, H⟩ | ⟨c10, H⟩
  ·subst c10
   replace H := IT H; rcases H with ⟨c12, H⟩ | ⟨c12, H⟩
   ·have c12b0 : (a0_0 == 2) = true := beq_iff_eq.mpr c12
    have c12b1 : (a0_0 != 2) = false := bne_eq_false_iff_eq.mpr c12
    clear c12
    obtain rfl := Option.some.inj H
    go_wp2_with (first | ((with_reducible refine gate_dst (N := 1) rfl ?_); refine pB 1 38 [.int .i64 a0_0, .string a0_1, .string a0_2] HM rfl ?_; clear HM; intro gb600 w2 HM; obtain ⟨hcz3_0, hcz3_1, hcz3_2, hfz3_0, hfz3_1, hfz3_2⟩ := bk3 (HM.bx 0 rfl)) | ((with_reducible refine gate_callee (f := 55) rfl ?_); refine pC (some 5) rfl #[.int .i64 a0_0, .int .i64 1, .int .i64 3] rfl Try.func55 (impl_within.calls a0_0 1 3 true _ A4.out) ?_; rintro e w5 ⟨rfl, hd⟩; refine ⟨_, rfl, ?_⟩; replace HM := HM.drawn hd; clear hd; obtain ⟨hcz7_0, hcz7_1, hcz7_2, hfz7_0, hfz7_1, hfz7_2⟩ := bk3 (HM.bx 0 rfl)) | ((with_reducible refine gate_callee (f := 75) rfl ?_); refine pC (some 12) rfl #[.agg #[.string a0_1, .string a0_2, .int .i64 0]] rfl Try.func75 (impl_ItemOk.calls k a0_1 a0_2 0 true _ A8.out) ?_; rintro e w9 ⟨rfl, hR⟩; refine ⟨_, rfl, ?_⟩; replace HM := HM.call hR; clear hR; obtain ⟨hcz11_0, hcz11_1, hcz11_2, hfz11_0, hfz11_1, hfz11_2⟩ := bk3 (HM.bx 0 rfl)))
    go_ret
    exact ⟨ER, (MD HM).pick []⟩
   ·have c12b0 : (a0_0 == 2) = false := beq_eq_false_iff_ne.mpr c12
    have c12b1 : (a0_0 != 2) = true := bne_iff_ne.mpr c12
    obtain rfl := Option.some.inj H
    go_wp2_with (first | ((with_reducible refine gate_dst (N := 1) rfl ?_); refine pB 1 38 [.int .i64 a0_0, .string a0_1, .string a0_2] HM rfl ?_; clear HM; intro gb600 w2 HM; obtain ⟨hcz3_0, hcz3_1, hcz3_2, hfz3_0, hfz3_1, hfz3_2⟩ := bk3 (HM.bx 0 rfl)) | ((with_reducible refine gate_callee (f := 55) rfl ?_); refine pC (some 5) rfl #[.int .i64 a0_0, .int .i64 1, .int .i64 3] rfl Try.func55 (impl_within.calls a0_0 1 3 true _ A4.out) ?_; rintro e w5 ⟨rfl, hd⟩; refine ⟨_, rfl, ?_⟩; replace HM := HM.drawn hd; clear hd; obtain ⟨hcz7_0, hcz7_1, hcz7_2, hfz7_0, hfz7_1, hfz7_2⟩ := bk3 (HM.bx 0 rfl)) | ((with_reducible refine gate_callee (f := 75) rfl ?_); refine pC (some 12) rfl #[.agg #[.string a0_1, .string a0_2, .int .i64 0]] rfl Try.func75 (impl_ItemOk.calls k a0_1 a0_2 0 true _ A8.out) ?_; rintro e w9 ⟨rfl, hR⟩; refine ⟨_, rfl, ?_⟩; replace HM := HM.call hR; clear hR; obtain ⟨hcz11_0, hcz11_1, hcz11_2, hfz11_0, hfz11_1, hfz11_2⟩ := bk3 (HM.bx 0 rfl)))
    go_ret
    exact ⟨ER, (MD HM).pick []⟩
  ·subst c10
   obtain rfl := Option.some.inj H
   go_wp2_with (first | ((with_reducible refine gate_dst (N := 1) rfl ?_); refine pB 1 38 [.int .i64 a0_0, .string a0_1, .string a0_2] HM rfl ?_; clear HM; intro gb600 w2 HM; obtain ⟨hcz3_0, hcz3_1, hcz3_2, hfz3_0, hfz3_1, hfz3_2⟩ := bk3 (HM.bx 0 rfl)) | ((with_reducible refine gate_callee (f := 55) rfl ?_); refine pC (some 5) rfl #[.int .i64 a0_0, .int .i64 1, .int .i64 3] rfl Try.func55 (impl_within.calls a0_0 1 3 true _ A4.out) ?_; rintro e w5 ⟨rfl, hd⟩; refine ⟨_, rfl, ?_⟩; replace HM := HM.drawn hd; clear hd; obtain ⟨hcz7_0, hcz7_1, hcz7_2, hfz7_0, hfz7_1, hfz7_2⟩ := bk3 (HM.bx 0 rfl)) | ((with_reducible refine gate_callee (f := 75) rfl ?_); refine pC (some 12) rfl #[.agg #[.string a0_1, .string a0_2, .int .i64 0]] rfl Try.func75 (impl_ItemOk.calls k a0_1 a0_2 0 false _ A8.out) ?_; rintro e w9 ⟨rfl, hR⟩; refine ⟨_, rfl, ?_⟩; replace HM := HM.call hR; clear hR))
   go_ret
   exact ⟨ER, (MD HM).pick []⟩
 ·subst c6
  obtain rfl := Option.some.inj H
  go_wp2_with (first | ((with_reducible refine gate_dst (N := 1) rfl ?_); refine pB 1 38 [.int .i64 a0_0, .string a0_1, .string a0_2] HM rfl ?_; clear HM; intro gb600 w2 HM; obtain ⟨hcz3_0, hcz3_1, hcz3_2, hfz3_0, hfz3_1, hfz3_2⟩ := bk3 (HM.bx 0 rfl)) | ((with_reducible refine gate_callee (f := 55) rfl ?_); refine pC (some 5) rfl #[.int .i64 a0_0, .int .i64 1, .int .i64 3] rfl Try.func55 (impl_within.calls a0_0 1 3 false _ A4.out) ?_; rintro e w5 ⟨rfl, hd⟩; refine ⟨_, rfl, ?_⟩; replace HM := HM.drawn hd; clear hd))
  go_ret
  exact ⟨ER, (MD HM).pick []⟩
end Go.Proofs.Ytdeijmofaapgdaa.G

namespace Go.Proofs.Ytdeijmofaapgdaa.G
open Go.RowKit Go.Proofs.YtdeijmofaapgdaaW.PrintWords Go.Proofs.YtdeijmofaapgdaaW.PrintLast Go.Proofs.YtdeijmofaapgdaaW.PrintMore Go.Proofs.Ytdeijmofaapgdaa.Sh
attribute [local go_sem] max2_int min2_int max_two min_two max_three min_three max_four min_four
set_option linter.unusedVariables false
set_option linter.unusedSimpArgs false
def impl_Hash.l0 : Nat → ByteArray → Int → Int → Option (Int)
 | 0, _, _, _ => none
 | k + 1, x0, x3, x4 => if x4 < (x0.size : Int) then (if 0 ≤ x4 then (impl_Hash.l0 k x0 (Int.tmod (wrap64 ((Go.bits .xor .i64 x3 (wrap64 (bt x0 x4))) * 16777619)) 4294967296) (wrap64 (x4 + 1))) else (none)) else (some x3)
def impl_Hash.f (k : Nat) (a0 : ByteArray) : Option (Int) := impl_Hash.l0 k a0 2166136261 0
theorem impl_Hash.mono_l : ∀ k, (∀ y0 y1 y2, LeO (impl_Hash.l0 k y0 y1 y2) (impl_Hash.l0 (k + 1) y0 y1 y2))
 | 0 => fun _ _ _ r h => by simp [impl_Hash.l0] at h
 | k + 1 => by
  have ih0 := impl_Hash.mono_l k
  ·intro y0 y1 y2
   unfold impl_Hash.l0
   repeat' first | (with_reducible first | exact ih0 _ _ _ | exact LeO.refl _ | exact LeO.none _ | refine LeO.ite ?_ ?_ | refine LeO.bind ?_ (fun _ => ?_)) | exact ih0 _ _ _ | exact LeO.none _ | refine LeO.ite ?_ ?_ | refine LeO.bind ?_ (fun _ => ?_)
theorem impl_Hash.mono : ∀ a0 k, LeO (impl_Hash.f k a0) (impl_Hash.f (k + 1) a0) := by
 intro a0 k
 have ih0 := impl_Hash.mono_l k
 unfold impl_Hash.f
 repeat' first | (with_reducible first | exact ih0 _ _ _ | exact LeO.refl _ | exact LeO.none _ | refine LeO.ite ?_ ?_ | refine LeO.bind ?_ (fun _ => ?_)) | exact ih0 _ _ _ | exact LeO.none _ | refine LeO.ite ?_ ?_ | refine LeO.bind ?_ (fun _ => ?_)
set_option maxHeartbeats 8000000 in
set_option maxRecDepth 100000 in
theorem impl_Hash.calls (k : Nat) (a0 : ByteArray) (r : Int) (w : World) (h : impl_Hash.f k a0 = some r) :
  Calls Try.prog 77 #[.string a0] w fun e w' => e = .returned (.int .i64 r) ∧ Drawn0 w w' := by
 have H : (impl_Hash.l0 k a0 2166136261 0) = some r := h
 clear h
 have H' := Aside0.mk H
 clear H
 go_enter Try.func77, Try.ntmps77
 go_wp2
 go_loopg [3, 4] k (fun kq v3 v4 w' => ∃ (x3_1 : Int) (x4_1 : Int), v3 = .int .i64 x3_1 ∧ v4 = .int .i64 x4_1 ∧ Aside0 (impl_Hash.l0 kq a0 x3_1 x4_1 = some r) ∧ Aside0 (kq ≤ k) ∧ Drawn0 w w')
 case atStart => exact ⟨(2166136261), (0), RS, RS, H', ⟨Nat.le_refl _⟩, DR⟩
 case round =>
  clear H'
  obtain ⟨x3_1, x4_1, rfl, rfl, HA, HK1, ⟨m1, rfl⟩⟩ := hrel
  cases gk with
  | zero => exact absurd HA.out (by simp [impl_Hash.l0])
  | succ k1 =>
   have H := HA.out
   clear HA
   simp only [impl_Hash.l0] at H
   by_cases c2 : x4_1 < (a0.size : Int)
   ·rw [if_pos c2] at H
    have c2b0 : decide (x4_1 < (a0.size : Int)) = true := decide_eq_true c2
    clear c2
    by_cases c3 : 0 ≤ x4_1
    ·rw [if_pos c3] at H
     have c3b0 : decide (0 ≤ x4_1) = true := decide_eq_true c3
     clear c3
     have H' := Aside0.mk H
     clear H
     have p4 : 0 ≤ (x4_1 : Int) := of_decide_eq_true AS
     have q4 : x4_1 < (a0.size : Int) := of_decide_eq_true AS
     have hx4 := bt_at a0 x4_1
     replace p4 := eq_true p4
     replace q4 := eq_true q4
     go_wp2
     go_roundg k1
     case measure => have := HK1.out; omega
     case rel => exact ⟨(Int.tmod (wrap64 ((Go.bits .xor .i64 x3_1 (wrap64 (bt a0 x4_1))) * 16777619)) 4294967296), (wrap64 (x4_1 + 1)), RS, RS, H', ⟨by have := HK1.out; omega⟩, DR⟩
    ·rw [if_neg c3] at H
     exact absurd H (by simp)
   ·rw [if_neg c2] at H
    have c2b0 : decide (x4_1 < (a0.size : Int)) = false := decide_eq_false c2
    clear c2
    obtain rfl := Option.some.inj H
    go_wp2
    go_ret
    exact ⟨by first | rfl | (simp; done) | (simp [*]; done), DR⟩
end Go.Proofs.Ytdeijmofaapgdaa.G

namespace Go.Proofs.Ytdeijmofaapgdaa.G
open Go.RowKit Go.Proofs.YtdeijmofaapgdaaW.PrintWords Go.Proofs.YtdeijmofaapgdaaW.PrintLast Go.Proofs.YtdeijmofaapgdaaW.PrintMore Go.Proofs.Ytdeijmofaapgdaa.Sh
attribute [local go_sem] max2_int min2_int max_two min_two max_three min_three max_four min_four
set_option linter.unusedVariables false
set_option linter.unusedSimpArgs false
open Go.Proofs.Ytdeijmofaapgdaa.Man
section
variable {P : Program}
/-- 'clear(s)' of what lies behind a queue of the call's own, in its spare room: the queue stays. -/
theorem Q_clear_run {α : Type} (d : Kd α) {W : World} (base : Nat) (t ty e : TypeId) (z : Value) (ht : P.underlying t = some (.slice e)) (hz : ∀ w, (zeroValue e).run P w = .ok z w) (hzs : z.cells.size = d.sz) (hz1 : ∀ u ∈ z.cells.toList, u.oneCell' = true)
  {g o n c m : Nat} {xs : List α} {ok : Nat → Prop} (HO : d.Q e W base ok (.slice (some ⟨g, o, none⟩) n c) xs) (hm : n + m ≤ c) (hm0 : 0 < m) (hn0 : 0 < c) (c2 : Nat) (hpos : 0 < d.sz) :
  ∃ w1, (Builtin.clear_ #[t] ty #[.slice (some ⟨g, o + n * d.sz, none⟩) m c2]).run P W = .ok (.tuple #[]) w1 ∧ d.Q e w1 base ok (.slice (some ⟨g, o, none⟩) n c) xs ∧ W.grownBy w1 (some g) := by
 obtain ⟨hn, hnc, _⟩ := Kd.Q_reads' HO
 obtain ⟨hok, inner, hown, hr⟩ := HO
 have hin : inner.length = n * d.sz := by rw [hr.1, hn]
 rcases hown.2 with ⟨h0, A, hv, _⟩ | ⟨g', off, cap', cur, hv, hb, hh, hcn, hcm, hcs, htake⟩
 ·injection hv with _ h1 h2
  omega
 injection hv with ha _ hc
 injection ha with ha
 injection ha with hg ho
 subst hg; subst hc; subst ho
 rw [← hn] at htake
 obtain ⟨news, hnews⟩ : ∃ news, news = (Builtin.zeroCells z.cells m).toList := ⟨_, rfl⟩
 have hnl : news.length = m * d.sz := by rw [hnews, cycle_len _ _ hm0, hzs]
 have hone : ∀ u ∈ news, u.oneCell' = true := by
  intro u hu
  rw [hnews] at hu
  have hp : 0 < z.cells.size := by omega
  simp only [Builtin.zeroCells, Array.toList_map, List.mem_map] at hu
  obtain ⟨i, _, rfl⟩ := hu
  have hi := Nat.mod_lt i hp
  rw [getElem!_pos z.cells _ hi]
  exact hz1 _ (by simp)
 have hnm : (n + m) * d.sz ≤ c * d.sz := Nat.mul_le_mul_right _ hm
 have hnm2 : (n + m) * d.sz = n * d.sz + m * d.sz := Nat.add_mul _ _ _
 have hoc : (off + c) * d.sz = off * d.sz + c * d.sz := Nat.add_mul _ _ _
 have hfit : off * d.sz + n * d.sz + news.length ≤ cur.size := by omega
 have hst := run_storeCells_cells (P := P) g (off * d.sz + n * d.sz) news 0 W (fun j hj => by rw [cell_of_row W g _ cur e (0, 0) hh]; simp; omega) (fun j _ => blk_frozen hh _) hone
 simp only [Nat.add_zero] at hst
 obtain ⟨cur', h3, h4, h5⟩ := setCells_row news (off * d.sz + n * d.sz) W cur hh hfit
 obtain ⟨s1, s2, s3, s4⟩ := setCells_same g news (off * d.sz + n * d.sz) W
 have hfar : ∀ k', k' ≠ g → (W.setCells g (off * d.sz + n * d.sz) news).heap[k']? = W.heap[k']? := fun k' hk' => setCells_far news _ k' hk'
 refine ⟨_, ?_, ⟨hok, inner, ⟨by rw [hin, hn], .inr ⟨g, off, c, cur', by rw [hn], hb, h3, by omega, hcm, by rw [h4, hcs], ?_⟩⟩, ?_⟩, ⟨s1, s2, s3, by rw [s4]; exact Nat.le_refl _, fun k' _ hk' => hfar k' (fun he => hk' (by rw [he]))⟩⟩
 ·obtain ⟨k, rfl⟩ : ∃ k, m = k + 1 := ⟨m - 1, by omega⟩
  have hzc : (Builtin.zeroCells z.cells (k + 1)).toList = news := hnews.symm
  simp [Builtin.clear_, run_underlying ht, hz, hzc, hst]
 ·rw [← hn, h5, List.append_assoc]
  have hl : (cur.toList.take (off * d.sz + n * d.sz)).drop (off * d.sz) = (cur.toList.drop (off * d.sz)).take (n * d.sz) := by
   rw [List.drop_take]
   congr 1
   omega
  have hlen : (cur.toList.take (off * d.sz + n * d.sz)).length = off * d.sz + n * d.sz := by
   rw [List.length_take, Array.length_toList]; omega
  rw [List.drop_append_of_le_length (by rw [hlen]; omega), hl, htake]
  exact List.take_left' hin
 ·exact hr.imp_ (fun p q hp => d.M_move (fun k' hk' => hfar k' (fun he => hk'.2 (by simp [Value.ownBlock, he]))) hp)
end
def delInt.idx (h : Int) : List Int → Nat → Int
 | [], _ => -1
 | x :: r, i => if x = h then (i : Int) else delInt.idx h r (i + 1)
theorem delInt.idx_at (h : Int) (l : List Int) (i : Nat) (hi : i < l.length) : delInt.idx h (l.drop i) i = if rd l (i : Int) = h then (i : Int) else delInt.idx h (l.drop (i + 1)) (i + 1) := by
 rw [List.drop_eq_getElem_cons hi, delInt.idx]
 have e : rd l (i : Int) = l[i] := by
  show l.getD (i : Int).toNat _ = _
  simp [List.getD_eq_getElem?_getD, hi]
 rw [e]
theorem delInt.idx_end (h : Int) (l : List Int) (i : Nat) (hi : ¬ i < l.length) : delInt.idx h (l.drop i) i = -1 := by
 rw [List.drop_of_length_le (by omega)]; rfl
/-- What is asked of a closure over one number: it tells whether it is handed just that one. -/
def delInt.Clo (M : Nat) (fnM : Func) (B : Nat) (h : Int) : Prop := Try.prog.funcs[M]? = some fnM ∧ (fnM.name == "runtime.NumGoroutine") = false ∧ fnM.body.isSome = true ∧ ∀ (y : Int) (W : World), W.heap[B]? = some (.cells #[.int .i64 h] 3 (0, 0)) →
 Calls Try.prog M #[.int .i64 y, .pointer (some ⟨B, 0, none⟩)] W fun e w' => e = .returned (.bool (y == h)) ∧ Below W.heap.size W w'
set_option maxHeartbeats 8000000 in
set_option maxRecDepth 100000 in
theorem delInt.index (M : Nat) (fnM : Func) (B : Nat) (h : Int) (hM : delInt.Clo M fnM B h) (A0 : Option Addr) (c0 : Nat) (l0 : List Int) (w : World) (hblk : w.heap[B]? = some (.cells #[.int .i64 h] 3 (0, 0))) (hr0 : Kd.C (Kd.int .i64) w A0 l0.length l0) (hc0 : l0.length ≤ c0) :
  Calls Try.prog 97 #[.slice A0 l0.length c0, .func (.func M) #[] #[.pointer (some ⟨B, 0, none⟩)]] w fun e w' => e = .returned (.int .i64 (delInt.idx h l0 0)) ∧ Below w.heap.size w w' := by
 obtain ⟨hfM, hnM, hbM, hcM⟩ := hM
 have HR0 := Aside0.mk hr0
 have HC0 := Aside0.mk hc0
 have HL := Aside0.mk (show l0.length ≤ 9223372036854775807 from hr0.2.1)
 have HX := Aside0.mk hblk
 have HF := Aside0.mk hfM
 have HN1 := Aside0.mk hnM
 have HB1 := Aside0.mk hbM
 have HCM := Aside0.mk hcM
 clear hr0 hc0 hblk hfM hnM hbM hcM
 have HB := Aside0.mk (Below.refl w.heap.size w)
 obtain ⟨R, hR⟩ : ∃ R, R = delInt.idx h l0 0 := ⟨_, rfl⟩
 rw [← hR]
 have HN := Aside0.mk (show delInt.idx h (l0.drop 0) 0 = R from hR.symm)
 clear hR
 go_enter Try.func97, Try.ntmps97
 go_wp2
 go_loopg [5, 8] l0.length (fun kq _ v8 w' => ∃ x : Int, v8 = .int .i64 x ∧ Aside0 (∃ n : Nat, x = (n : Int) ∧ delInt.idx h (l0.drop n) n = R ∧ n + kq = l0.length) ∧ Aside0 (Below w.heap.size w w'))
 case atStart => exact ⟨0, rfl, ⟨0, rfl, HN.out, Nat.zero_add _⟩, HB⟩
 case round =>
  clear HN
  obtain ⟨x, rfl, HN, HB⟩ := hrel
  by_cases hlt : x < (l0.length : Int)
  ·have hd : decide (x < (l0.length : Int)) = true := decide_eq_true hlt
   have hn0 : 0 ≤ x := by obtain ⟨n, rfl, _⟩ := HN.out; exact Int.natCast_nonneg n
   obtain ⟨ad, hA, hx0⟩ := Kd.at_int HR0.out x hn0 hlt
   subst hA
   replace hx0 := (HB.out.cell (World.block_lt_of_cell? w _ hx0)).trans hx0
   have H0 := Aside0.mk hn0
   have H1 := Aside0.mk hlt
   replace hn0 := eq_true hn0
   replace hlt := eq_true hlt
   obtain ⟨y, hy⟩ : ∃ y, rd l0 x = y := ⟨_, rfl⟩
   rw [hy] at hx0
   have HY := Aside0.mk hy
   clear hy
   by_cases c : y = h
   ·have C := Aside0.mk c
    have hbq : (y == h) = true := beq_iff_eq.mpr c
    clear c
    go_wp2_with fail
    rw [enters_ HF.out HN1.out HB1.out, Oper.upon_enter]
    refine (HCM.out y _ (blk_below HX.out HB.out)).mono ?_
    rintro e w' ⟨rfl, hb'⟩
    have HB' := Aside0.mk hb'
    clear hb'
    rw [hbq]
    go_wp2
    go_ret
    refine ⟨?_, below_step HB.out HB'.out⟩
    obtain ⟨n, rfl, hn, hk⟩ := HN.out
    have e := delInt.idx_at h l0 n (Int.ofNat_lt.mp H1.out)
    rw [HY.out, if_pos C.out, hn] at e
    rw [e]
    rfl
   ·have C := Aside0.mk c
    have hbq : (y == h) = false := beq_eq_false_iff_ne.mpr c
    clear c
    go_wp2_with fail
    rw [enters_ HF.out HN1.out HB1.out, Oper.upon_enter]
    refine (HCM.out y _ (blk_below HX.out HB.out)).mono ?_
    rintro e w' ⟨rfl, hb'⟩
    have HB' := Aside0.mk hb'
    clear hb'
    rw [hbq]
    go_wp2
    obtain ⟨n, rfl, hn, hk⟩ := HN.out
    have hlt' := Int.ofNat_lt.mp H1.out
    go_roundg (gk - 1)
    case measure => omega
    case rel =>
     have e := delInt.idx_at h l0 n hlt'
     rw [HY.out, if_neg C.out, hn] at e
     exact ⟨_, rfl, ⟨n + 1, wsucc_ (by have := HL.out; omega), e.symm, by omega⟩, ⟨below_step HB.out HB'.out⟩⟩
  ·have hd : decide (x < (l0.length : Int)) = false := decide_eq_false hlt
   have HLT := Aside0.mk hlt
   clear hlt
   go_wp2
   go_ret
   obtain ⟨n, rfl, hn, hk⟩ := HN.out
   have hlt' := HLT.out
   rw [delInt.idx_end h l0 n (by omega)] at hn
   exact ⟨by rw [← hn]; rfl, HB.out⟩
def slices_DeleteFunc_int_int.f (l0 : List Int) (a1 : Int) : Option (List Int) := some (l0.filter (fun y => !(y == a1)))
theorem delInt.idx_neg (h : Int) : ∀ (l : List Int) (i : Nat), delInt.idx h l i = -1 → l.filter (fun y => !(y == h)) = l
 | [], _, _ => rfl
 | x :: r, i, e => by
  rw [delInt.idx] at e
  by_cases c : x = h
  ·rw [if_pos c] at e; omega
  ·rw [if_neg c] at e
   rw [List.filter_cons, if_pos (by simp [c]), delInt.idx_neg h r (i + 1) e]
theorem delInt.idx_pos (h : Int) : ∀ (l : List Int) (i : Nat), delInt.idx h l i ≠ -1 → ∃ p, p < l.length ∧ delInt.idx h l i = ((i + p : Nat) : Int) ∧ (l.take p).filter (fun y => !(y == h)) = l.take p ∧ rd l (p : Int) = h
 | [], _, e => by simp [delInt.idx] at e
 | x :: r, i, e => by
  rw [delInt.idx] at e ⊢
  by_cases c : x = h
  ·exact ⟨0, by simp, by rw [if_pos c]; simp, rfl, c⟩
  ·rw [if_neg c] at e ⊢
   obtain ⟨p, h1, h2, h3, h4⟩ := delInt.idx_pos h r (i + 1) e
   refine ⟨p + 1, by simpa using h1, by rw [h2]; omega, ?_, ?_⟩
   ·rw [List.take_succ_cons, List.filter_cons, if_pos (by simp [c]), h3]
   ·have : rd (x :: r) ((p + 1 : Nat) : Int) = rd r (p : Int) := by
     show (x :: r).getD ((p + 1 : Nat) : Int).toNat _ = r.getD (p : Int).toNat _
     simp
    rw [this, h4]
/-- What the loop keeps: ahead of i what stays of the first j, from j on the rest. -/
structure delInt.Inv (h : Int) (l cur : List Int) (i j : Nat) : Prop where
 len : cur.length = l.length
 lt : i < j
 le : j ≤ l.length
 front : cur.take i = (l.take j).filter (fun y => !(y == h))
 back : cur.drop j = l.drop j
theorem delInt.Inv.read {h : Int} {l cur : List Int} {i j : Nat} (v : delInt.Inv h l cur i j) (hj : j < l.length) : rd cur (j : Int) = rd l (j : Int) := by
 have e := congrArg (fun z => z.head?) v.back
 simp only [List.head?_drop] at e
 show cur.getD (j : Int).toNat _ = l.getD (j : Int).toNat _
 simp [List.getD_eq_getElem?_getD, e]
theorem delInt.take_succ {l : List Int} {j : Nat} (hj : j < l.length) : l.take (j + 1) = l.take j ++ [rd l (j : Int)] := by
 have e : rd l (j : Int) = l[j] := by
  show l.getD (j : Int).toNat _ = _
  simp [List.getD_eq_getElem?_getD, hj]
 rw [e, List.take_succ_eq_append_getElem hj]
theorem delInt.Inv.skip {h : Int} {l cur : List Int} {i j : Nat} (v : delInt.Inv h l cur i j) (hj : j < l.length) (e : rd l (j : Int) = h) : delInt.Inv h l cur i (j + 1) := by
 refine ⟨v.len, by have := v.lt; omega, hj, ?_, ?_⟩
 ·rw [v.front, delInt.take_succ hj, List.filter_append]
  simp [e]
 ·rw [← List.drop_drop, ← List.drop_drop, v.back]
theorem delInt.Inv.put {h : Int} {l cur : List Int} {i j : Nat} (v : delInt.Inv h l cur i j) (hj : j < l.length) (e : rd l (j : Int) ≠ h) : delInt.Inv h l (cur.set i (rd l (j : Int))) (i + 1) (j + 1) := by
 have hi := v.lt
 have hl := v.len
 refine ⟨by rw [List.length_set]; exact hl, by omega, hj, ?_, ?_⟩
 ·rw [List.take_succ_eq_append_getElem (by rw [List.length_set]; omega), List.take_set_of_le (Nat.le_refl _), v.front, delInt.take_succ hj, List.filter_append]
  simp [e]
 ·rw [List.drop_set_of_lt (by omega), ← List.drop_drop, ← List.drop_drop, v.back]
set_option maxHeartbeats 8000000 in
set_option maxRecDepth 100000 in
theorem slices_DeleteFunc_int_int.calls (P0_ : Nat → Prop) (u9000_ : Value) (l0 : List Int) (M : Nat) (fnM : Func) (B : Nat) (a1 : Int) (r : List Int) (w0 w : World) (hB : Below w0.heap.size w0 w) (ho0 : Kd.Q (Kd.int .i64) 3 w w0.heap.size P0_ u9000_ l0) (hM : delInt.Clo M fnM B a1) (hblk : w.heap[B]? = some (.cells #[.int .i64 a1] 3 (0, 0))) (hPB : ∀ k_, P0_ k_ → k_ ≠ B) (h : slices_DeleteFunc_int_int.f l0 a1 = some r) :
  Calls Try.prog 78 #[u9000_, .func (.func M) #[] #[.pointer (some ⟨B, 0, none⟩)]] w fun e w' => ∃ v0_ : Value, e = .returned v0_ ∧ Kd.Q (Kd.int .i64) 3 w' w0.heap.size (fun k_ => P0_ k_ ∨ w.heap.size ≤ k_) v0_ r ∧ Below w0.heap.size w0 w' ∧ Kept w w' (fun k_ => P0_ k_) := by
 obtain rfl := Option.some.inj h
 clear h
 obtain ⟨A0, c0, rfl, hlc⟩ := Kd.Q_slice ho0
 obtain ⟨_, _, hC⟩ := Kd.Q_reads' ho0
 have hidx := delInt.index M fnM B a1 hM A0 c0 l0 w hblk hC hlc
 have hL : l0.length ≤ 9223372036854775807 := hC.2.1
 obtain ⟨hfM, hnM, hbM, hcM⟩ := hM
 have HF := Aside0.mk hfM
 have HN1 := Aside0.mk hnM
 have HB1 := Aside0.mk hbM
 have HCM := Aside0.mk hcM
 have HX := Aside0.mk hblk
 have HQ := Aside0.mk ho0
 have HBW := Aside0.mk hB
 have HPB := Aside0.mk hPB
 have HL := Aside0.mk hL
 have HLC := Aside0.mk hlc
 clear hfM hnM hbM hcM hblk ho0 hB hPB hL hC
 by_cases ci : delInt.idx a1 l0 0 = -1
 ·have e1 := delInt.idx_neg a1 l0 0 ci
  rw [e1]
  rw [ci] at hidx
  clear e1 ci
  go_enter Try.func78, Try.ntmps78
  go_wp2_with fail
  refine hidx.mono ?_
  rintro e w' ⟨rfl, hb⟩
  have HB := Aside0.mk hb
  clear hb hidx
  go_wp2
  go_ret
  exact ⟨_, rfl, Kd.Q_mono (Kd.Q_below HQ.out HB.out) (fun _ h => Or.inl h), below_step HBW.out HB.out, Kept.below (Kept.refl _ _) HB.out⟩
 ·obtain ⟨p, hp, e1, e2, e3⟩ := delInt.idx_pos a1 l0 0 ci
  rw [Nat.zero_add] at e1
  rw [e1] at hidx
  obtain ⟨g, o, cap, hv, hbg, hgl, cl, hgc⟩ := Kd.Q_form HQ.out (by omega)
  injection hv with ha _ hcap
  subst ha
  subst hcap
  have hP0 : P0_ g := HQ.out.1 g rfl
  have HG := Aside0.mk hbg
  have HGL := Aside0.mk hgl
  have HP0 := Aside0.mk hP0
  have I0 : delInt.Inv a1 l0 l0 p (p + 1) := by
   refine ⟨rfl, by omega, hp, ?_, rfl⟩
   rw [delInt.take_succ hp, List.filter_append, e2]
   simp [e3]
  have HI0 := Aside0.mk I0
  have HP := Aside0.mk hp
  have ew : IntKind.i64.wrap ((p : Int) + 1) = ((p + 1 : Nat) : Int) := by exact (i64_w _).trans (by have := HL.out; unfold wrap64; omega)
  have hne : ((p : Int) == -1) = false := by rw [beq_eq_false_iff_ne]; omega
  clear ci e1 e2 e3 hbg hgl hgc hP0 I0 hp
  go_enter Try.func78, Try.ntmps78
  go_wp2_with fail
  refine hidx.mono ?_
  rintro e w1 ⟨rfl, hb⟩
  have HB := Aside0.mk hb
  clear hb hidx
  go_wp2
  go_loopg [5, 6, 7] (l0.length - (p + 1)) (fun kq v5 v6 v7 w' => ∃ x5 x6 : Int, v5 = .int .i64 x5 ∧ v6 = .int .i64 x6 ∧ Aside0 (∃ (i j : Nat) (cur : List Int), x5 = (i : Int) ∧ x6 = (j : Int) ∧ j + kq = l0.length + 0 ∧ delInt.Inv a1 l0 cur i j ∧ Kd.Q (Kd.int .i64) 3 w' w0.heap.size (fun k_ => P0_ k_ ∨ w.heap.size ≤ k_) (.slice (some ⟨g, o, none⟩) l0.length c0) cur) ∧ Aside0 (Below w0.heap.size w0 w') ∧ Aside0 (Kept w w' (fun k_ => P0_ k_)))
  case atStart =>
   exact ⟨(p : Int), ((p + 1 : Nat) : Int), rfl, rfl, ⟨p, p + 1, l0, rfl, rfl, by have := HP.out; omega, HI0.out, Kd.Q_mono (Kd.Q_below HQ.out HB.out) (fun _ h => Or.inl h)⟩, ⟨below_step HBW.out HB.out⟩, ⟨Kept.below (Kept.refl _ _) HB.out⟩⟩
  case round =>
   clear HI0 HQ HB HBW HP ew hne
   obtain ⟨x5, x6, rfl, rfl, HI, HB, HK⟩ := hrel
   obtain ⟨i, j, cur, rfl, rfl, hq, hi, hQ⟩ := HI.out
   clear HI
   have HI := Aside0.mk hi
   have HQ := Aside0.mk hQ
   have HJ := Aside0.mk hq
   clear hi hQ hq
   by_cases hlt : (j : Int) < (l0.length : Int)
   ·have hd : decide ((j : Int) < (l0.length : Int)) = true := decide_eq_true hlt
    have hn0 : (0 : Int) ≤ (j : Int) := Int.natCast_nonneg j
    obtain ⟨hx0, hf0⟩ := Kd.Q_cell (0 : Int) HQ.out (j : Int) hn0 hlt
    obtain ⟨y, hy⟩ : ∃ y, rd l0 (j : Int) = y := ⟨_, rfl⟩
    have hyc : rdOf (0 : Int) cur (j : Int) = y := (HI.out.read (Int.ofNat_lt.mp hlt)).trans hy
    rw [hyc] at hx0
    simp only [Int.toNat_natCast] at hx0 hf0
    have HY := Aside0.mk hy
    have HLT := Aside0.mk (Int.ofNat_lt.mp hlt)
    replace hn0 := eq_true hn0
    replace hlt := eq_true hlt
    clear hy hyc hf0
    by_cases c : y = a1
    ·have C := Aside0.mk c
     have hbq : (y == a1) = true := beq_iff_eq.mpr c
     clear c
     go_wp2_with fail
     rw [enters_ HF.out HN1.out HB1.out, Oper.upon_enter]
     refine (HCM.out y _ (blk_kept HX.out HK.out (fun h => HPB.out B h rfl))).mono ?_
     rintro e w' ⟨rfl, hb'⟩
     have HB' := Aside0.mk hb'
     clear hb'
     rw [hbq]
     go_wp2
     go_roundg (gk - 1)
     case measure => have := HJ.out; have := HLT.out; omega
     case rel =>
      exact ⟨(i : Int), _, rfl, rfl, ⟨i, j + 1, cur, rfl, wsucc_ (by have := HL.out; have := HLT.out; omega), by have := HJ.out; have := HLT.out; omega, HI.out.skip HLT.out (HY.out.trans C.out), Kd.Q_below HQ.out HB'.out⟩, ⟨below_step HB.out HB'.out⟩, ⟨Kept.below HK.out HB'.out⟩⟩
    ·have C := Aside0.mk c
     have hbq : (y == a1) = false := beq_eq_false_iff_ne.mpr c
     clear c
     go_wp2_with fail
     rw [enters_ HF.out HN1.out HB1.out, Oper.upon_enter]
     refine (HCM.out y _ (blk_kept HX.out HK.out (fun h => HPB.out B h rfl))).mono ?_
     rintro e w' ⟨rfl, hb'⟩
     have HB' := Aside0.mk hb'
     have HQ' := Aside0.mk (Kd.Q_below HQ.out hb')
     have hi0 : (0 : Int) ≤ (i : Int) := Int.natCast_nonneg i
     have hil : (i : Int) < (l0.length : Int) := by have := HI.out.lt; have := HLT.out; omega
     obtain ⟨hxi, hfi⟩ := Kd.Q_cell (0 : Int) HQ'.out (i : Int) hi0 hil
     simp only [Int.toNat_natCast] at hxi hfi
     have HS := Aside0.mk (by have h := Kd.Q_putg HQ'.out (i : Int) hi0 hil y; simp only [Int.toNat_natCast] at h; exact h)
     have HBS := Aside0.mk (below_set (j := o + i) (v := .int .i64 y) (below_step HB.out hb') HG.out)
     have HKS := Aside0.mk (Kept.setCell (p := ⟨g, o + i, none⟩) (Kept.below HK.out hb') (.inl HP0.out) (.int .i64 y))
     replace hi0 := eq_true hi0
     replace hil := eq_true hil
     clear hb'
     rw [hbq]
     go_wp2
     go_roundg (gk - 1)
     case measure => have := HJ.out; have := HLT.out; omega
     case rel =>
      have e := HI.out.put HLT.out (fun e => C.out (HY.out.symm.trans e))
      rw [HY.out] at e
      exact ⟨_, _, rfl, rfl, ⟨i + 1, j + 1, cur.set i y, wsucc_ (by have := HL.out; have := HLT.out; have := HI.out.lt; omega), wsucc_ (by have := HL.out; have := HLT.out; omega), by have := HJ.out; have := HLT.out; omega, e, HS.out.1⟩, ⟨HBS.out⟩, ⟨HKS.out⟩⟩
   ·have hd : decide ((j : Int) < (l0.length : Int)) = false := decide_eq_false hlt
    have hj : j = l0.length := by have := HI.out.le; omega
    subst hj
    have hil : i < l0.length := HI.out.lt
    have hcl : cur.length = l0.length := HI.out.len
    have hft : cur.take i = l0.filter (fun y => !(y == a1)) := by
     have := HI.out.front
     rwa [List.take_length] at this
    have hQt := Kd.Q_take HQ.out (m := i) (by omega)
    rw [hft] at hQt
    have HQT := Aside0.mk hQt
    have hc0 : i ≤ c0 := by have := HLC.out; omega
    have hli : (List.filter (fun y => !(y == a1)) l0).length = i := by rw [← hft, List.length_take]; omega
    obtain ⟨w2, hrun, hr2, hg2⟩ := Q_clear_run (P := Try.prog) (Kd.int .i64) w0.heap.size 23 0 3 (.int .i64 0) Try.underlying23 Try.zeroValue3 rfl (by decide) hQt (m := l0.length - i) (by omega) (by omega) (by omega) (c0 - i) (by decide)
    have HR2 := Aside0.mk hr2
    have HG2 := Aside0.mk hg2
    have b1 : (i : Int) ≤ (l0.length : Int) := by omega
    have b2 : (l0.length : Int) ≤ (c0 : Int) := by have := HLC.out; omega
    have b3 : (i : Int) ≤ (c0 : Int) := by omega
    have b4 : (0 : Int) ≤ (i : Int) := by omega
    have b5 : (c0 = i) = False := eq_false (by omega)
    have HLI := Aside0.mk hli
    change Sem.run _ (Builtin.clear_ #[23] 0 #[.slice (some ⟨g, o + i * 1, none⟩) (l0.length - i) (c0 - i)]) _ = _ at hrun
    rw [Nat.mul_one] at hrun
    clear hr2 hg2 hQt hft hcl hil hli hlt
    go_wp2
    go_ret
    exact ⟨_, rfl, HR2.out, HB.out.grown HG2.out HB.out.size (fun k hk => by injection hk with hk; subst hk; exact HG.out), Kept.of_grown HG2.out HK.out (fun k hk => by injection hk with hk; subst hk; exact .inl HP0.out)⟩
end Go.Proofs.Ytdeijmofaapgdaa.G

namespace Go.Proofs.Ytdeijmofaapgdaa.G
open Go.RowKit Go.Proofs.YtdeijmofaapgdaaW.PrintWords Go.Proofs.YtdeijmofaapgdaaW.PrintLast Go.Proofs.YtdeijmofaapgdaaW.PrintMore Go.Proofs.Ytdeijmofaapgdaa.Sh
attribute [local go_sem] max2_int min2_int max_two min_two max_three min_three max_four min_four
set_option linter.unusedVariables false
set_option linter.unusedSimpArgs false
open Go.Proofs.Ytdeijmofaapgdaa.Mm
theorem impl_Three_evictSmall.clo104 (B : Nat) (h : Int) : delInt.Clo 104 Try.f104 B h := by
 refine ⟨Try.func104, by kernel_rfl, by rfl, fun y W hb => ?_⟩
 have HB := Aside0.mk (Below.refl W.heap.size W)
 have hc : W.cell? ⟨B, 0, none⟩ = some (.int .i64 h) := (blk_cell hb 0).trans rfl
 clear hb
 go_enter Try.func104, Try.ntmps104
 go_wp2
 go_ret
 exact ⟨rfl, HB.out⟩
def impl_Three_evictSmall.l0 : Nat → Int → Int → List (S95) → List (S95) → List Int → Option (Int × Int × (List (S95)) × (List (S95)) × List Int × ByteArray × Bool)
 | 0, _, _, _, _, _ => none
 | k + 1, x604000, x604001, x604002, x604003, x604004 => if (x604002.length : Int) > 0 then (if 0 < (x604002.length : Int) then (if 1 ≤ (x604002.length : Int) then ((some (x604002.drop (1 : Int).toNat : List (S95))).bind fun y606 => (if ((rd_T95 x604002 0).f2) > 1 then (if x604003.length < 3518437208883 then (impl_Three_evictSmall.l0 k x604000 x604001 y606 (x604003 ++ [(⟨(rd_T95 x604002 0).f0, (rd_T95 x604002 0).f1, 0⟩ : S95)]) x604004) else (none)) else ((impl_Hash.f k ((rd_T95 x604002 0).f0)).bind fun t612 => ((slices_DeleteFunc_int_int.f x604004 t612).bind fun t614 => (if t614.length < 17592186044416 then ((some (t614 ++ [t612] : List Int)).bind fun y617 => ((impl_Three_ghosts.f x604000 x604001).bind fun t620 => (if (y617.length : Int) > t620 then (if 1 ≤ (y617.length : Int) then (some (x604000, x604001, y606, x604003, (y617.drop (1 : Int).toNat), (rd_T95 x604002 0).f0, true)) else (none)) else (some (x604000, x604001, y606, x604003, y617, (rd_T95 x604002 0).f0, true))))) else (none)))))) else (none)) else (none)) else (some (x604000, x604001, x604002, x604003, x604004, (⟨#[]⟩ : ByteArray), false))
def impl_Three_evictSmall.f (k : Nat) (a0_0 : Int) (a0_1 : Int) (l0_2 : List (S95)) (l0_3 : List (S95)) (l0_4 : List Int) : Option (Int × Int × (List (S95)) × (List (S95)) × List Int × ByteArray × Bool) := impl_Three_evictSmall.l0 k a0_0 a0_1 l0_2 l0_3 l0_4
theorem impl_Three_evictSmall.mono_l : ∀ k, (∀ y0 y1 y2 y3 y4, LeO (impl_Three_evictSmall.l0 k y0 y1 y2 y3 y4) (impl_Three_evictSmall.l0 (k + 1) y0 y1 y2 y3 y4))
 | 0 => fun _ _ _ _ _ r h => by simp [impl_Three_evictSmall.l0] at h
 | k + 1 => by
  have ih0 := impl_Three_evictSmall.mono_l k
  ·intro y0 y1 y2 y3 y4
   unfold impl_Three_evictSmall.l0
   repeat' first | (with_reducible first | exact ih0 _ _ _ _ _ | exact impl_Hash.mono _ _ | exact LeO.refl _ | exact LeO.none _ | refine LeO.ite ?_ ?_ | refine LeO.bind ?_ (fun _ => ?_)) | exact ih0 _ _ _ _ _ | exact impl_Hash.mono _ _ | exact LeO.none _ | refine LeO.ite ?_ ?_ | refine LeO.bind ?_ (fun _ => ?_)
theorem impl_Three_evictSmall.mono : ∀ a0 a1 a2 a3 a4 k, LeO (impl_Three_evictSmall.f k a0 a1 a2 a3 a4) (impl_Three_evictSmall.f (k + 1) a0 a1 a2 a3 a4) := by
 intro a0 a1 a2 a3 a4 k
 have ih0 := impl_Three_evictSmall.mono_l k
 unfold impl_Three_evictSmall.f
 repeat' first | (with_reducible first | exact ih0 _ _ _ _ _ | exact impl_Hash.mono _ _ | exact LeO.refl _ | exact LeO.none _ | refine LeO.ite ?_ ?_ | refine LeO.bind ?_ (fun _ => ?_)) | exact ih0 _ _ _ _ _ | exact impl_Hash.mono _ _ | exact LeO.none _ | refine LeO.ite ?_ ?_ | refine LeO.bind ?_ (fun _ => ?_)
def impl_Three_evictSmall.T6 : Bool × List (List Nat × List Nat) := (true, [([], []), ([], []), ([1], [1]), ([2], [2]), ([3], [3]), ([], []), ([5], [5]), ([4, 6], [4, 6]), ([0, 0, 1, 2, 3, 4, 5, 6, 7], [0]), ([8, 0, 1, 2, 3, 4, 5, 6, 7], [8]), ([9, 7, 7, 0, 1, 2, 3, 4, 5, 6, 7], [7, 9])])
def impl_Three_evictSmall.B6 : List Nat := [0, 0, 2, 6, 14, 0, 32, 126, 255, 511, 1023]
theorem impl_Three_evictSmall.tab6 : rtab .any (opsOf Try.f95 6) = impl_Three_evictSmall.T6 := by kernel_rfl
theorem impl_Three_evictSmall.bits6 : waitsOk impl_Three_evictSmall.T6.2 impl_Three_evictSmall.B6 = true := by kernel_rfl
def impl_Three_evictSmall.T8 : Bool × List (List Nat × List Nat) := (true, [([], []), ([], []), ([1], [1]), ([2], [2]), ([3], [3]), ([], []), ([4, 5], [4, 5]), ([], []), ([7], [7]), ([6, 8, 6], [6, 8]), ([0, 0, 1, 2, 3, 4, 5, 6, 7, 8, 9], [0]), ([10, 0, 1, 2, 3, 4, 5, 6, 7, 8, 9], [10]), ([11, 9, 9, 0, 1, 2, 3, 4, 5, 6, 7, 8, 9], [9, 11])])
def impl_Three_evictSmall.B8 : List Nat := [0, 0, 2, 6, 14, 0, 62, 0, 128, 510, 1023, 2047, 4095]
theorem impl_Three_evictSmall.tab8 : rtab .any (opsOf Try.f95 8) = impl_Three_evictSmall.T8 := by kernel_rfl
theorem impl_Three_evictSmall.bits8 : waitsOk impl_Three_evictSmall.T8.2 impl_Three_evictSmall.B8 = true := by kernel_rfl
def impl_Three_evictSmall.T9 : Bool × List (List Nat × List Nat) := (true, [([], []), ([0], [0]), ([1], [1]), ([2], [2]), ([3], [3]), ([], []), ([5], [5]), ([4, 6], [4, 6])])
def impl_Three_evictSmall.B9 : List Nat := [0, 1, 3, 7, 15, 0, 32, 127]
theorem impl_Three_evictSmall.tab9 : rtab .any (opsOf Try.f95 9) = impl_Three_evictSmall.T9 := by kernel_rfl
theorem impl_Three_evictSmall.bits9 : waitsOk impl_Three_evictSmall.T9.2 impl_Three_evictSmall.B9 = true := by kernel_rfl
set_option maxHeartbeats 8000000 in
set_option maxRecDepth 100000 in
theorem impl_Three_evictSmall.calls (k : Nat) (g : Nat) (a0_0 : Int) (a0_1 : Int) (u9000_ : Value) (l0_2 : List (S95)) (u9001_ : Value) (l0_3 : List (S95)) (u9002_ : Value) (l0_4 : List Int) (r1 : Int) (r2 : Int) (r3 : List (S95)) (r4 : List (S95)) (r5 : List Int) (r6 : ByteArray) (r7 : Bool) (w0 w : World) (F : List SP)  (hM : Mem w0 F w [row k95 95 u9000_ l0_2, row k95 95 u9001_ l0_3, row (Kd.int .i64) 3 u9002_ l0_4, box 32 g [.int .i64 a0_0, .int .i64 a0_1, u9000_, u9001_, u9002_]]) (h : impl_Three_evictSmall.f k a0_0 a0_1 l0_2 l0_3 l0_4 = some (r1, r2, r3, r4, r5, r6, r7)) :
  Calls Try.prog 95 #[.pointer (some ⟨g, 0, none⟩)] w fun e w' => ∃ v2_ v3_ v4_ : Value, e = .returned (.tuple #[.string r6, .bool r7]) ∧ Mem w0 F w' [row k95 95 v2_ r3, row k95 95 v3_ r4, row (Kd.int .i64) 3 v4_ r5, box 32 g [.int .i64 r1, .int .i64 r2, v2_, v3_, v4_]] := by
 have hu95 := Try.underlying95
 have HM := hM
 clear hM
 have H := h
 clear h
 unfold impl_Three_evictSmall.f at H
 go_enter Try.func95, Try.ntmps95
 have H' := Aside0.mk H
 clear H
 go_wp2
 go_loopg [] k (fun kq w' => ∃ (x604000_1 : Int) (x604001_1 : Int) (x604002_1 : List (S95)) (x604003_1 : List (S95)) (x604004_1 : List Int) (u604002 : Value) (u604003 : Value) (u604004 : Value), Aside0 (impl_Three_evictSmall.l0 kq x604000_1 x604001_1 x604002_1 x604003_1 x604004_1 = some (r1, r2, r3, r4, r5, r6, r7)) ∧ Aside0 (kq ≤ k) ∧ Mem w0 F w' [row k95 95 u604002 x604002_1, row k95 95 u604003 x604003_1, row (Kd.int .i64) 3 u604004 x604004_1, box 32 g [.int .i64 x604000_1, .int .i64 x604001_1, u604002, u604003, u604004]])
 case atStart => exact ⟨(a0_0), (a0_1), (l0_2), (l0_3), (l0_4), (u9000_), (u9001_), (u9002_), H', ⟨Nat.le_refl _⟩, (MD HM).pick [0, 1, 2, 3]⟩
 case round =>
  clear H' HM
  obtain ⟨x604000_1, x604001_1, x604002_1, x604003_1, x604004_1, u604002, u604003, u604004, HA, HK1, HM⟩ := hrel
  cases gk with
  | zero => exact absurd HA.out (by simp [impl_Three_evictSmall.l0])
  | succ k1 =>
   have H := HA.out
   clear HA
   simp only [impl_Three_evictSmall.l0] at H
   obtain ⟨hcz2_0, hcz2_1, hcz2_2, hcz2_3, hcz2_4, hfz2_0, hfz2_1, hfz2_2, hfz2_3, hfz2_4⟩ := bk5 (HM.bx 3 rfl)
   obtain ⟨Xo3, ko3, eo3⟩ := HM.rd 0 rfl
   subst eo3
   go_upto_if 11 with (fail)
   replace H := IT H; rcases H with ⟨c4, H⟩ | ⟨c4, H⟩
   ·replace c4 : (x604002_1.length : Int) > 0 := c4
    have c4b0 : decide (0 < (x604002_1.length : Int)) = true := decide_eq_true c4
    have c4b1 : decide (0 < x604002_1.length) = true := decide_eq_true (by omega)
    have c4b9 : decide (0 < x604002_1.length) = true := decide_eq_true (by omega)
    clear c4
    (first | rw [c4b0] | rw [c4b9] | (simp only [i64_w, i32_w]; rw [c4b0]) | skip)
    replace H := GD H; obtain ⟨c5, H⟩ := H
    replace c5 : 0 < (x604002_1.length : Int) := c5
    have c5b0 : decide (0 < (x604002_1.length : Int)) = true := decide_eq_true c5
    have c5b1 : decide (0 < x604002_1.length) = true := decide_eq_true (by omega)
    have c5b9 : decide (0 < x604002_1.length) = true := decide_eq_true (by omega)
    clear c5
    replace H := GD H; obtain ⟨c9, H⟩ := H
    have c9b0 := eq_true c9
    have c9b1 : decide (1 ≤ (x604002_1.length : Int)) = true := decide_eq_true c9
    clear c9
    replace H := BLt H; obtain ⟨y606, Ny606, H⟩ := H
    replace Ny606 := Aside0.mk Ny606
    have p604 : 0 ≤ (0 : Int) := (by omega)
    have q604 : (0 : Int) < (x604002_1.length : Int) := of_decide_eq_true AS
    obtain ⟨ad604, e604, hx604_0, hx604_1, hx604_2⟩ := at_T95 (HM.C 0 rfl).2.2 0 p604 q604
    cases e604
    have qi604 : (0 < x604002_1.length) = True := eq_true (by omega)
    (try rw [show ((0 : Int)).toNat = 0 from rfl] at hx604_0)
    (try rw [show 0 * 3 = 0 from rfl] at hx604_0)
    (try rw [Addr.add_zero'] at hx604_0)
    (try rw [show ((0 : Int)).toNat = 0 from rfl] at hx604_1)
    (try rw [show 0 * 3 = 0 from rfl] at hx604_1)
    (try rw [Addr.add_zero'] at hx604_1)
    (try rw [show ((0 : Int)).toNat = 0 from rfl] at hx604_2)
    (try rw [show 0 * 3 = 0 from rfl] at hx604_2)
    (try rw [Addr.add_zero'] at hx604_2)
    replace p604 := eq_true p604
    replace q604 := eq_true q604
    go_upto_if 28 with (first | ((with_reducible refine gate_dst (N := 4) rfl ?_); refine pB 4 95 [.string (⟨#[]⟩ : ByteArray), .string (⟨#[]⟩ : ByteArray), .int .i64 0] HM rfl ?_; clear HM; intro gb605 w6 HM) | ((with_reducible refine gate_st (p := 4) rfl ?_); refine pS 4 4 0 [.string ((rd_T95 x604002_1 0).f0), .string ((rd_T95 x604002_1 0).f1), .int .i64 ((rd_T95 x604002_1 0).f2)] HM rfl rfl ?_; clear HM; intro w7 HM; obtain ⟨hcz8_0, hcz8_1, hcz8_2, hcz8_3, hcz8_4, hfz8_0, hfz8_1, hfz8_2, hfz8_3, hfz8_4⟩ := bk5 (HM.bx 3 rfl)) | ((with_reducible refine gate_sl (t := 30) rfl ?_); refine pD 0 30 95 k95 _ _ 1 x604002_1 (some ad604) ko3 HM rfl Try.underlying30 info95 rfl (fun _ _ h => h) (by omega) (by have h_ : (1 : Int) ≤ ((x604002_1.length : Int) : Int) := of_decide_eq_true AS; first | exact h_ | (have e_ := (HM.C 0 rfl).1; omega)) ?_; clear HM; intro v607 HM; replace HM := HM.nmQ 0 rfl Ny606.out; obtain ⟨Xo10, ko10, eo10⟩ := HM.rd 0 rfl; subst eo10) | ((with_reducible refine gate_st (p := 25) rfl ?_); refine pS 3 25 2 [.slice Xo10 y606.length ko10] HM rfl rfl ?_; clear HM; intro w11 HM; obtain ⟨hcz12_0, hcz12_1, hcz12_2, hfz12_0, hfz12_1, hfz12_2⟩ := bk3 (HM.bx 4 rfl)))
    replace HM := nzM HM
    replace H := IT H; rcases H with ⟨c13, H⟩ | ⟨c13, H⟩
    ·have c13b0 : decide (1 < ((rd_T95 x604002_1 0).f2)) = true := decide_eq_true c13
     clear c13
     (first | rw [c13b0] | (simp only [i64_w, i32_w]; rw [c13b0]) | skip)
     try go_wp2_with (first | ((with_reducible refine gate_st (p := 29) rfl ?_); refine pS 4 29 2 [.int .i64 0] HM rfl rfl ?_; clear HM; intro w14 HM))
     replace H := GD H; obtain ⟨c15, H⟩ := H
     have LMc15 := Aside0.mk c15
     clear c15
     obtain ⟨Xo24, ko24, eo24⟩ := HM.rd 1 rfl
     subst eo24
     refine RGN 11 [0, 1, 2, 3, 4, 5, 6, 7, 8, 9, 10] (fun a0 b a w' => ∃ (v19 : Value) (v610 : Value), a = putSel a0 b [(0, 30, .pointer (some ⟨g, 0, none⟩)), (1, 31, .pointer (some ⟨g, 0, none⟩)), (2, 32, .pointer (some ⟨g, 0, none⟩)), (3, 33, .pointer (some ⟨g, 3, none⟩)), (4, 34, .slice Xo24 x604003_1.length ko24), (5, 35, .agg #[.string ((rd_T95 x604002_1 0).f0), .string ((rd_T95 x604002_1 0).f1), .int .i64 0]), (6, 36, v19), (7, 37, v610), (8, 38, .pointer (some ⟨g, 0, none⟩)), (9, 39, .pointer (some ⟨g, 3, none⟩))] ∧ Mem w0 F w' [row k95 95 (.slice Xo10 y606.length ko10) y606, sel (b 7) (row k95 95 v610 (x604003_1 ++ [(⟨(rd_T95 x604002_1 0).f0, (rd_T95 x604002_1 0).f1, 0⟩ : S95)])) (row k95 95 (.slice Xo24 x604003_1.length ko24) x604003_1), row (Kd.int .i64) 3 u604004 x604004_1, sel (b 10) (box 32 g [.int .i64 x604000_1, .int .i64 x604001_1, .slice Xo10 y606.length ko10, v610, u604004]) (box 32 g [.int .i64 x604000_1, .int .i64 x604001_1, .slice Xo10 y606.length ko10, .slice Xo24 x604003_1.length ko24, u604004]), box 95 gb605 [.string ((rd_T95 x604002_1 0).f0), .string ((rd_T95 x604002_1 0).f1), .int .i64 0], sel (b 6) (rowR k95 95 v19 [(⟨(rd_T95 x604002_1 0).f0, (rd_T95 x604002_1 0).f1, 0⟩ : S95)]) (emp)]) impl_Three_evictSmall.tab6 impl_Three_evictSmall.bits6 ?_ ?_ ?_
     ·exact ⟨.bool false, .bool false, PS0' rfl _, (HM.drew.ems 1).pick [0, 1, 2, 3, 4, 5]⟩
     ·clear HM
      refine steps_cons ?_ ?_
      ·rintro b a w ⟨v19, v610, ha, HM⟩ hb hon hoff
       refine ⟨_, rfl, fun K hK => ?_⟩
       have e0 := POF ha 0
       replace ha := Aside0.mk ha
       exact VL (.pointer (some ⟨g, 0, none⟩)) (hK.out _ _ ⟨v19, v610, PUT ha 0 hb, HM⟩)
      refine steps_cons ?_ ?_
      ·rintro b a w ⟨v19, v610, ha, HM⟩ hb hon hoff
       refine ⟨_, rfl, fun K hK => ?_⟩
       have e0 := POF ha 0
       replace ha := Aside0.mk ha
       exact VL (.pointer (some ⟨g, 0, none⟩)) (hK.out _ _ ⟨v19, v610, PUT ha 1 hb, HM⟩)
      refine steps_cons ?_ ?_
      ·rintro b a w ⟨v19, v610, ha, HM⟩ hb hon hoff
       refine ⟨_, rfl, fun K hK => ?_⟩
       have e31 := PON ha 1 (hon 1 (by kernel_rfl))
       replace ha := Aside0.mk ha
       exact VL (.pointer (some ⟨g, 0, none⟩)) (hK.out _ _ ⟨v19, v610, PUT ha 2 hb, HM⟩)
      refine steps_cons ?_ ?_
      ·rintro b a w ⟨v19, v610, ha, HM⟩ hb hon hoff
       refine ⟨_, rfl, fun K hK => ?_⟩
       have e32 := PON ha 2 (hon 2 (by kernel_rfl))
       replace ha := Aside0.mk ha
       exact VL (.pointer (some ⟨g, 3, none⟩)) (hK.out _ _ ⟨v19, v610, PUT ha 3 hb, HM⟩)
      refine steps_cons ?_ ?_
      ·rintro b a w ⟨v19, v610, ha, HM⟩ hb hon hoff
       refine ⟨_, rfl, fun K hK => ?_⟩
       have HZ := HM
       replace HM := HM.sF 3 rfl (hoff 10 (by kernel_rfl))
       obtain ⟨hcz25_0, hcz25_1, hcz25_2, hcz25_3, hcz25_4, hfz25_0, hfz25_1, hfz25_2, hfz25_3, hfz25_4⟩ := bk5 (HM.bx 3 rfl)
       have e33 := PON ha 3 (hon 3 (by kernel_rfl))
       replace ha := Aside0.mk ha
       exact VL (.slice Xo24 x604003_1.length ko24) (hK.out _ _ ⟨v19, v610, PUT ha 4 hb, HZ⟩)
      refine steps_cons ?_ ?_
      ·rintro b a w ⟨v19, v610, ha, HM⟩ hb hon hoff
       refine ⟨_, rfl, fun K hK => ?_⟩
       obtain ⟨hcz26_0, hcz26_1, hcz26_2, hfz26_0, hfz26_1, hfz26_2⟩ := bk3 (HM.bx 4 rfl)
       have e4 := POF ha 4
       replace ha := Aside0.mk ha
       exact VL (.agg #[.string ((rd_T95 x604002_1 0).f0), .string ((rd_T95 x604002_1 0).f1), .int .i64 0]) (hK.out _ _ ⟨v19, v610, PUT ha 5 hb, HM⟩)
      refine steps_cons ?_ ?_
      ·rintro b a w ⟨v19, v610, ha, HM⟩ hb hon hoff
       refine ⟨_, rfl, fun K hK => ?_⟩
       have e35 := PON ha 5 (hon 5 (by kernel_rfl))
       replace ha := Aside0.mk ha
       refine ST (eL 36 k95 95 [(⟨(rd_T95 x604002_1 0).f0, (rd_T95 x604002_1 0).f1, 0⟩ : S95)] [.string ((rd_T95 x604002_1 0).f0), .string ((rd_T95 x604002_1 0).f1), .int .i64 0] (Reps.c3 (show Kd.M k95 _ _ _ (⟨(rd_T95 x604002_1 0).f0, (rd_T95 x604002_1 0).f1, 0⟩ : S95) [.string ((rd_T95 x604002_1 0).f0), .string ((rd_T95 x604002_1 0).f1), .int .i64 0] from (k95_mkM _ _ _ (⟨(rd_T95 x604002_1 0).f0, (rd_T95 x604002_1 0).f1, 0⟩ : S95))) (Reps.none _ _)) HM rfl ?_)
       clear HM
       intro v19 w27 HM
       exact hK.out _ _ ⟨v19, v610, PUT ha 6 hb, (HM).pick [0, 1, 2, 3, 4, 6]⟩
      refine steps_cons ?_ ?_
      ·rintro b a w ⟨v19, v610, ha, HM⟩ hb hon hoff
       refine ⟨_, rfl, fun K hK => ?_⟩
       replace HM := HM.sF 1 rfl hb
       replace HM := HM.sT 5 rfl (hon 6 (by kernel_rfl))
       obtain ⟨Xo28, ko28, eo28⟩ := HM.rdR 5 rfl
       subst eo28
       have e34 := PON ha 4 (hon 4 (by kernel_rfl))
       have e36 := PON ha 6 (hon 6 (by kernel_rfl))
       replace ha := Aside0.mk ha
       refine ST (eAq 1 (.tmp 34) (.tmp 36) 30 95 k95 (.slice Xo24 x604003_1.length ko24) x604003_1 [(⟨(rd_T95 x604002_1 0).f0, (rd_T95 x604002_1 0).f1, 0⟩ : S95)] Xo28 ([(⟨(rd_T95 x604002_1 0).f0, (rd_T95 x604002_1 0).f1, 0⟩ : S95)].length) ko28 HM rfl Try.underlying30 info95 rfl (HM.CR 5 rfl).2.2 (by have h_ := LMc15.out; simp only [List.length_singleton]; omega) (by simp) ?_ (ops := #[]) (hw := by rfl) (hs := (eval_of e34)) (hx := (eval_of e36)))
       clear HM
       intro v610 w29 HM
       exact hK.out _ _ ⟨.slice Xo28 [(⟨(rd_T95 x604002_1 0).f0, (rd_T95 x604002_1 0).f1, 0⟩ : S95)].length ko28, v610, PUT ha 7 hb, (((HM.sF 3 rfl (hoff 10 (by kernel_rfl))).iF 3 rfl (hoff 10 (by kernel_rfl))).iT 5 rfl (hon 6 (by kernel_rfl))).pick [0, 1, 2, 3, 4, 5]⟩
      refine steps_cons ?_ ?_
      ·rintro b a w ⟨v19, v610, ha, HM⟩ hb hon hoff
       refine ⟨_, rfl, fun K hK => ?_⟩
       have e30 := PON ha 0 (hon 0 (by kernel_rfl))
       replace ha := Aside0.mk ha
       exact VL (.pointer (some ⟨g, 0, none⟩)) (hK.out _ _ ⟨v19, v610, PUT ha 8 hb, HM⟩)
      refine steps_cons ?_ ?_
      ·rintro b a w ⟨v19, v610, ha, HM⟩ hb hon hoff
       refine ⟨_, rfl, fun K hK => ?_⟩
       have e38 := PON ha 8 (hon 8 (by kernel_rfl))
       replace ha := Aside0.mk ha
       exact VL (.pointer (some ⟨g, 3, none⟩)) (hK.out _ _ ⟨v19, v610, PUT ha 9 hb, HM⟩)
      refine steps_cons ?_ ?_
      ·rintro b a w ⟨v19, v610, ha, HM⟩ hb hon hoff
       refine ⟨_, rfl, fun K hK => ?_⟩
       replace HM := HM.sT 1 rfl (hon 7 (by kernel_rfl))
       replace HM := HM.sF 3 rfl hb
       obtain ⟨Xo30, ko30, eo30⟩ := HM.rd 1 rfl
       subst eo30
       have e39 := PON ha 9 (hon 9 (by kernel_rfl))
       have e37 := PON ha 7 (hon 7 (by kernel_rfl))
       replace ha := Aside0.mk ha
       refine ST (eS 3 39 3 [.slice Xo30 (x604003_1 ++ [(⟨(rd_T95 x604002_1 0).f0, (rd_T95 x604002_1 0).f1, 0⟩ : S95)]).length ko30] HM rfl rfl ?_ (hp := (eval_of e39)) (hx := (by rw [eval_of e37]; rfl)))
       clear HM
       intro w31 HM
       exact hK.out _ _ ⟨v19, .slice Xo30 (x604003_1 ++ [(⟨(rd_T95 x604002_1 0).f0, (rd_T95 x604002_1 0).f1, 0⟩ : S95)]).length ko30, PUS ha, (HM.iT 1 rfl (hon 7 (by kernel_rfl))).pick [0, 1, 2, 3, 4, 5]⟩
      exact steps_nil
     rintro _ w32 ⟨v19, v610, rfl, HM⟩
     replace HM := HM.sT 1 rfl rfl
     replace HM := HM.sT 3 rfl rfl
     replace HM := HM.sT 5 rfl rfl
     simp only [putSel, if_true, Act.put, List.setIfInBounds_toArray, List.set_cons_zero, List.set_cons_succ, gt_iff_lt, ge_iff_le]
     have H' := Aside0.mk H
     clear H
     go_wp2
     go_roundg k1
     case measure => have := HK1.out; omega
     case rel => exact ⟨(x604000_1), (x604001_1), (y606), ((x604003_1 ++ [(⟨(rd_T95 x604002_1 0).f0, (rd_T95 x604002_1 0).f1, 0⟩ : S95)])), (x604004_1), (.slice Xo10 y606.length ko10), (v610), (u604004), H', ⟨by have := HK1.out; omega⟩, (MD HM).pick [0, 1, 2, 3]⟩
    ·have c13b0 : decide (1 < ((rd_T95 x604002_1 0).f2)) = false := decide_eq_false c13
     clear c13
     (first | rw [c13b0] | (simp only [i64_w, i32_w]; rw [c13b0]) | skip)
     replace H := BN H; obtain ⟨t612, A33, H⟩ := H
     try go_wp2_with (first | ((with_reducible refine gate_callee (f := 77) rfl ?_); refine pC (some 42) rfl #[.string ((rd_T95 x604002_1 0).f0)] rfl Try.func77 (impl_Hash.calls k1 ((rd_T95 x604002_1 0).f0) t612 _ A33.out) ?_; rintro e w34 ⟨rfl, hd⟩; refine ⟨_, rfl, ?_⟩; replace HM := HM.drawn hd; clear hd) | ((with_reducible refine gate_dst (N := 5) rfl ?_); refine pB 5 3 [.int .i64 0] HM rfl ?_; clear HM; intro gb613 w35 HM) | ((with_reducible refine gate_st (p := 5) rfl ?_); refine pS 5 5 0 [.int .i64 t612] HM rfl rfl ?_; clear HM; intro w36 HM))
     replace H := BN H; obtain ⟨t614, A37, H⟩ := H
     replace H := GD H; obtain ⟨c38, H⟩ := H
     have LMc38 := Aside0.mk c38
     clear c38
     replace H := BLt H; obtain ⟨y617, Ny617, H⟩ := H
     replace Ny617 := Aside0.mk Ny617
     obtain ⟨Xo48, ko48, eo48⟩ := HM.rd 2 rfl
     subst eo48
     refine RGN 13 [0, 1, 2, 3, 4, 5, 6, 7, 8, 9, 10, 11, 12] (fun a0 b a w' => ∃ (v615 : Value) (v43 : Value) (v618 : Value), a = putSel a0 b [(0, 43, .pointer (some ⟨g, 0, none⟩)), (1, 44, .pointer (some ⟨g, 0, none⟩)), (2, 45, .pointer (some ⟨g, 0, none⟩)), (3, 46, .pointer (some ⟨g, 4, none⟩)), (4, 47, .slice Xo48 x604004_1.length ko48), (5, 48, .func (.func 104) #[] #[.pointer (some ⟨gb613, 0, none⟩)]), (6, 49, v615), (7, 50, .int .i64 t612), (8, 51, v43), (9, 52, v618), (10, 53, .pointer (some ⟨g, 0, none⟩)), (11, 54, .pointer (some ⟨g, 4, none⟩))] ∧ Mem w0 F w' [row k95 95 (.slice Xo10 y606.length ko10) y606, row k95 95 u604003 x604003_1, sel (b 9) (row (Kd.int .i64) 3 v618 y617) (sel (b 6) (row (Kd.int .i64) 3 v615 t614) (row (Kd.int .i64) 3 (.slice Xo48 x604004_1.length ko48) x604004_1)), sel (b 12) (box 32 g [.int .i64 x604000_1, .int .i64 x604001_1, .slice Xo10 y606.length ko10, u604003, v618]) (box 32 g [.int .i64 x604000_1, .int .i64 x604001_1, .slice Xo10 y606.length ko10, u604003, .slice Xo48 x604004_1.length ko48]), box 95 gb605 [.string ((rd_T95 x604002_1 0).f0), .string ((rd_T95 x604002_1 0).f1), .int .i64 ((rd_T95 x604002_1 0).f2)], box 3 gb613 [.int .i64 t612], sel (b 8) (rowR (Kd.int .i64) 3 v43 [t612]) (emp)]) impl_Three_evictSmall.tab8 impl_Three_evictSmall.bits8 ?_ ?_ ?_
     ·exact ⟨.bool false, .bool false, .bool false, PS0' rfl _, (HM.drew.ems 1).pick [0, 1, 2, 3, 4, 5, 6]⟩
     ·clear HM
      refine steps_cons ?_ ?_
      ·rintro b a w ⟨v615, v43, v618, ha, HM⟩ hb hon hoff
       refine ⟨_, rfl, fun K hK => ?_⟩
       have e0 := POF ha 0
       replace ha := Aside0.mk ha
       exact VL (.pointer (some ⟨g, 0, none⟩)) (hK.out _ _ ⟨v615, v43, v618, PUT ha 0 hb, HM⟩)
      refine steps_cons ?_ ?_
      ·rintro b a w ⟨v615, v43, v618, ha, HM⟩ hb hon hoff
       refine ⟨_, rfl, fun K hK => ?_⟩
       have e0 := POF ha 0
       replace ha := Aside0.mk ha
       exact VL (.pointer (some ⟨g, 0, none⟩)) (hK.out _ _ ⟨v615, v43, v618, PUT ha 1 hb, HM⟩)
      refine steps_cons ?_ ?_
      ·rintro b a w ⟨v615, v43, v618, ha, HM⟩ hb hon hoff
       refine ⟨_, rfl, fun K hK => ?_⟩
       have e44 := PON ha 1 (hon 1 (by kernel_rfl))
       replace ha := Aside0.mk ha
       exact VL (.pointer (some ⟨g, 0, none⟩)) (hK.out _ _ ⟨v615, v43, v618, PUT ha 2 hb, HM⟩)
      refine steps_cons ?_ ?_
      ·rintro b a w ⟨v615, v43, v618, ha, HM⟩ hb hon hoff
       refine ⟨_, rfl, fun K hK => ?_⟩
       have e45 := PON ha 2 (hon 2 (by kernel_rfl))
       replace ha := Aside0.mk ha
       exact VL (.pointer (some ⟨g, 4, none⟩)) (hK.out _ _ ⟨v615, v43, v618, PUT ha 3 hb, HM⟩)
      refine steps_cons ?_ ?_
      ·rintro b a w ⟨v615, v43, v618, ha, HM⟩ hb hon hoff
       refine ⟨_, rfl, fun K hK => ?_⟩
       have HZ := HM
       replace HM := HM.sF 3 rfl (hoff 12 (by kernel_rfl))
       obtain ⟨hcz49_0, hcz49_1, hcz49_2, hcz49_3, hcz49_4, hfz49_0, hfz49_1, hfz49_2, hfz49_3, hfz49_4⟩ := bk5 (HM.bx 3 rfl)
       have e46 := PON ha 3 (hon 3 (by kernel_rfl))
       replace ha := Aside0.mk ha
       exact VL (.slice Xo48 x604004_1.length ko48) (hK.out _ _ ⟨v615, v43, v618, PUT ha 4 hb, HZ⟩)
      refine steps_cons ?_ ?_
      ·rintro b a w ⟨v615, v43, v618, ha, HM⟩ hb hon hoff
       refine ⟨_, rfl, fun K hK => ?_⟩
       have e5 := POF ha 5
       replace ha := Aside0.mk ha
       exact VL (.func (.func 104) #[] #[.pointer (some ⟨gb613, 0, none⟩)]) (hK.out _ _ ⟨v615, v43, v618, PUT ha 5 hb, HM⟩)
      refine steps_cons ?_ ?_
      ·rintro b a w ⟨v615, v43, v618, ha, HM⟩ hb hon hoff
       refine ⟨_, rfl, fun K hK => ?_⟩
       replace HM := (HM.sF 2 rfl (hoff 9 (by kernel_rfl))).sF 2 rfl hb
       obtain ⟨P_, hq_, hn_, fin_⟩ := HM.man 2 5 rfl rfl
       have e47 := PON ha 4 (hon 4 (by kernel_rfl))
       have e48 := PON ha 5 (hon 5 (by kernel_rfl))
       replace ha := Aside0.mk ha
       refine ST (eC (some 49) rfl #[.slice Xo48 x604004_1.length ko48, .func (.func 104) #[] #[.pointer (some ⟨gb613, 0, none⟩)]] rfl Try.func78 (slices_DeleteFunc_int_int.calls P_ (.slice Xo48 x604004_1.length ko48) x604004_1 104 Try.f104 gb613 t612 t614 (bare _) _ (bare_below _) hq_ (impl_Three_evictSmall.clo104 _ _) (HM.bx 5 rfl) hn_ A37.out) ?_ (hargs := by (simp only [List.map_toArray, List.map_cons, List.map_nil, evc, eval_of e47, eval_of e48]) <;> rfl))
       rintro e w50 ⟨v615, rfl, hQ_, hB_, hK_⟩
       refine ⟨_, rfl, ?_⟩
       replace HM := fin_ _ _ _ hQ_ hB_ hK_
       clear hQ_ hB_ hK_ hq_ hn_ fin_ P_
       exact hK.out _ _ ⟨v615, v43, v618, PUT ha 6 hb, (HM.iF 2 rfl (hoff 9 (by kernel_rfl))).pick [0, 1, 2, 3, 4, 5, 6]⟩
      refine steps_cons ?_ ?_
      ·rintro b a w ⟨v615, v43, v618, ha, HM⟩ hb hon hoff
       refine ⟨_, rfl, fun K hK => ?_⟩
       obtain ⟨hcz51_0, hfz51_0⟩ := bk1 (HM.bx 5 rfl)
       have e5 := POF ha 5
       replace ha := Aside0.mk ha
       exact VL (.int .i64 t612) (hK.out _ _ ⟨v615, v43, v618, PUT ha 7 hb, HM⟩)
      refine steps_cons ?_ ?_
      ·rintro b a w ⟨v615, v43, v618, ha, HM⟩ hb hon hoff
       refine ⟨_, rfl, fun K hK => ?_⟩
       have e50 := PON ha 7 (hon 7 (by kernel_rfl))
       replace ha := Aside0.mk ha
       refine ST (eL 51 (Kd.int .i64) 3 [t612] [.int .i64 t612] (Reps.one (show Kd.M (Kd.int .i64) _ _ _ t612 [.int .i64 t612] from rfl) (Reps.none _ _)) HM rfl ?_)
       clear HM
       intro v43 w52 HM
       exact hK.out _ _ ⟨v615, v43, v618, PUT ha 8 hb, (HM).pick [0, 1, 2, 3, 4, 5, 7]⟩
      refine steps_cons ?_ ?_
      ·rintro b a w ⟨v615, v43, v618, ha, HM⟩ hb hon hoff
       refine ⟨_, rfl, fun K hK => ?_⟩
       replace HM := (HM.sF 2 rfl hb).sT 2 rfl (hon 6 (by kernel_rfl))
       replace HM := HM.sT 6 rfl (hon 8 (by kernel_rfl))
       obtain ⟨Xo53, ko53, eo53⟩ := HM.rdR 6 rfl
       subst eo53
       have e49 := PON ha 6 (hon 6 (by kernel_rfl))
       have e51 := PON ha 8 (hon 8 (by kernel_rfl))
       replace ha := Aside0.mk ha
       refine ST (eAq 2 (.tmp 49) (.tmp 51) 23 3 (Kd.int .i64) v615 t614 [t612] Xo53 ([t612].length) ko53 HM rfl Try.underlying23 info3 rfl (HM.CR 6 rfl).2.2 (by have h_ := LMc38.out; simp only [List.length_singleton]; omega) (by simp) ?_ (ops := #[]) (hw := by rfl) (hs := (eval_of e49)) (hx := (eval_of e51)))
       clear HM
       intro v618 w54 HM
       replace HM := HM.nmQ 2 rfl Ny617.out
       exact hK.out _ _ ⟨v615, .slice Xo53 [t612].length ko53, v618, PUT ha 9 hb, (((HM.sF 3 rfl (hoff 12 (by kernel_rfl))).iF 3 rfl (hoff 12 (by kernel_rfl))).iT 6 rfl (hon 8 (by kernel_rfl))).pick [0, 1, 2, 3, 4, 5, 6]⟩
      refine steps_cons ?_ ?_
      ·rintro b a w ⟨v615, v43, v618, ha, HM⟩ hb hon hoff
       refine ⟨_, rfl, fun K hK => ?_⟩
       have e43 := PON ha 0 (hon 0 (by kernel_rfl))
       replace ha := Aside0.mk ha
       exact VL (.pointer (some ⟨g, 0, none⟩)) (hK.out _ _ ⟨v615, v43, v618, PUT ha 10 hb, HM⟩)
      refine steps_cons ?_ ?_
      ·rintro b a w ⟨v615, v43, v618, ha, HM⟩ hb hon hoff
       refine ⟨_, rfl, fun K hK => ?_⟩
       have e53 := PON ha 10 (hon 10 (by kernel_rfl))
       replace ha := Aside0.mk ha
       exact VL (.pointer (some ⟨g, 4, none⟩)) (hK.out _ _ ⟨v615, v43, v618, PUT ha 11 hb, HM⟩)
      refine steps_cons ?_ ?_
      ·rintro b a w ⟨v615, v43, v618, ha, HM⟩ hb hon hoff
       refine ⟨_, rfl, fun K hK => ?_⟩
       replace HM := HM.sT 2 rfl (hon 9 (by kernel_rfl))
       replace HM := HM.sF 3 rfl hb
       obtain ⟨Xo55, ko55, eo55⟩ := HM.rd 2 rfl
       subst eo55
       have e54 := PON ha 11 (hon 11 (by kernel_rfl))
       have e52 := PON ha 9 (hon 9 (by kernel_rfl))
       replace ha := Aside0.mk ha
       refine ST (eS 3 54 4 [.slice Xo55 y617.length ko55] HM rfl rfl ?_ (hp := (eval_of e54)) (hx := (by rw [eval_of e52]; rfl)))
       clear HM
       intro w56 HM
       exact hK.out _ _ ⟨v615, v43, .slice Xo55 y617.length ko55, PUS ha, (HM.iT 2 rfl (hon 9 (by kernel_rfl))).pick [0, 1, 2, 3, 4, 5, 6]⟩
      exact steps_nil
     rintro _ w57 ⟨v615, v43, v618, rfl, HM⟩
     replace HM := HM.sT 2 rfl rfl
     replace HM := HM.sT 3 rfl rfl
     replace HM := HM.sT 6 rfl rfl
     simp only [putSel, if_true, Act.put, List.setIfInBounds_toArray, List.set_cons_zero, List.set_cons_succ, gt_iff_lt, ge_iff_le]
     try go_wp2
     replace H := BN H; obtain ⟨t620, A58, H⟩ := H
     obtain ⟨Xo62, ko62, eo62⟩ := HM.rd 2 rfl
     subst eo62
     refine RGN 8 [0, 1, 2, 3, 4, 5, 6, 7] (fun a0 b a w' => a = putSel a0 b [(0, 55, .pointer (some ⟨g, 0, none⟩)), (1, 56, .pointer (some ⟨g, 0, none⟩)), (2, 57, .pointer (some ⟨g, 4, none⟩)), (3, 58, .slice Xo62 y617.length ko62), (4, 59, .int .i64 (y617.length : Int)), (5, 60, .pointer (some ⟨g, 0, none⟩)), (6, 61, .int .i64 t620), (7, 62, .bool (decide ((y617.length : Int) > t620)))] ∧ Mem w0 F w' [row k95 95 (.slice Xo10 y606.length ko10) y606, row k95 95 u604003 x604003_1, row (Kd.int .i64) 3 (.slice Xo62 y617.length ko62) y617, box 32 g [.int .i64 x604000_1, .int .i64 x604001_1, .slice Xo10 y606.length ko10, u604003, .slice Xo62 y617.length ko62], box 95 gb605 [.string ((rd_T95 x604002_1 0).f0), .string ((rd_T95 x604002_1 0).f1), .int .i64 ((rd_T95 x604002_1 0).f2)], box 3 gb613 [.int .i64 t612], rowR (Kd.int .i64) 3 v43 [t612]]) impl_Three_evictSmall.tab9 impl_Three_evictSmall.bits9 ?_ ?_ ?_
     ·exact ⟨PS0' rfl _, (HM.drew).pick [0, 1, 2, 3, 4, 5, 6]⟩
     ·clear HM
      refine steps_cons ?_ ?_
      ·rintro b a w ⟨ha, HM⟩ hb hon hoff
       refine ⟨_, rfl, fun K hK => ?_⟩
       have e0 := POF ha 0
       replace ha := Aside0.mk ha
       exact VL (.pointer (some ⟨g, 0, none⟩)) (hK.out _ _ ⟨PUT ha 0 hb, HM⟩)
      refine steps_cons ?_ ?_
      ·rintro b a w ⟨ha, HM⟩ hb hon hoff
       refine ⟨_, rfl, fun K hK => ?_⟩
       have e55 := PON ha 0 (hon 0 (by kernel_rfl))
       replace ha := Aside0.mk ha
       exact VL (.pointer (some ⟨g, 0, none⟩)) (hK.out _ _ ⟨PUT ha 1 hb, HM⟩)
      refine steps_cons ?_ ?_
      ·rintro b a w ⟨ha, HM⟩ hb hon hoff
       refine ⟨_, rfl, fun K hK => ?_⟩
       have e56 := PON ha 1 (hon 1 (by kernel_rfl))
       replace ha := Aside0.mk ha
       exact VL (.pointer (some ⟨g, 4, none⟩)) (hK.out _ _ ⟨PUT ha 2 hb, HM⟩)
      refine steps_cons ?_ ?_
      ·rintro b a w ⟨ha, HM⟩ hb hon hoff
       refine ⟨_, rfl, fun K hK => ?_⟩
       obtain ⟨hcz63_0, hcz63_1, hcz63_2, hcz63_3, hcz63_4, hfz63_0, hfz63_1, hfz63_2, hfz63_3, hfz63_4⟩ := bk5 (HM.bx 3 rfl)
       have e57 := PON ha 2 (hon 2 (by kernel_rfl))
       replace ha := Aside0.mk ha
       exact VL (.slice Xo62 y617.length ko62) (hK.out _ _ ⟨PUT ha 3 hb, HM⟩)
      refine steps_cons ?_ ?_
      ·rintro b a w ⟨ha, HM⟩ hb hon hoff
       refine ⟨_, rfl, fun K hK => ?_⟩
       have e58 := PON ha 3 (hon 3 (by kernel_rfl))
       replace ha := Aside0.mk ha
       exact VL (.int .i64 (y617.length : Int)) (hK.out _ _ ⟨PUT ha 4 hb, HM⟩)
      refine steps_cons ?_ ?_
      ·rintro b a w ⟨ha, HM⟩ hb hon hoff
       refine ⟨_, rfl, fun K hK => ?_⟩
       have e0 := POF ha 0
       replace ha := Aside0.mk ha
       exact VL (.pointer (some ⟨g, 0, none⟩)) (hK.out _ _ ⟨PUT ha 5 hb, HM⟩)
      refine steps_cons ?_ ?_
      ·rintro b a w ⟨ha, HM⟩ hb hon hoff
       refine ⟨_, rfl, fun K hK => ?_⟩
       have e60 := PON ha 5 (hon 5 (by kernel_rfl))
       replace ha := Aside0.mk ha
       refine ST (eC (some 61) rfl #[.pointer (some ⟨g, 0, none⟩)] rfl Try.func56 (impl_Three_ghosts.calls g x604000_1 x604001_1 _ _ _ t620 _ (HM.bx 3 rfl) A58.out) ?_ (hargs := by (simp only [List.map_toArray, List.map_cons, List.map_nil, evc, eval_of e60]) <;> rfl))
       rintro e w64 ⟨rfl, nd_, rfl⟩
       refine ⟨_, rfl, ?_⟩
       replace HM := HM.drewN nd_
       exact hK.out _ _ ⟨PUT ha 6 hb, (HM).pick [0, 1, 2, 3, 4, 5, 6]⟩
      refine steps_cons ?_ ?_
      ·rintro b a w ⟨ha, HM⟩ hb hon hoff
       refine ⟨_, rfl, fun K hK => ?_⟩
       have e59 := PON ha 4 (hon 4 (by kernel_rfl))
       have e61 := PON ha 6 (hon 6 (by kernel_rfl))
       replace ha := Aside0.mk ha
       exact VL (.bool (decide ((y617.length : Int) > t620))) (hK.out _ _ ⟨PUT ha 7 hb, HM⟩)
      exact steps_nil
     rintro _ w65 ⟨rfl, HM⟩
     simp only [putSel, if_true, Act.put, List.setIfInBounds_toArray, List.set_cons_zero, List.set_cons_succ, gt_iff_lt, ge_iff_le]
     go_upto_if 62 with (fail)
     replace H := IT H; rcases H with ⟨c66, H⟩ | ⟨c66, H⟩
     ·have c66b0 : decide (t620 < (y617.length : Int)) = true := decide_eq_true c66
      clear c66
      (first | rw [c66b0] | (simp only [i64_w, i32_w]; rw [c66b0]) | skip)
      replace H := GD H; obtain ⟨c68, H⟩ := H
      have c68b0 := eq_true c68
      have c68b1 : decide (1 ≤ (y617.length : Int)) = true := decide_eq_true c68
      clear c68
      simp only [Option.some.injEq, Prod.mk.injEq] at H
      obtain ⟨rfl, rfl, rfl, rfl, rfl, rfl, rfl⟩ := H
      obtain ⟨hcz67_0, hcz67_1, hcz67_2, hcz67_3, hcz67_4, hfz67_0, hfz67_1, hfz67_2, hfz67_3, hfz67_4⟩ := bk5 (HM.bx 3 rfl)
      go_wp2_with (first | ((with_reducible refine gate_sl (t := 23) rfl ?_); refine pD 2 23 3 (Kd.int .i64) _ _ 1 y617 Xo62 ko62 HM rfl Try.underlying23 info3 rfl (fun _ _ h => h) (by omega) (by have h_ : (1 : Int) ≤ ((y617.length : Int) : Int) := of_decide_eq_true AS; first | exact h_ | (have e_ := (HM.C 2 rfl).1; omega)) ?_; clear HM; intro v622 HM; obtain ⟨Xo69, ko69, eo69⟩ := HM.rd 2 rfl; subst eo69) | ((with_reducible refine gate_st (p := 70) rfl ?_); refine pS 3 70 4 [.slice Xo69 (y617.drop (1 : Int).toNat).length ko69] HM rfl rfl ?_; clear HM; intro w70 HM; obtain ⟨hcz71_0, hcz71_1, hcz71_2, hfz71_0, hfz71_1, hfz71_2⟩ := bk3 (HM.bx 4 rfl)))
      go_ret2
      exact ⟨_, _, _, ER, (MD HM).pick [0, 1, 2, 3]⟩
     ·have c66b0 : decide (t620 < (y617.length : Int)) = false := decide_eq_false c66
      clear c66
      (first | rw [c66b0] | (simp only [i64_w, i32_w]; rw [c66b0]) | skip)
      simp only [Option.some.injEq, Prod.mk.injEq] at H
      obtain ⟨rfl, rfl, rfl, rfl, rfl, rfl, rfl⟩ := H
      obtain ⟨hcz72_0, hcz72_1, hcz72_2, hfz72_0, hfz72_1, hfz72_2⟩ := bk3 (HM.bx 4 rfl)
      go_wp2
      go_ret2
      exact ⟨_, _, _, ER, (MD HM).pick [0, 1, 2, 3]⟩
   ·replace c4 : ¬ ((x604002_1.length : Int) > 0) := c4
    have c4b0 : decide (0 < (x604002_1.length : Int)) = false := decide_eq_false c4
    have c4b1 : decide (0 < x604002_1.length) = false := decide_eq_false (by omega)
    have c4b9 : decide (0 < x604002_1.length) = false := decide_eq_false (by omega)
    clear c4
    (first | rw [c4b0] | rw [c4b9] | (simp only [i64_w, i32_w]; rw [c4b0]) | skip)
    simp only [Option.some.injEq, Prod.mk.injEq] at H
    obtain ⟨rfl, rfl, rfl, rfl, rfl, rfl, rfl⟩ := H
    go_wp2
    go_ret2
    exact ⟨_, _, _, ER, (MD HM).pick [0, 1, 2, 3]⟩
def impl_Three_evictMain.l0 : Nat → Int → Int → List (S95) → List (S95) → List Int → Option (Int × Int × (List (S95)) × (List (S95)) × List Int × ByteArray × Bool)
 | 0, _, _, _, _, _ => none
 | k + 1, x625000, x625001, x625002, x625003, x625004 => if (x625003.length : Int) > 0 then (if 0 < (x625003.length : Int) then (if 1 ≤ (x625003.length : Int) then ((some (x625003.drop (1 : Int).toNat : List (S95))).bind fun y627 => (if ((rd_T95 x625003 0).f2) = 0 then (some (x625000, x625001, x625002, y627, x625004, (rd_T95 x625003 0).f0, true)) else (if y627.length < 3518437208883 then (impl_Three_evictMain.l0 k x625000 x625001 x625002 (y627 ++ [(⟨(rd_T95 x625003 0).f0, (rd_T95 x625003 0).f1, wrap64 (((rd_T95 x625003 0).f2) - 1)⟩ : S95)]) x625004) else (none)))) else (none)) else (none)) else (some (x625000, x625001, x625002, x625003, x625004, (⟨#[]⟩ : ByteArray), false))
def impl_Three_evictMain.f (k : Nat) (a0_0 : Int) (a0_1 : Int) (l0_2 : List (S95)) (l0_3 : List (S95)) (l0_4 : List Int) : Option (Int × Int × (List (S95)) × (List (S95)) × List Int × ByteArray × Bool) := impl_Three_evictMain.l0 k a0_0 a0_1 l0_2 l0_3 l0_4
theorem impl_Three_evictMain.mono_l : ∀ k, (∀ y0 y1 y2 y3 y4, LeO (impl_Three_evictMain.l0 k y0 y1 y2 y3 y4) (impl_Three_evictMain.l0 (k + 1) y0 y1 y2 y3 y4))
 | 0 => fun _ _ _ _ _ r h => by simp [impl_Three_evictMain.l0] at h
 | k + 1 => by
  have ih0 := impl_Three_evictMain.mono_l k
  ·intro y0 y1 y2 y3 y4
   unfold impl_Three_evictMain.l0
   repeat' first | (with_reducible first | exact ih0 _ _ _ _ _ | exact LeO.refl _ | exact LeO.none _ | refine LeO.ite ?_ ?_ | refine LeO.bind ?_ (fun _ => ?_)) | exact ih0 _ _ _ _ _ | exact LeO.none _ | refine LeO.ite ?_ ?_ | refine LeO.bind ?_ (fun _ => ?_)
theorem impl_Three_evictMain.mono : ∀ a0 a1 a2 a3 a4 k, LeO (impl_Three_evictMain.f k a0 a1 a2 a3 a4) (impl_Three_evictMain.f (k + 1) a0 a1 a2 a3 a4) := by
 intro a0 a1 a2 a3 a4 k
 have ih0 := impl_Three_evictMain.mono_l k
 unfold impl_Three_evictMain.f
 repeat' first | (with_reducible first | exact ih0 _ _ _ _ _ | exact LeO.refl _ | exact LeO.none _ | refine LeO.ite ?_ ?_ | refine LeO.bind ?_ (fun _ => ?_)) | exact ih0 _ _ _ _ _ | exact LeO.none _ | refine LeO.ite ?_ ?_ | refine LeO.bind ?_ (fun _ => ?_)
def impl_Three_evictMain.T7 : Bool × List (List Nat × List Nat) := (true, [([], []), ([], []), ([1], [1]), ([2], [2]), ([3], [3]), ([], []), ([5], [5]), ([4, 6], [4, 6]), ([0, 0, 1, 2, 3, 4, 5, 6, 7], [0]), ([8, 0, 1, 2, 3, 4, 5, 6, 7], [8]), ([9, 7, 7, 0, 1, 2, 3, 4, 5, 6, 7], [7, 9])])
def impl_Three_evictMain.B7 : List Nat := [0, 0, 2, 6, 14, 0, 32, 126, 255, 511, 1023]
theorem impl_Three_evictMain.tab7 : rtab .any (opsOf Try.f96 7) = impl_Three_evictMain.T7 := by kernel_rfl
theorem impl_Three_evictMain.bits7 : waitsOk impl_Three_evictMain.T7.2 impl_Three_evictMain.B7 = true := by kernel_rfl
set_option maxHeartbeats 8000000 in
set_option maxRecDepth 100000 in
theorem impl_Three_evictMain.calls (k : Nat) (g : Nat) (a0_0 : Int) (a0_1 : Int) (u9000_ : Value) (l0_2 : List (S95)) (u9001_ : Value) (l0_3 : List (S95)) (u9002_ : Value) (l0_4 : List Int) (r1 : Int) (r2 : Int) (r3 : List (S95)) (r4 : List (S95)) (r5 : List Int) (r6 : ByteArray) (r7 : Bool) (w0 w : World) (F : List SP)  (hM : Mem w0 F w [row k95 95 u9000_ l0_2, row k95 95 u9001_ l0_3, row (Kd.int .i64) 3 u9002_ l0_4, box 32 g [.int .i64 a0_0, .int .i64 a0_1, u9000_, u9001_, u9002_]]) (h : impl_Three_evictMain.f k a0_0 a0_1 l0_2 l0_3 l0_4 = some (r1, r2, r3, r4, r5, r6, r7)) :
  Calls Try.prog 96 #[.pointer (some ⟨g, 0, none⟩)] w fun e w' => ∃ v2_ v3_ v4_ : Value, e = .returned (.tuple #[.string r6, .bool r7]) ∧ Mem w0 F w' [row k95 95 v2_ r3, row k95 95 v3_ r4, row (Kd.int .i64) 3 v4_ r5, box 32 g [.int .i64 r1, .int .i64 r2, v2_, v3_, v4_]] := by
 have hu95 := Try.underlying95
 have HM := hM
 clear hM
 have H := h
 clear h
 unfold impl_Three_evictMain.f at H
 go_enter Try.func96, Try.ntmps96
 have H' := Aside0.mk H
 clear H
 go_wp2
 go_loopg [] k (fun kq w' => ∃ (x625003_1 : List (S95)) (u625003 : Value), Aside0 (impl_Three_evictMain.l0 kq a0_0 a0_1 l0_2 x625003_1 l0_4 = some (r1, r2, r3, r4, r5, r6, r7)) ∧ Aside0 (kq ≤ k) ∧ Mem w0 F w' [row k95 95 u9000_ l0_2, row k95 95 u625003 x625003_1, row (Kd.int .i64) 3 u9002_ l0_4, box 32 g [.int .i64 a0_0, .int .i64 a0_1, u9000_, u625003, u9002_]])
 case atStart => exact ⟨(l0_3), (u9001_), H', ⟨Nat.le_refl _⟩, (MD HM).pick [0, 1, 2, 3]⟩
 case round =>
  clear H' HM
  obtain ⟨x625003_1, u625003, HA, HK1, HM⟩ := hrel
  cases gk with
  | zero => exact absurd HA.out (by simp [impl_Three_evictMain.l0])
  | succ k1 =>
   have H := HA.out
   clear HA
   simp only [impl_Three_evictMain.l0] at H
   obtain ⟨hcz2_0, hcz2_1, hcz2_2, hcz2_3, hcz2_4, hfz2_0, hfz2_1, hfz2_2, hfz2_3, hfz2_4⟩ := bk5 (HM.bx 3 rfl)
   obtain ⟨Xo3, ko3, eo3⟩ := HM.rd 1 rfl
   subst eo3
   go_upto_if 10 with (fail)
   replace H := IT H; rcases H with ⟨c4, H⟩ | ⟨c4, H⟩
   ·replace c4 : (x625003_1.length : Int) > 0 := c4
    have c4b0 : decide (0 < (x625003_1.length : Int)) = true := decide_eq_true c4
    have c4b1 : decide (0 < x625003_1.length) = true := decide_eq_true (by omega)
    have c4b9 : decide (0 < x625003_1.length) = true := decide_eq_true (by omega)
    clear c4
    (first | rw [c4b0] | rw [c4b9] | (simp only [i64_w, i32_w]; rw [c4b0]) | skip)
    replace H := GD H; obtain ⟨c5, H⟩ := H
    replace c5 : 0 < (x625003_1.length : Int) := c5
    have c5b0 : decide (0 < (x625003_1.length : Int)) = true := decide_eq_true c5
    have c5b1 : decide (0 < x625003_1.length) = true := decide_eq_true (by omega)
    have c5b9 : decide (0 < x625003_1.length) = true := decide_eq_true (by omega)
    clear c5
    replace H := GD H; obtain ⟨c9, H⟩ := H
    have c9b0 := eq_true c9
    have c9b1 : decide (1 ≤ (x625003_1.length : Int)) = true := decide_eq_true c9
    clear c9
    replace H := BLt H; obtain ⟨y627, Ny627, H⟩ := H
    replace Ny627 := Aside0.mk Ny627
    have p625 : 0 ≤ (0 : Int) := (by omega)
    have q625 : (0 : Int) < (x625003_1.length : Int) := of_decide_eq_true AS
    obtain ⟨ad625, e625, hx625_0, hx625_1, hx625_2⟩ := at_T95 (HM.C 1 rfl).2.2 0 p625 q625
    cases e625
    have qi625 : (0 < x625003_1.length) = True := eq_true (by omega)
    (try rw [show ((0 : Int)).toNat = 0 from rfl] at hx625_0)
    (try rw [show 0 * 3 = 0 from rfl] at hx625_0)
    (try rw [Addr.add_zero'] at hx625_0)
    (try rw [show ((0 : Int)).toNat = 0 from rfl] at hx625_1)
    (try rw [show 0 * 3 = 0 from rfl] at hx625_1)
    (try rw [Addr.add_zero'] at hx625_1)
    (try rw [show ((0 : Int)).toNat = 0 from rfl] at hx625_2)
    (try rw [show 0 * 3 = 0 from rfl] at hx625_2)
    (try rw [Addr.add_zero'] at hx625_2)
    replace p625 := eq_true p625
    replace q625 := eq_true q625
    go_upto_if 27 with (first | ((with_reducible refine gate_dst (N := 4) rfl ?_); refine pB 4 95 [.string (⟨#[]⟩ : ByteArray), .string (⟨#[]⟩ : ByteArray), .int .i64 0] HM rfl ?_; clear HM; intro gb626 w6 HM) | ((with_reducible refine gate_st (p := 4) rfl ?_); refine pS 4 4 0 [.string ((rd_T95 x625003_1 0).f0), .string ((rd_T95 x625003_1 0).f1), .int .i64 ((rd_T95 x625003_1 0).f2)] HM rfl rfl ?_; clear HM; intro w7 HM; obtain ⟨hcz8_0, hcz8_1, hcz8_2, hcz8_3, hcz8_4, hfz8_0, hfz8_1, hfz8_2, hfz8_3, hfz8_4⟩ := bk5 (HM.bx 3 rfl)) | ((with_reducible refine gate_sl (t := 30) rfl ?_); refine pD 1 30 95 k95 _ _ 1 x625003_1 (some ad625) ko3 HM rfl Try.underlying30 info95 rfl (fun _ _ h => h) (by omega) (by have h_ : (1 : Int) ≤ ((x625003_1.length : Int) : Int) := of_decide_eq_true AS; first | exact h_ | (have e_ := (HM.C 1 rfl).1; omega)) ?_; clear HM; intro v628 HM; replace HM := HM.nmQ 1 rfl Ny627.out; obtain ⟨Xo10, ko10, eo10⟩ := HM.rd 1 rfl; subst eo10) | ((with_reducible refine gate_st (p := 24) rfl ?_); refine pS 3 24 3 [.slice Xo10 y627.length ko10] HM rfl rfl ?_; clear HM; intro w11 HM; obtain ⟨hcz12_0, hcz12_1, hcz12_2, hfz12_0, hfz12_1, hfz12_2⟩ := bk3 (HM.bx 4 rfl)))
    replace HM := nzM HM
    replace H := IT H; rcases H with ⟨c13, H⟩ | ⟨c13, H⟩
    ·have c13b0 : (((rd_T95 x625003_1 0).f2) == 0) = true := beq_iff_eq.mpr c13
     have c13b1 : (((rd_T95 x625003_1 0).f2) != 0) = false := bne_eq_false_iff_eq.mpr c13
     clear c13
     (first | rw [c13b0] | (simp only [i64_w, i32_w]; rw [c13b0]) | skip)
     simp only [Option.some.injEq, Prod.mk.injEq] at H
     obtain ⟨rfl, rfl, rfl, rfl, rfl, rfl, rfl⟩ := H
     go_wp2
     go_ret2
     exact ⟨_, _, _, ER, (MD HM).pick [0, 1, 2, 3]⟩
    ·have c13b0 : (((rd_T95 x625003_1 0).f2) == 0) = false := beq_eq_false_iff_ne.mpr c13
     have c13b1 : (((rd_T95 x625003_1 0).f2) != 0) = true := bne_iff_ne.mpr c13
     (first | rw [c13b0] | (simp only [i64_w, i32_w]; rw [c13b0]) | skip)
     try go_wp2_with (first | ((with_reducible refine gate_st (p := 33) rfl ?_); refine pS 4 33 2 [.int .i64 (wrap64 (((rd_T95 x625003_1 0).f2) - 1))] HM rfl rfl ?_; clear HM; intro w14 HM))
     replace H := GD H; obtain ⟨c15, H⟩ := H
     have LMc15 := Aside0.mk c15
     clear c15
     refine RGN 11 [0, 1, 2, 3, 4, 5, 6, 7, 8, 9, 10] (fun a0 b a w' => ∃ (v19 : Value) (v631 : Value), a = putSel a0 b [(0, 34, .pointer (some ⟨g, 0, none⟩)), (1, 35, .pointer (some ⟨g, 0, none⟩)), (2, 36, .pointer (some ⟨g, 0, none⟩)), (3, 37, .pointer (some ⟨g, 3, none⟩)), (4, 38, .slice Xo10 y627.length ko10), (5, 39, .agg #[.string ((rd_T95 x625003_1 0).f0), .string ((rd_T95 x625003_1 0).f1), .int .i64 (wrap64 (((rd_T95 x625003_1 0).f2) - 1))]), (6, 40, v19), (7, 41, v631), (8, 42, .pointer (some ⟨g, 0, none⟩)), (9, 43, .pointer (some ⟨g, 3, none⟩))] ∧ Mem w0 F w' [row k95 95 u9000_ l0_2, sel (b 7) (row k95 95 v631 (y627 ++ [(⟨(rd_T95 x625003_1 0).f0, (rd_T95 x625003_1 0).f1, wrap64 (((rd_T95 x625003_1 0).f2) - 1)⟩ : S95)])) (row k95 95 (.slice Xo10 y627.length ko10) y627), row (Kd.int .i64) 3 u9002_ l0_4, sel (b 10) (box 32 g [.int .i64 a0_0, .int .i64 a0_1, u9000_, v631, u9002_]) (box 32 g [.int .i64 a0_0, .int .i64 a0_1, u9000_, .slice Xo10 y627.length ko10, u9002_]), box 95 gb626 [.string ((rd_T95 x625003_1 0).f0), .string ((rd_T95 x625003_1 0).f1), .int .i64 (wrap64 (((rd_T95 x625003_1 0).f2) - 1))], sel (b 6) (rowR k95 95 v19 [(⟨(rd_T95 x625003_1 0).f0, (rd_T95 x625003_1 0).f1, wrap64 (((rd_T95 x625003_1 0).f2) - 1)⟩ : S95)]) (emp)]) impl_Three_evictMain.tab7 impl_Three_evictMain.bits7 ?_ ?_ ?_
     ·exact ⟨.bool false, .bool false, PS0' rfl _, (HM.drew.ems 1).pick [0, 1, 2, 3, 4, 5]⟩
     ·clear HM
      refine steps_cons ?_ ?_
      ·rintro b a w ⟨v19, v631, ha, HM⟩ hb hon hoff
       refine ⟨_, rfl, fun K hK => ?_⟩
       have e0 := POF ha 0
       replace ha := Aside0.mk ha
       exact VL (.pointer (some ⟨g, 0, none⟩)) (hK.out _ _ ⟨v19, v631, PUT ha 0 hb, HM⟩)
      refine steps_cons ?_ ?_
      ·rintro b a w ⟨v19, v631, ha, HM⟩ hb hon hoff
       refine ⟨_, rfl, fun K hK => ?_⟩
       have e0 := POF ha 0
       replace ha := Aside0.mk ha
       exact VL (.pointer (some ⟨g, 0, none⟩)) (hK.out _ _ ⟨v19, v631, PUT ha 1 hb, HM⟩)
      refine steps_cons ?_ ?_
      ·rintro b a w ⟨v19, v631, ha, HM⟩ hb hon hoff
       refine ⟨_, rfl, fun K hK => ?_⟩
       have e35 := PON ha 1 (hon 1 (by kernel_rfl))
       replace ha := Aside0.mk ha
       exact VL (.pointer (some ⟨g, 0, none⟩)) (hK.out _ _ ⟨v19, v631, PUT ha 2 hb, HM⟩)
      refine steps_cons ?_ ?_
      ·rintro b a w ⟨v19, v631, ha, HM⟩ hb hon hoff
       refine ⟨_, rfl, fun K hK => ?_⟩
       have e36 := PON ha 2 (hon 2 (by kernel_rfl))
       replace ha := Aside0.mk ha
       exact VL (.pointer (some ⟨g, 3, none⟩)) (hK.out _ _ ⟨v19, v631, PUT ha 3 hb, HM⟩)
      refine steps_cons ?_ ?_
      ·rintro b a w ⟨v19, v631, ha, HM⟩ hb hon hoff
       refine ⟨_, rfl, fun K hK => ?_⟩
       have HZ := HM
       replace HM := HM.sF 3 rfl (hoff 10 (by kernel_rfl))
       obtain ⟨hcz24_0, hcz24_1, hcz24_2, hcz24_3, hcz24_4, hfz24_0, hfz24_1, hfz24_2, hfz24_3, hfz24_4⟩ := bk5 (HM.bx 3 rfl)
       have e37 := PON ha 3 (hon 3 (by kernel_rfl))
       replace ha := Aside0.mk ha
       exact VL (.slice Xo10 y627.length ko10) (hK.out _ _ ⟨v19, v631, PUT ha 4 hb, HZ⟩)
      refine steps_cons ?_ ?_
      ·rintro b a w ⟨v19, v631, ha, HM⟩ hb hon hoff
       refine ⟨_, rfl, fun K hK => ?_⟩
       obtain ⟨hcz25_0, hcz25_1, hcz25_2, hfz25_0, hfz25_1, hfz25_2⟩ := bk3 (HM.bx 4 rfl)
       have e4 := POF ha 4
       replace ha := Aside0.mk ha
       exact VL (.agg #[.string ((rd_T95 x625003_1 0).f0), .string ((rd_T95 x625003_1 0).f1), .int .i64 (wrap64 (((rd_T95 x625003_1 0).f2) - 1))]) (hK.out _ _ ⟨v19, v631, PUT ha 5 hb, HM⟩)
      refine steps_cons ?_ ?_
      ·rintro b a w ⟨v19, v631, ha, HM⟩ hb hon hoff
       refine ⟨_, rfl, fun K hK => ?_⟩
       have e39 := PON ha 5 (hon 5 (by kernel_rfl))
       replace ha := Aside0.mk ha
       refine ST (eL 40 k95 95 [(⟨(rd_T95 x625003_1 0).f0, (rd_T95 x625003_1 0).f1, wrap64 (((rd_T95 x625003_1 0).f2) - 1)⟩ : S95)] [.string ((rd_T95 x625003_1 0).f0), .string ((rd_T95 x625003_1 0).f1), .int .i64 (wrap64 (((rd_T95 x625003_1 0).f2) - 1))] (Reps.c3 (show Kd.M k95 _ _ _ (⟨(rd_T95 x625003_1 0).f0, (rd_T95 x625003_1 0).f1, wrap64 (((rd_T95 x625003_1 0).f2) - 1)⟩ : S95) [.string ((rd_T95 x625003_1 0).f0), .string ((rd_T95 x625003_1 0).f1), .int .i64 (wrap64 (((rd_T95 x625003_1 0).f2) - 1))] from (k95_mkM _ _ _ (⟨(rd_T95 x625003_1 0).f0, (rd_T95 x625003_1 0).f1, wrap64 (((rd_T95 x625003_1 0).f2) - 1)⟩ : S95))) (Reps.none _ _)) HM rfl ?_)
       clear HM
       intro v19 w26 HM
       exact hK.out _ _ ⟨v19, v631, PUT ha 6 hb, (HM).pick [0, 1, 2, 3, 4, 6]⟩
      refine steps_cons ?_ ?_
      ·rintro b a w ⟨v19, v631, ha, HM⟩ hb hon hoff
       refine ⟨_, rfl, fun K hK => ?_⟩
       replace HM := HM.sF 1 rfl hb
       replace HM := HM.sT 5 rfl (hon 6 (by kernel_rfl))
       obtain ⟨Xo27, ko27, eo27⟩ := HM.rdR 5 rfl
       subst eo27
       have e38 := PON ha 4 (hon 4 (by kernel_rfl))
       have e40 := PON ha 6 (hon 6 (by kernel_rfl))
       replace ha := Aside0.mk ha
       refine ST (eAq 1 (.tmp 38) (.tmp 40) 30 95 k95 (.slice Xo10 y627.length ko10) y627 [(⟨(rd_T95 x625003_1 0).f0, (rd_T95 x625003_1 0).f1, wrap64 (((rd_T95 x625003_1 0).f2) - 1)⟩ : S95)] Xo27 ([(⟨(rd_T95 x625003_1 0).f0, (rd_T95 x625003_1 0).f1, wrap64 (((rd_T95 x625003_1 0).f2) - 1)⟩ : S95)].length) ko27 HM rfl Try.underlying30 info95 rfl (HM.CR 5 rfl).2.2 (by have h_ := LMc15.out; simp only [List.length_singleton]; omega) (by simp) ?_ (ops := #[]) (hw := by rfl) (hs := (eval_of e38)) (hx := (eval_of e40)))
       clear HM
       intro v631 w28 HM
       exact hK.out _ _ ⟨.slice Xo27 [(⟨(rd_T95 x625003_1 0).f0, (rd_T95 x625003_1 0).f1, wrap64 (((rd_T95 x625003_1 0).f2) - 1)⟩ : S95)].length ko27, v631, PUT ha 7 hb, (((HM.sF 3 rfl (hoff 10 (by kernel_rfl))).iF 3 rfl (hoff 10 (by kernel_rfl))).iT 5 rfl (hon 6 (by kernel_rfl))).pick [0, 1, 2, 3, 4, 5]⟩
      refine steps_cons ?_ ?_
      ·rintro b a w ⟨v19, v631, ha, HM⟩ hb hon hoff
       refine ⟨_, rfl, fun K hK => ?_⟩
       have e34 := PON ha 0 (hon 0 (by kernel_rfl))
       replace ha := Aside0.mk ha
       exact VL (.pointer (some ⟨g, 0, none⟩)) (hK.out _ _ ⟨v19, v631, PUT ha 8 hb, HM⟩)
      refine steps_cons ?_ ?_
      ·rintro b a w ⟨v19, v631, ha, HM⟩ hb hon hoff
       refine ⟨_, rfl, fun K hK => ?_⟩
       have e42 := PON ha 8 (hon 8 (by kernel_rfl))
       replace ha := Aside0.mk ha
       exact VL (.pointer (some ⟨g, 3, none⟩)) (hK.out _ _ ⟨v19, v631, PUT ha 9 hb, HM⟩)
      refine steps_cons ?_ ?_
      ·rintro b a w ⟨v19, v631, ha, HM⟩ hb hon hoff
       refine ⟨_, rfl, fun K hK => ?_⟩
       replace HM := HM.sT 1 rfl (hon 7 (by kernel_rfl))
       replace HM := HM.sF 3 rfl hb
       obtain ⟨Xo29, ko29, eo29⟩ := HM.rd 1 rfl
       subst eo29
       have e43 := PON ha 9 (hon 9 (by kernel_rfl))
       have e41 := PON ha 7 (hon 7 (by kernel_rfl))
       replace ha := Aside0.mk ha
       refine ST (eS 3 43 3 [.slice Xo29 (y627 ++ [(⟨(rd_T95 x625003_1 0).f0, (rd_T95 x625003_1 0).f1, wrap64 (((rd_T95 x625003_1 0).f2) - 1)⟩ : S95)]).length ko29] HM rfl rfl ?_ (hp := (eval_of e43)) (hx := (by rw [eval_of e41]; rfl)))
       clear HM
       intro w30 HM
       exact hK.out _ _ ⟨v19, .slice Xo29 (y627 ++ [(⟨(rd_T95 x625003_1 0).f0, (rd_T95 x625003_1 0).f1, wrap64 (((rd_T95 x625003_1 0).f2) - 1)⟩ : S95)]).length ko29, PUS ha, (HM.iT 1 rfl (hon 7 (by kernel_rfl))).pick [0, 1, 2, 3, 4, 5]⟩
      exact steps_nil
     rintro _ w31 ⟨v19, v631, rfl, HM⟩
     replace HM := HM.sT 1 rfl rfl
     replace HM := HM.sT 3 rfl rfl
     replace HM := HM.sT 5 rfl rfl
     simp only [putSel, if_true, Act.put, List.setIfInBounds_toArray, List.set_cons_zero, List.set_cons_succ, gt_iff_lt, ge_iff_le]
     have H' := Aside0.mk H
     clear H
     go_wp2
     go_roundg k1
     case measure => have := HK1.out; omega
     case rel => exact ⟨((y627 ++ [(⟨(rd_T95 x625003_1 0).f0, (rd_T95 x625003_1 0).f1, wrap64 (((rd_T95 x625003_1 0).f2) - 1)⟩ : S95)])), (v631), H', ⟨by have := HK1.out; omega⟩, (MD HM).pick [0, 1, 2, 3]⟩
   ·replace c4 : ¬ ((x625003_1.length : Int) > 0) := c4
    have c4b0 : decide (0 < (x625003_1.length : Int)) = false := decide_eq_false c4
    have c4b1 : decide (0 < x625003_1.length) = false := decide_eq_false (by omega)
    have c4b9 : decide (0 < x625003_1.length) = false := decide_eq_false (by omega)
    clear c4
    (first | rw [c4b0] | rw [c4b9] | (simp only [i64_w, i32_w]; rw [c4b0]) | skip)
    simp only [Option.some.injEq, Prod.mk.injEq] at H
    obtain ⟨rfl, rfl, rfl, rfl, rfl, rfl, rfl⟩ := H
    go_wp2
    go_ret2
    exact ⟨_, _, _, ER, (MD HM).pick [0, 1, 2, 3]⟩
end Go.Proofs.Ytdeijmofaapgdaa.G
