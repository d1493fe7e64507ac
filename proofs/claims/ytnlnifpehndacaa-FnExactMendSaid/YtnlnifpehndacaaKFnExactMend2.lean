/- Part 2 of the claim FnExactMend, merged by pack.py (this session's program) out of: the print's words, cut to what is needed; texts that gen.py printed (it runs the kit's print in place); texts of this session. -/
import Derived.Test.YtnlnifpehndacaaKFnExactMend1
namespace Go.Proofs.Ytnlnifpehndacaa.Mm
end Go.Proofs.Ytnlnifpehndacaa.Mm
namespace Go.Proofs.Ytnlnifpehndacaa.Sh
end Go.Proofs.Ytnlnifpehndacaa.Sh
set_option maxHeartbeats 8000000
set_option maxRecDepth 100000
namespace Go.Proofs.Ytnlnifpehndacaa.G
open Go.RowKit Go.Proofs.YtnlnifpehndacaaW.PrintWords Go.Proofs.YtnlnifpehndacaaW.PrintLast Go.Proofs.YtnlnifpehndacaaW.PrintMore Go.Proofs.Ytnlnifpehndacaa.Sh
attribute [local go_sem] max2_int min2_int max_two min_two max_three min_three max_four min_four
set_option linter.unusedVariables false
set_option linter.unusedSimpArgs false
open Go.Proofs.Ytnlnifpehndacaa.Mm
def spec_TextItem.f (k : Nat) (a0 : ByteArray) : Option (ByteArray × ByteArray × Int × Bool) := (spec_l01Cut.f k a0 61).bind fun t157 => (if (t157.length : Int) = 2 then (if 1 < (t157.length : Int) then ((spec_l01Cut.f k (rdOf ByteArray.empty t157 1) 42).bind fun t161 => (if (t161.length : Int) = 2 then (if 1 < (t161.length : Int) then ((spec_TextNum.f k (rdOf ByteArray.empty t161 1)).bind fun bt165 => (if 0 < (t157.length : Int) then (if 0 < (t161.length : Int) then ((spec_ItemText.f k (rdOf ByteArray.empty t157 0) (rdOf ByteArray.empty t161 0) bt165.1).bind fun t170 => (if t170.toList = a0.toList then (some (rdOf ByteArray.empty t157 0, rdOf ByteArray.empty t161 0, bt165.1, true)) else (some ((⟨#[]⟩ : ByteArray), (⟨#[]⟩ : ByteArray), 0, false)))) else (none)) else (none))) else (none)) else (some ((⟨#[]⟩ : ByteArray), (⟨#[]⟩ : ByteArray), 0, false)))) else (none)) else (some ((⟨#[]⟩ : ByteArray), (⟨#[]⟩ : ByteArray), 0, false)))
def spec_TextItem.T8 : Bool × List (List Nat × List Nat) := (true, [([], []), ([0], [0]), ([1], [1]), ([], []), ([3], [3]), ([4], [4]), ([], []), ([2, 5, 6], [2, 5, 6]), ([], []), ([8, 7, 0, 1, 2, 3, 4, 5, 6, 7, 8], [7, 8])])
def spec_TextItem.B8 : List Nat := [0, 1, 3, 0, 8, 24, 0, 127, 0, 511]
theorem spec_TextItem.tab8 : rtab .any (opsOf Try.f56 8) = spec_TextItem.T8 := by kernel_rfl
theorem spec_TextItem.bits8 : waitsOk spec_TextItem.T8.2 spec_TextItem.B8 = true := by kernel_rfl
theorem spec_TextItem.calls (k : Nat) (a0 : ByteArray) (r1 : ByteArray) (r2 : ByteArray) (r3 : Int) (r4 : Bool) (w : World)  (h : spec_TextItem.f k a0 = some (r1, r2, r3, r4)) :
  Calls Try.prog 56 #[.string a0] w fun e w' => e = .returned (.tuple #[.agg #[.string r1, .string r2, .int .i64 r3], .bool r4]) ∧ Mem w [] w' [] := by
 have hu76 := Try.underlying76
 have HM := Mem.nil w
 have H := h
 clear h
 unfold spec_TextItem.f at H
 go_enter Try.func56, Try.ntmps56
 replace H := BN H; obtain ⟨t157, A3, H⟩ := H
 go_upto_if 13 with (first | ((with_reducible refine gN 2 rfl ?_); refine pB 2 76 [.string (⟨#[]⟩ : ByteArray), .string (⟨#[]⟩ : ByteArray), .int .i64 0] HM rfl ?_; clear HM; intro gb156 w2 HM) | ((with_reducible refine gC 54 rfl ?_); refine pC (some 10) rfl #[.string a0, .int .u8 61] rfl Try.func54 (spec_l01Cut.calls k a0 61 t157 _ A3.out) ?_; rintro e w4 ⟨v158, rfl, hR⟩; refine ⟨_, rfl, ?_⟩; replace HM := HM.call hR; clear hR; obtain ⟨Xo5, ko5, rfl⟩ := HM.rdR 1 rfl))
 replace HM := nzM HM
 replace H := IT H; rcases H with ⟨c6, H⟩ | ⟨c6, H⟩
 ·obtain ⟨c6b0, c6b1⟩ := BE c6
  clear c6
  first|rw [c6b0]|(simp only [i64_w, i32_w]; rw [c6b0])|skip
  replace H := GD H; obtain ⟨c7, H⟩ := H
  replace c7 : 1 < (t157.length : Int) := c7
  have c7b0 := decide_eq_true c7
  have c7b1 : decide (1 < t157.length) = true := decide_eq_true (by omega)
  have c7b9 : decide (1 < t157.length) = true := decide_eq_true (by omega)
  clear c7
  replace H := BN H; obtain ⟨t161, A8, H⟩ := H
  have p160 : 0 ≤ (1 : Int) := (by omega)
  have q160 : (1 : Int) < (t157.length : Int) := of_decide_eq_true AS
  obtain ⟨ad160, e160, hx160_0⟩ := Kd.at_string (HM.CR 1 rfl).2.2 1 p160 q160
  cases e160
  have qi160 : (1 < t157.length) = True := eq_true (by omega)
  (try rw [show ((1 : Int)).toNat = 1 from rfl] at hx160_0)
  (try simp only [Nat.reduceMul, Nat.reduceEqDiff, Go.Addr.add, ↓reduceIte] at hx160_0)
  replace p160 := eq_true p160
  replace q160 := eq_true q160
  go_upto_if 21 with (first | ((with_reducible refine gC 54 rfl ?_); refine pC (some 18) rfl #[.string (rdOf ByteArray.empty t157 1), .int .u8 42] rfl Try.func54 (spec_l01Cut.calls k (rdOf ByteArray.empty t157 1) 42 t161 _ A8.out) ?_; rintro e w9 ⟨v162, rfl, hR⟩; refine ⟨_, rfl, ?_⟩; replace HM := HM.call hR; clear hR; obtain ⟨Xo10, ko10, rfl⟩ := HM.rdR 2 rfl))
  replace H := IT H; rcases H with ⟨c11, H⟩ | ⟨c11, H⟩
  ·obtain ⟨c11b0, c11b1⟩ := BE c11
   clear c11
   first|rw [c11b0]|(simp only [i64_w, i32_w]; rw [c11b0])|skip
   replace H := GD H; obtain ⟨c12, H⟩ := H
   replace c12 : 1 < (t161.length : Int) := c12
   have c12b0 := decide_eq_true c12
   have c12b1 : decide (1 < t161.length) = true := decide_eq_true (by omega)
   have c12b9 : decide (1 < t161.length) = true := decide_eq_true (by omega)
   clear c12
   replace H := BN H; obtain ⟨⟨t165, t166⟩, A13, H⟩ := H
   have p164 : 0 ≤ (1 : Int) := (by omega)
   have q164 : (1 : Int) < (t161.length : Int) := of_decide_eq_true AS
   obtain ⟨ad164, e164, hx164_0⟩ := Kd.at_string (HM.CR 2 rfl).2.2 1 p164 q164
   cases e164
   have qi164 : (1 < t161.length) = True := eq_true (by omega)
   (try rw [show ((1 : Int)).toNat = 1 from rfl] at hx164_0)
   (try simp only [Nat.reduceMul, Nat.reduceEqDiff, Go.Addr.add, ↓reduceIte] at hx164_0)
   replace p164 := eq_true p164
   replace q164 := eq_true q164
   try go_wp2_with (first | ((with_reducible refine gC 55 rfl ?_); refine pC (some 27) rfl #[.string (rdOf ByteArray.empty t161 1)] rfl Try.func55 (spec_TextNum.calls k (rdOf ByteArray.empty t161 1) t165 t166 _ A13.out) ?_; rintro e w14 ⟨rfl, hR⟩; refine ⟨_, rfl, ?_⟩; replace HM := HM.call hR; clear hR))
   replace H := GD H; obtain ⟨c15, H⟩ := H
   replace c15 : 0 < (t157.length : Int) := c15
   have c15b0 : decide (0 < (t157.length : Int)) = true := decide_eq_true c15
   have c15b1 : decide (0 < t157.length) = true := decide_eq_true (by omega)
   have c15b9 : decide (0 < t157.length) = true := decide_eq_true (by omega)
   clear c15
   replace H := GD H; obtain ⟨c16, H⟩ := H
   replace c16 : 0 < (t161.length : Int) := c16
   have c16b0 : decide (0 < (t161.length : Int)) = true := decide_eq_true c16
   have c16b1 : decide (0 < t161.length) = true := decide_eq_true (by omega)
   have c16b9 : decide (0 < t161.length) = true := decide_eq_true (by omega)
   clear c16
   have p167 : 0 ≤ (0 : Int) := (by omega)
   have q167 : (0 : Int) < (t157.length : Int) := of_decide_eq_true AS
   obtain ⟨ad167, e167, hx167_0⟩ := Kd.at_string (HM.CR 1 rfl).2.2 0 p167 q167
   obtain rfl := Option.some.inj e167
   have qi167 : (0 < t157.length) = True := eq_true (by omega)
   (try rw [show ((0 : Int)).toNat = 0 from rfl] at hx167_0)
   (try rw [Addr.add_zero'] at hx167_0)
   replace p167 := eq_true p167
   replace q167 := eq_true q167
   have p168 : 0 ≤ (0 : Int) := (by omega)
   have q168 : (0 : Int) < (t161.length : Int) := of_decide_eq_true AS
   obtain ⟨ad168, e168, hx168_0⟩ := Kd.at_string (HM.CR 2 rfl).2.2 0 p168 q168
   obtain rfl := Option.some.inj e168
   have qi168 : (0 < t161.length) = True := eq_true (by omega)
   (try rw [show ((0 : Int)).toNat = 0 from rfl] at hx168_0)
   (try rw [Addr.add_zero'] at hx168_0)
   replace p168 := eq_true p168
   replace q168 := eq_true q168
   refine RGN 10 [0, 1, 2, 3, 4, 5, 6, 7, 8, 9] (fun a0 b a w' => ∃ (gb169 : Nat), a = putSel a0 b [(0, 30, .slice (some ad160) t157.length ko5), (1, 31, .pointer (some ad160)), (2, 32, .string (rdOf ByteArray.empty t157 0)), (3, 33, .slice (some ad164) t161.length ko10), (4, 34, .pointer (some ad164)), (5, 35, .string (rdOf ByteArray.empty t161 0)), (6, 36, .int .i64 t165), (7, 37, .agg #[.string (rdOf ByteArray.empty t157 0), .string (rdOf ByteArray.empty t161 0), .int .i64 t165]), (8, 8, .pointer (some ⟨gb169, 0, none⟩))] ∧ Mem w [] w' [box 76 gb156 [.string (⟨#[]⟩ : ByteArray), .string (⟨#[]⟩ : ByteArray), .int .i64 0], rowR Kd.string 9 (.slice (some ad160) t157.length ko5) t157, rowR Kd.string 9 (.slice (some ad164) t161.length ko10) t161, sel (b 9) (box 76 gb169 [.string (rdOf ByteArray.empty t157 0), .string (rdOf ByteArray.empty t161 0), .int .i64 t165]) (sel (b 8) (box 76 gb169 [.string (⟨#[]⟩ : ByteArray), .string (⟨#[]⟩ : ByteArray), .int .i64 0]) (emp))]) spec_TextItem.tab8 spec_TextItem.bits8 ?_ ?_ ?_
   ·exact ⟨0, PS0' rfl _, (HM.drew.ems 1).pick [0, 1, 2, 3]⟩
   ·clear HM
    refine SZ ?_ ?_
    ·rintro b a w ⟨gb169, ha, HM⟩ hb hon hoff K hK
     replace ha := Aside0.mk ha
     have e4 := PG ha 4
     exact VL (.slice (some ad160) t157.length ko5) (hK.out _ _ ⟨gb169, PUT ha 0 hb, HM⟩)
    refine SZ ?_ ?_
    ·rintro b a w ⟨gb169, ha, HM⟩ hb hon hoff K hK
     replace ha := Aside0.mk ha
     have p167 : 0 ≤ (0 : Int) := (by omega)
     have q167 : (0 : Int) < (t157.length : Int) := of_decide_eq_true AS
     obtain ⟨ad167, e167, hx167_0⟩ := Kd.at_string (HM.CR 1 rfl).2.2 0 p167 q167
     obtain rfl := Option.some.inj e167
     have qi167 : (0 < t157.length) = True := eq_true (by omega)
     (try rw [show ((0 : Int)).toNat = 0 from rfl] at hx167_0)
     (try rw [Addr.add_zero'] at hx167_0)
     replace p167 := eq_true p167
     replace q167 := eq_true q167
     have e30 := PE ha 0 hon
     exact VL (.pointer (some ad160)) (hK.out _ _ ⟨gb169, PUT ha 1 hb, HM⟩)
    refine SZ ?_ ?_
    ·rintro b a w ⟨gb169, ha, HM⟩ hb hon hoff K hK
     replace ha := Aside0.mk ha
     have p167 : 0 ≤ (0 : Int) := (by omega)
     have q167 : (0 : Int) < (t157.length : Int) := of_decide_eq_true AS
     obtain ⟨ad167, e167, hx167_0⟩ := Kd.at_string (HM.CR 1 rfl).2.2 0 p167 q167
     obtain rfl := Option.some.inj e167
     have qi167 : (0 < t157.length) = True := eq_true (by omega)
     (try rw [show ((0 : Int)).toNat = 0 from rfl] at hx167_0)
     (try rw [Addr.add_zero'] at hx167_0)
     replace p167 := eq_true p167
     replace q167 := eq_true q167
     have e31 := PE ha 1 hon
     exact VL (.string (rdOf ByteArray.empty t157 0)) (hK.out _ _ ⟨gb169, PUT ha 2 hb, HM⟩)
    refine SZ ?_ ?_
    ·rintro b a w ⟨gb169, ha, HM⟩ hb hon hoff K hK
     replace ha := Aside0.mk ha
     have e5 := PG ha 5
     exact VL (.slice (some ad164) t161.length ko10) (hK.out _ _ ⟨gb169, PUT ha 3 hb, HM⟩)
    refine SZ ?_ ?_
    ·rintro b a w ⟨gb169, ha, HM⟩ hb hon hoff K hK
     replace ha := Aside0.mk ha
     have p168 : 0 ≤ (0 : Int) := (by omega)
     have q168 : (0 : Int) < (t161.length : Int) := of_decide_eq_true AS
     obtain ⟨ad168, e168, hx168_0⟩ := Kd.at_string (HM.CR 2 rfl).2.2 0 p168 q168
     obtain rfl := Option.some.inj e168
     have qi168 : (0 < t161.length) = True := eq_true (by omega)
     (try rw [show ((0 : Int)).toNat = 0 from rfl] at hx168_0)
     (try rw [Addr.add_zero'] at hx168_0)
     replace p168 := eq_true p168
     replace q168 := eq_true q168
     have e33 := PE ha 3 hon
     exact VL (.pointer (some ad164)) (hK.out _ _ ⟨gb169, PUT ha 4 hb, HM⟩)
    refine SZ ?_ ?_
    ·rintro b a w ⟨gb169, ha, HM⟩ hb hon hoff K hK
     replace ha := Aside0.mk ha
     have p168 : 0 ≤ (0 : Int) := (by omega)
     have q168 : (0 : Int) < (t161.length : Int) := of_decide_eq_true AS
     obtain ⟨ad168, e168, hx168_0⟩ := Kd.at_string (HM.CR 2 rfl).2.2 0 p168 q168
     obtain rfl := Option.some.inj e168
     have qi168 : (0 < t161.length) = True := eq_true (by omega)
     (try rw [show ((0 : Int)).toNat = 0 from rfl] at hx168_0)
     (try rw [Addr.add_zero'] at hx168_0)
     replace p168 := eq_true p168
     replace q168 := eq_true q168
     have e34 := PE ha 4 hon
     exact VL (.string (rdOf ByteArray.empty t161 0)) (hK.out _ _ ⟨gb169, PUT ha 5 hb, HM⟩)
    refine SZ ?_ ?_
    ·rintro b a w ⟨gb169, ha, HM⟩ hb hon hoff K hK
     replace ha := Aside0.mk ha
     have e6 := PG ha 6
     exact VL (.int .i64 t165) (hK.out _ _ ⟨gb169, PUT ha 6 hb, HM⟩)
    refine SZ ?_ ?_
    ·rintro b a w ⟨gb169, ha, HM⟩ hb hon hoff K hK
     replace ha := Aside0.mk ha
     have e32 := PE ha 2 hon
     have e35 := PE ha 5 hon
     have e36 := PE ha 6 hon
     exact VL (.agg #[.string (rdOf ByteArray.empty t157 0), .string (rdOf ByteArray.empty t161 0), .int .i64 t165]) (hK.out _ _ ⟨gb169, PUT ha 7 hb, HM⟩)
    refine SZ ?_ ?_
    ·rintro b a w ⟨gb169, ha, HM⟩ hb hon hoff K hK
     replace ha := Aside0.mk ha
     refine ST (eB 8 76 [.string (⟨#[]⟩ : ByteArray), .string (⟨#[]⟩ : ByteArray), .int .i64 0] HM rfl ?_)
     clear HM
     intro gb169 w19 HM
     exact hK.out _ _ ⟨gb169, PUT ha 8 hb, (HM.iF 4 rfl (hoff 9 rfl)).pick [0, 1, 2, 4]⟩
    refine SZ ?_ ?_
    ·rintro b a w ⟨gb169, ha, HM⟩ hb hon hoff K hK
     replace ha := Aside0.mk ha
     replace HM := (HM.sF 3 rfl hb).sT 3 rfl (hon 8 rfl)
     have e8 := PE ha 8 hon
     have e37 := PE ha 7 hon
     refine ST (eS 3 8 0 [.string (rdOf ByteArray.empty t157 0), .string (rdOf ByteArray.empty t161 0), .int .i64 t165] HM rfl rfl ?_ (hp := (eval_of e8)) (hx := (by rw [eval_of e37]; rfl)))
     clear HM
     intro w20 HM
     exact hK.out _ _ ⟨gb169, PUS ha, (HM).pick [0, 1, 2, 3]⟩
    exact steps_nil
   rintro _ w21 ⟨gb169, rfl, HM⟩
   replace HM := HM.sT 3 rfl rfl
   simp only [putSel, if_true, Act.put, List.setIfInBounds_toArray, List.set_cons_zero, List.set_cons_succ, gt_iff_lt, ge_iff_le]
   replace H := BN H; obtain ⟨t170, A23, H⟩ := H
   obtain ⟨_,_,_,_,_,_⟩ := bk3 (HM.bx 3 rfl)
   go_upto_if 41 with (first | ((with_reducible refine gC 88 rfl ?_); refine pC (some 39) rfl #[.agg #[.string (rdOf ByteArray.empty t157 0), .string (rdOf ByteArray.empty t161 0), .int .i64 t165]] rfl Try.func88 (spec_ItemText.calls k (rdOf ByteArray.empty t157 0) (rdOf ByteArray.empty t161 0) t165 t170 _ A23.out) ?_; rintro e w24 ⟨rfl, hR⟩; refine ⟨_, rfl, ?_⟩; replace HM := HM.call hR; clear hR))
   replace H := IT H; rcases H with ⟨c25, H⟩ | ⟨c25, H⟩
   ·have c25b0 : (t170.toList == a0.toList) = true := beq_iff_eq.mpr c25
    have c25b1 : (t170.toList != a0.toList) = false := bne_eq_false_iff_eq.mpr c25
    clear c25
    first|rw [c25b0]|(simp only [i64_w, i32_w]; rw [c25b0])|skip
    simp only [Option.some.injEq, Prod.mk.injEq] at H
    obtain ⟨rfl, rfl, rfl, rfl⟩ := H
    obtain ⟨_,_,_,_,_,_⟩ := bk3 (HM.bx 3 rfl)
    go_wp2_with (first | ((with_reducible refine gS 2 rfl ?_); refine pS 0 2 0 [.string (rdOf ByteArray.empty t157 0), .string (rdOf ByteArray.empty t161 0), .int .i64 t165] HM rfl rfl ?_; clear HM; intro w27 HM))
    refine bodyPost_ret (results_ct rfl _ _ gb156 76 #[.string (rdOf ByteArray.empty t157 0), .string (rdOf ByteArray.empty t161 0), .int .i64 t165] (0, 0) _ rfl (HM.bx 0 rfl) Try.underlying76 rfl (by kernel_rfl)) rfl ?_
    exact ⟨ER, (MD HM).pick []⟩
   ·have c25b0 : (t170.toList == a0.toList) = false := beq_eq_false_iff_ne.mpr c25
    have c25b1 : (t170.toList != a0.toList) = true := bne_iff_ne.mpr c25
    first|rw [c25b0]|(simp only [i64_w, i32_w]; rw [c25b0])|skip
    simp only [Option.some.injEq, Prod.mk.injEq] at H
    obtain ⟨rfl, rfl, rfl, rfl⟩ := H
    go_wp2_with (first | ((with_reducible refine gS 2 rfl ?_); refine pS 0 2 0 [.string (⟨#[]⟩ : ByteArray), .string (⟨#[]⟩ : ByteArray), .int .i64 0] HM rfl rfl ?_; clear HM; intro w28 HM))
    refine bodyPost_ret (results_ct rfl _ _ gb156 76 #[.string (⟨#[]⟩ : ByteArray), .string (⟨#[]⟩ : ByteArray), .int .i64 0] (0, 0) _ rfl (HM.bx 0 rfl) Try.underlying76 rfl (by kernel_rfl)) rfl ?_
    exact ⟨ER, (MD HM).pick []⟩
  ·have c11b0 : ((t161.length : Int) == 2) = false := beq_eq_false_iff_ne.mpr c11
   have c11b1 : ((t161.length : Int) != 2) = true := bne_iff_ne.mpr c11
   first|rw [c11b0]|(simp only [i64_w, i32_w]; rw [c11b0])|skip
   simp only [Option.some.injEq, Prod.mk.injEq] at H
   obtain ⟨rfl, rfl, rfl, rfl⟩ := H
   go_wp2_with (first | ((with_reducible refine gS 2 rfl ?_); refine pS 0 2 0 [.string (⟨#[]⟩ : ByteArray), .string (⟨#[]⟩ : ByteArray), .int .i64 0] HM rfl rfl ?_; clear HM; intro w29 HM))
   refine bodyPost_ret (results_ct rfl _ _ gb156 76 #[.string (⟨#[]⟩ : ByteArray), .string (⟨#[]⟩ : ByteArray), .int .i64 0] (0, 0) _ rfl (HM.bx 0 rfl) Try.underlying76 rfl (by kernel_rfl)) rfl ?_
   exact ⟨ER, (MD HM).pick []⟩
 ·have c6b0 : ((t157.length : Int) == 2) = false := beq_eq_false_iff_ne.mpr c6
  have c6b1 : ((t157.length : Int) != 2) = true := bne_iff_ne.mpr c6
  first|rw [c6b0]|(simp only [i64_w, i32_w]; rw [c6b0])|skip
  simp only [Option.some.injEq, Prod.mk.injEq] at H
  obtain ⟨rfl, rfl, rfl, rfl⟩ := H
  go_wp2_with (first | ((with_reducible refine gS 2 rfl ?_); refine pS 0 2 0 [.string (⟨#[]⟩ : ByteArray), .string (⟨#[]⟩ : ByteArray), .int .i64 0] HM rfl rfl ?_; clear HM; intro w30 HM))
  refine bodyPost_ret (results_ct rfl _ _ gb156 76 #[.string (⟨#[]⟩ : ByteArray), .string (⟨#[]⟩ : ByteArray), .int .i64 0] (0, 0) _ rfl (HM.bx 0 rfl) Try.underlying76 rfl (by kernel_rfl)) rfl ?_
  exact ⟨ER, (MD HM).pick []⟩
def spec_l20Read.l0 : Nat → List (S76) → List ByteArray → Int → Int → Option ((List (S76)))
 | 0, _, _, _, _ => none
 | k + 1, x3, x10, x11, x12 => if x12 < x11 then (if 0 ≤ x12 then (if x12 < (x10.length : Int) then ((spec_TextItem.f k (rdOf ByteArray.empty x10 x12)).bind fun bt176 => (if x3.length < 3518437208883 then (spec_l20Read.l0 k (x3 ++ [(⟨bt176.1, bt176.2.1, bt176.2.2.1⟩ : S76)]) x10 x11 (wrap64 (x12 + 1))) else (none))) else (none)) else (none)) else (some x3)
def spec_l20Read.f (k : Nat) (l0 : List ByteArray) : Option ((List (S76))) := if 1 ≤ (l0.length : Int) then (spec_l20Read.l0 k (([] : List (S76))) l0.tail (l0.tail.length : Int) 0) else (none)
theorem spec_l20Read.calls (k : Nat) (A0 : Option Addr) (c0 : Nat) (l0 : List ByteArray) (r : List (S76)) (w : World) (hr0 : Kd.C Kd.string w A0 l0.length l0) (hc0 : l0.length ≤ c0) (h : spec_l20Read.f k l0 = some r) :
  Calls Try.prog 23 #[.slice A0 l0.length c0] w fun e w' => ∃ v0_ : Value, e = .returned (v0_) ∧ Mem w [] w' [rowR k76 76 v0_ r] := by
 have hu76 := Try.underlying76
 have HR0 := Aside0.mk hr0
 have HC0 := Aside0.mk hc0
 clear hr0 hc0
 have HM := Mem.nil w
 have H := h
 clear h
 unfold spec_l20Read.f at H
 go_enter Try.func23, Try.ntmps23
 replace H := GD H; obtain ⟨c3, H⟩ := H
 have c3b0 := eq_true c3
 have c3b1 : decide (1 ≤ (l0.length : Int)) = true := decide_eq_true c3
 clear c3
 have H' := Aside0.mk H
 clear H
 go_wp2_with (first | ((with_reducible refine gN 8 rfl ?_); refine pL 8 k76 76 ([] : List (S76)) [] (Reps.none _ _) HM rfl ?_; clear HM; intro v172 w2 HM) | ((with_reducible refine gate_sl (t := 33) rfl ?_); refine pRdf 33 9 Kd.string _ _ 1 l0 A0 c0 rfl Try.underlying33 info9 HC0.out (by omega) (of_decide_eq_true AS) ?_; intro Yx4 bx4 hYx4 hbx4; simp only [Int.reduceToNat, List.drop_one] at hYx4 hbx4; have HYx4 := Aside0.mk hYx4; have HBx4 := Aside0.mk hbx4; clear hYx4 hbx4))
 go_loopg [3, 12] k (fun kq v3 v12 w' => ∃ (x3_1 : List (S76)) (x12_1 : Int), v12 = .int .i64 x12_1 ∧ Aside0 (spec_l20Read.l0 kq x3_1 l0.tail (l0.tail.length : Int) x12_1 = some r) ∧ Aside0 (kq ≤ k) ∧ Mem w [] w' [rowR k76 76 v3 x3_1])
 case atStart => exact ⟨((([] : List (S76)))), (0), RS, H', ⟨Nat.le_refl _⟩, (MD HM).pick [0]⟩
 case round =>
  clear H' HM
  obtain ⟨x3_1, x12_1, rfl, HA, HK1, HM⟩ := hrel
  cases gk with
  | zero => exact absurd HA.out (by simp [spec_l20Read.l0])
  | succ k1 =>
   have H := HA.out
   clear HA
   simp only [spec_l20Read.l0] at H
   go_upto_if 13 with (fail)
   replace H := IT H; rcases H with ⟨c5, H⟩ | ⟨c5, H⟩
   ·have c5b0 := decide_eq_true c5
    have c5b5 := c5b0
    simp only [List.length_tail] at c5b5
    clear c5
    first|rw [c5b0]|rw [c5b5]|(simp only [i64_w, i32_w]; rw [c5b0])|skip
    replace H := GD H; obtain ⟨c6, H⟩ := H
    have c6b0 := decide_eq_true c6
    clear c6
    replace H := GD H; obtain ⟨c7, H⟩ := H
    have c7b0 := decide_eq_true c7
    have c7b5 := c7b0
    simp only [List.length_tail] at c7b5
    clear c7
    replace H := BN H; obtain ⟨⟨t176, t177, t178, t179⟩, A8, H⟩ := H
    replace H := GD H; obtain ⟨c13, H⟩ := H
    have LMc13 := Aside0.mk c13
    clear c13
    have H' := Aside0.mk H
    clear H
    have p175 : 0 ≤ (x12_1 : Int) := of_decide_eq_true AS
    have q175 : (x12_1 : Int) < (l0.tail.length : Int) := of_decide_eq_true AS
    obtain ⟨ad175, e175, hx175_0⟩ := Kd.at_string (HYx4.out _ (HM.came HR0.out)) x12_1 p175 q175
    cases e175
    replace p175 := eq_true p175
    replace q175 := eq_true q175
    have qt175 := q175
    simp only [List.length_tail] at qt175
    go_wp2_with (first | ((with_reducible refine gC 56 rfl ?_); refine pC (some 18) rfl #[.string (rdOf ByteArray.empty l0.tail x12_1)] rfl Try.func56 (spec_TextItem.calls k1 (rdOf ByteArray.empty l0.tail x12_1) t176 t177 t178 t179 _ A8.out) ?_; rintro e w9 ⟨rfl, hR⟩; refine ⟨_, rfl, ?_⟩; replace HM := HM.call hR; clear hR) | ((with_reducible refine gN 6 rfl ?_); refine pB 6 76 [.string (⟨#[]⟩ : ByteArray), .string (⟨#[]⟩ : ByteArray), .int .i64 0] HM rfl ?_; clear HM; intro gb180 w10 HM) | ((with_reducible refine gS 6 rfl ?_); refine pS 1 6 0 [.string t176, .string t177, .int .i64 t178] HM rfl rfl ?_; clear HM; intro w11 HM; obtain ⟨_,_,_,_,_,_⟩ := bk3 (HM.bx 1 rfl)) | ((with_reducible refine gN 23 rfl ?_); refine pL 23 k76 76 [(⟨t176, t177, t178⟩ : S76)] [.string t176, .string t177, .int .i64 t178] (Reps.c3 (show Kd.M k76 _ _ _ (⟨t176, t177, t178⟩ : S76) [.string t176, .string t177, .int .i64 t178] from (k76_mkM _ _ _ (⟨t176, t177, t178⟩ : S76))) (Reps.none _ _)) HM rfl ?_; clear HM; intro v15 w14 HM; obtain ⟨Xv15, kv15, rfl⟩ := HM.rdR 2 rfl) | ((with_reducible refine gate_builtin (b := .append) (xs := #[.tmp 21, .tmp 23]) rfl ?_); refine pA 0 (.tmp 21) (.tmp 23) 22 76 k76 u3 x3_1 [(⟨t176, t177, t178⟩ : S76)] Xv15 ([(⟨t176, t177, t178⟩ : S76)].length) kv15 HM rfl Try.underlying22 info76 rfl (HM.CR 2 rfl).2.2 (by have h_ := LMc13.out; simp only [List.length_singleton]; omega) ?_; clear HM; intro v182 w16 HM))
    go_roundg k1
    case measure => have := HK1.out; omega
    case rel => exact ⟨((x3_1 ++ [(⟨t176, t177, t178⟩ : S76)])), (wrap64 (x12_1 + 1)), RS, H', ⟨by have := HK1.out; omega⟩, (MD HM).pick [0]⟩
   ·have c5b0 : decide (x12_1 < (l0.tail.length : Int)) = false := decide_eq_false c5
    have c5b5 := c5b0
    simp only [List.length_tail] at c5b5
    clear c5
    first|rw [c5b0]|rw [c5b5]|(simp only [i64_w, i32_w]; rw [c5b0])|skip
    obtain rfl := Option.some.inj H
    go_wp2
    go_ret
    exact ⟨_, ER, (MD HM).pick [0]⟩
def spec_l20Items.l0 : Nat → ByteArray → List (S76) → Int → Int → Option (ByteArray × Bool)
 | 0, _, _, _, _ => none
 | k + 1, x0, x9, x10, x11 => if x11 < x10 then (if 0 ≤ x11 then (if x11 < (x9.length : Int) then ((spec_ItemText.f k ((rd_T76 x9 x11).f0) ((rd_T76 x9 x11).f1) ((rd_T76 x9 x11).f2)).bind fun t186 => (if t186.toList = ([] : List UInt8) then (some ((⟨#[]⟩ : ByteArray), false)) else (if x0.size + 1 ≤ 9223372036854775807 then (if x0.size + 1 + t186.size ≤ 9223372036854775807 then (spec_l20Items.l0 k ((x0 ++ (⟨#[32]⟩ : ByteArray)) ++ t186) x9 x10 (wrap64 (x11 + 1))) else (none)) else (none)))) else (none)) else (none)) else (if x0.size + 1 ≤ 9223372036854775807 then (some (x0 ++ (⟨#[10]⟩ : ByteArray), true)) else (none))
def spec_l20Items.f (k : Nat) (a0 : ByteArray) (l1 : List (S76)) : Option (ByteArray × Bool) := spec_l20Items.l0 k a0 l1 (l1.length : Int) 0
theorem spec_l20Items.calls (k : Nat) (a0 : ByteArray) (A1 : Option Addr) (c1 : Nat) (l1 : List (S76)) (r1 : ByteArray) (r2 : Bool) (w : World) (hr1 : Kd.C k76 w A1 l1.length l1) (hc1 : l1.length ≤ c1) (h : spec_l20Items.f k a0 l1 = some (r1, r2)) :
  Calls Try.prog 57 #[.string a0, .slice A1 l1.length c1] w fun e w' => e = .returned (.tuple #[.string r1, .bool r2]) ∧ Mem w [] w' [] := by
 have hu76 := Try.underlying76
 have HR1 := Aside0.mk hr1
 have HC1 := Aside0.mk hc1
 clear hr1 hc1
 have HM := Mem.nil w
 have H := h
 clear h
 unfold spec_l20Items.f at H
 go_enter Try.func57, Try.ntmps57
 have H' := Aside0.mk H
 clear H
 go_wp2
 go_loopg [0, 11] k (fun kq v0 v11 w' => ∃ (x0_1 : ByteArray) (x11_1 : Int), v0 = .string x0_1 ∧ v11 = .int .i64 x11_1 ∧ Aside0 (spec_l20Items.l0 kq x0_1 l1 (l1.length : Int) x11_1 = some (r1, r2)) ∧ Aside0 (kq ≤ k) ∧ Mem w [] w' [])
 case atStart => exact ⟨(a0), (0), RS, RS, H', ⟨Nat.le_refl _⟩, (MD HM).pick []⟩
 case round =>
  clear H' HM
  obtain ⟨x0_1, x11_1, rfl, rfl, HA, HK1, HM⟩ := hrel
  cases gk with
  | zero => exact absurd HA.out (by simp [spec_l20Items.l0])
  | succ k1 =>
   have H := HA.out
   clear HA
   simp only [spec_l20Items.l0] at H
   go_upto_if 12 with (fail)
   replace H := IT H; rcases H with ⟨c3, H⟩ | ⟨c3, H⟩
   ·have c3b0 := decide_eq_true c3
    clear c3
    first|rw [c3b0]|(simp only [i64_w, i32_w]; rw [c3b0])|skip
    replace H := GD H; obtain ⟨c4, H⟩ := H
    have c4b0 := decide_eq_true c4
    clear c4
    replace H := GD H; obtain ⟨c5, H⟩ := H
    have c5b0 := decide_eq_true c5
    clear c5
    replace H := BN H; obtain ⟨t186, A9, H⟩ := H
    have p184 : 0 ≤ (x11_1 : Int) := of_decide_eq_true AS
    have q184 : (x11_1 : Int) < (l1.length : Int) := of_decide_eq_true AS
    obtain ⟨ad184, e184, hx184_0, hx184_1, hx184_2⟩ := at_T76 (HM.came HR1.out) x11_1 p184 q184
    cases e184
    replace p184 := eq_true p184
    replace q184 := eq_true q184
    go_upto_if 18 with (first | ((with_reducible refine gN 7 rfl ?_); refine pB 7 76 [.string (⟨#[]⟩ : ByteArray), .string (⟨#[]⟩ : ByteArray), .int .i64 0] HM rfl ?_; clear HM; intro gb185 w6 HM) | ((with_reducible refine gS 7 rfl ?_); refine pS 0 7 0 [.string ((rd_T76 l1 x11_1).f0), .string ((rd_T76 l1 x11_1).f1), .int .i64 ((rd_T76 l1 x11_1).f2)] HM rfl rfl ?_; clear HM; intro w7 HM; obtain ⟨_,_,_,_,_,_⟩ := bk3 (HM.bx 0 rfl)) | ((with_reducible refine gC 88 rfl ?_); refine pC (some 16) rfl #[.agg #[.string ((rd_T76 l1 x11_1).f0), .string ((rd_T76 l1 x11_1).f1), .int .i64 ((rd_T76 l1 x11_1).f2)]] rfl Try.func88 (spec_ItemText.calls k1 ((rd_T76 l1 x11_1).f0) ((rd_T76 l1 x11_1).f1) ((rd_T76 l1 x11_1).f2) t186 _ A9.out) ?_; rintro e w10 ⟨rfl, hR⟩; refine ⟨_, rfl, ?_⟩; replace HM := HM.call hR; clear hR))
    replace HM := nzM HM
    replace H := IT H; rcases H with ⟨c11, H⟩ | ⟨c11, H⟩
    ·obtain ⟨c11b0, c11b1⟩ := BE c11
     have c11b6 : (t186.toList).isEmpty = true := by first | (rw [c11]; rfl) | (cases h_ : t186.toList with | nil => exact absurd h_ c11 | cons _ _ => rfl)
     clear c11
     first|rw [c11b0]|rw [c11b6]|(simp only [i64_w, i32_w]; rw [c11b0])|skip
     simp only [Option.some.injEq, Prod.mk.injEq] at H
     obtain ⟨rfl, rfl⟩ := H
     go_wp2
     go_ret2
     exact ⟨ER, (MD HM).pick []⟩
    ·obtain ⟨c11b0, c11b1⟩ := BF c11
     have c11b6 : (t186.toList).isEmpty = false := by first | (rw [c11]; rfl) | (cases h_ : t186.toList with | nil => exact absurd h_ c11 | cons _ _ => rfl)
     first|rw [c11b0]|rw [c11b6]|(simp only [i64_w, i32_w]; rw [c11b0])|skip
     replace H := GD H; obtain ⟨c12, H⟩ := H
     have c12b0 := eq_true c12
     have c12b1 : decide (x0_1.size + 1 ≤ 9223372036854775807) = true := decide_eq_true c12
     try have c12b2 : (9223372036854775807 < x0_1.size + 1) = False := eq_false (Nat.not_lt.2 c12)
     replace H := GD H; obtain ⟨c13, H⟩ := H
     have c13b0 := eq_true c13
     have c13b1 : decide (x0_1.size + 1 + t186.size ≤ 9223372036854775807) = true := decide_eq_true c13
     try have c13b2 : (9223372036854775807 < x0_1.size + 1 + t186.size) = False := eq_false (Nat.not_lt.2 c13)
     have H' := Aside0.mk H
     clear H
     go_wp2
     go_roundg k1
     case measure => have := HK1.out; omega
     case rel => exact ⟨((x0_1 ++ (⟨#[32]⟩ : ByteArray)) ++ t186), (wrap64 (x11_1 + 1)), RS, RS, H', ⟨by have := HK1.out; omega⟩, (MD HM).pick []⟩
   ·have c3b0 := decide_eq_false c3
    clear c3
    first|rw [c3b0]|(simp only [i64_w, i32_w]; rw [c3b0])|skip
    replace H := GD H; obtain ⟨c14, H⟩ := H
    have c14b0 := eq_true c14
    have c14b1 : decide (x0_1.size + 1 ≤ 9223372036854775807) = true := decide_eq_true c14
    try have c14b2 : (9223372036854775807 < x0_1.size + 1) = False := eq_false (Nat.not_lt.2 c14)
    simp only [Option.some.injEq, Prod.mk.injEq] at H
    obtain ⟨rfl, rfl⟩ := H
    go_wp2
    go_ret2
    exact ⟨ER, (MD HM).pick []⟩
def spec_l20Nums.l0 : Nat → ByteArray → List Int → Int → Int → Option (ByteArray)
 | 0, _, _, _, _ => none
 | k + 1, x0, x7, x8, x9 => if x9 < x8 then (if 0 ≤ x9 then (if x9 < (x7.length : Int) then (if x0.size + 1 ≤ 9223372036854775807 then ((spec_NumText.f k (rd x7 x9)).bind fun t188 => (if x0.size + 1 + t188.size ≤ 9223372036854775807 then ((spec_l01Num.f (rd x7 x9)).bind fun t189 => (if t189 = true then (spec_l20Nums.l0 k ((x0 ++ (⟨#[32]⟩ : ByteArray)) ++ t188) x7 x8 (wrap64 (x9 + 1))) else (if x0.size + 1 + t188.size + 1 ≤ 9223372036854775807 then (spec_l20Nums.l0 k (((x0 ++ (⟨#[32]⟩ : ByteArray)) ++ t188) ++ (⟨#[63]⟩ : ByteArray)) x7 x8 (wrap64 (x9 + 1))) else (none)))) else (none))) else (none)) else (none)) else (none)) else (if x0.size + 1 ≤ 9223372036854775807 then (some (x0 ++ (⟨#[10]⟩ : ByteArray))) else (none))
def spec_l20Nums.f (k : Nat) (a0 : ByteArray) (l1 : List Int) : Option (ByteArray) := spec_l20Nums.l0 k a0 l1 (l1.length : Int) 0
theorem spec_l20Nums.calls (k : Nat) (a0 : ByteArray) (A1 : Option Addr) (c1 : Nat) (l1 : List Int) (r : ByteArray) (w : World) (hr1 : Kd.C (Kd.int .i64) w A1 l1.length l1) (hc1 : l1.length ≤ c1) (h : spec_l20Nums.f k a0 l1 = some r) :
  Calls Try.prog 58 #[.string a0, .slice A1 l1.length c1] w fun e w' => e = .returned (.string r) ∧ Mem w [] w' [] := by
 have HR1 := Aside0.mk hr1
 have HC1 := Aside0.mk hc1
 clear hr1 hc1
 have HM := Mem.nil w
 have H := h
 clear h
 unfold spec_l20Nums.f at H
 go_enter Try.func58, Try.ntmps58
 have H' := Aside0.mk H
 clear H
 go_wp2
 go_loopg [0, 9] k (fun kq v0 v9 w' => ∃ (x0_1 : ByteArray) (x9_1 : Int), v0 = .string x0_1 ∧ v9 = .int .i64 x9_1 ∧ Aside0 (spec_l20Nums.l0 kq x0_1 l1 (l1.length : Int) x9_1 = some r) ∧ Aside0 (kq ≤ k) ∧ Mem w [] w' [])
 case atStart => exact ⟨(a0), (0), RS, RS, H', ⟨Nat.le_refl _⟩, (MD HM).pick []⟩
 case round =>
  clear H' HM
  obtain ⟨x0_1, x9_1, rfl, rfl, HA, HK1, HM⟩ := hrel
  cases gk with
  | zero => exact absurd HA.out (by simp [spec_l20Nums.l0])
  | succ k1 =>
   have H := HA.out
   clear HA
   simp only [spec_l20Nums.l0] at H
   go_upto_if 10 with (fail)
   replace H := IT H; rcases H with ⟨c3, H⟩ | ⟨c3, H⟩
   ·have c3b0 := decide_eq_true c3
    clear c3
    first|rw [c3b0]|(simp only [i64_w, i32_w]; rw [c3b0])|skip
    replace H := GD H; obtain ⟨c4, H⟩ := H
    have c4b0 := decide_eq_true c4
    clear c4
    replace H := GD H; obtain ⟨c5, H⟩ := H
    have c5b0 := decide_eq_true c5
    clear c5
    replace H := GD H; obtain ⟨c6, H⟩ := H
    have c6b0 := eq_true c6
    have c6b1 : decide (x0_1.size + 1 ≤ 9223372036854775807) = true := decide_eq_true c6
    try have c6b2 : (9223372036854775807 < x0_1.size + 1) = False := eq_false (Nat.not_lt.2 c6)
    replace H := BN H; obtain ⟨t188, A7, H⟩ := H
    replace H := GD H; obtain ⟨c9, H⟩ := H
    have c9b0 := eq_true c9
    have c9b1 : decide (x0_1.size + 1 + t188.size ≤ 9223372036854775807) = true := decide_eq_true c9
    try have c9b2 : (9223372036854775807 < x0_1.size + 1 + t188.size) = False := eq_false (Nat.not_lt.2 c9)
    replace H := BN H; obtain ⟨t189, A10, H⟩ := H
    have p187 : 0 ≤ (x9_1 : Int) := of_decide_eq_true AS
    have q187 : (x9_1 : Int) < (l1.length : Int) := of_decide_eq_true AS
    obtain ⟨ad187, e187, hx187_0⟩ := Kd.at_int (HM.came HR1.out) x9_1 p187 q187
    cases e187
    replace p187 := eq_true p187
    replace q187 := eq_true q187
    go_upto_if 20 with (first | ((with_reducible refine gC 78 rfl ?_); refine pC (some 16) rfl #[.int .i64 (rd l1 x9_1)] rfl Try.func78 (spec_NumText.calls k1 (rd l1 x9_1) t188 _ A7.out) ?_; rintro e w8 ⟨rfl, hb⟩; refine ⟨_, rfl, ?_⟩; replace HM := HM.below hb; clear hb) | ((with_reducible refine gC 63 rfl ?_); refine pC (some 19) rfl #[.int .i64 (rd l1 x9_1)] rfl Try.func63 (spec_l01Num.calls (rd l1 x9_1) t189 _ A10.out) ?_; rintro e w11 ⟨rfl, hd⟩; refine ⟨_, rfl, ?_⟩; replace HM := HM.drawn hd; clear hd))
    replace H := IB H
    rcases H with ⟨c12, H⟩ | ⟨c12, H⟩
    ·subst c12
     have H' := Aside0.mk H
     clear H
     go_wp2
     go_roundg k1
     case measure => have := HK1.out; omega
     case rel => exact ⟨((x0_1 ++ (⟨#[32]⟩ : ByteArray)) ++ t188), (wrap64 (x9_1 + 1)), RS, RS, H', ⟨by have := HK1.out; omega⟩, (MD HM).pick []⟩
    ·subst c12
     replace H := GD H; obtain ⟨c13, H⟩ := H
     have c13b0 := eq_true c13
     have c13b1 : decide (x0_1.size + 1 + t188.size + 1 ≤ 9223372036854775807) = true := decide_eq_true c13
     try have c13b2 : (9223372036854775807 < x0_1.size + 1 + t188.size + 1) = False := eq_false (Nat.not_lt.2 c13)
     have H' := Aside0.mk H
     clear H
     go_wp2
     go_roundg k1
     case measure => have := HK1.out; omega
     case rel => exact ⟨(((x0_1 ++ (⟨#[32]⟩ : ByteArray)) ++ t188) ++ (⟨#[63]⟩ : ByteArray)), (wrap64 (x9_1 + 1)), RS, RS, H', ⟨by have := HK1.out; omega⟩, (MD HM).pick []⟩
   ·have c3b0 := decide_eq_false c3
    clear c3
    first|rw [c3b0]|(simp only [i64_w, i32_w]; rw [c3b0])|skip
    replace H := GD H; obtain ⟨c14, H⟩ := H
    have c14b0 := eq_true c14
    have c14b1 : decide (x0_1.size + 1 ≤ 9223372036854775807) = true := decide_eq_true c14
    try have c14b2 : (9223372036854775807 < x0_1.size + 1) = False := eq_false (Nat.not_lt.2 c14)
    obtain rfl := Option.some.inj H
    go_wp2
    go_ret
    exact ⟨ER, (MD HM).pick []⟩
def spec_l20Text.j0 : Nat → ByteArray → ByteArray → Bool → Int → Int → List (S76) → List (S76) → List Int → Option (ByteArray)
 | 0, _, _, _, _, _, _, _, _ => none
 | k + 1, x3, x5, x24, x191000, x191001, x191002, x191003, x191004 => if x24 = true then (some (⟨#[]⟩ : ByteArray)) else ((spec_l20Nums.f k (⟨#[116, 104, 114, 101, 101]⟩ : ByteArray) (([x191000, x191001] : List Int))).bind fun t198 => (if t198.size + x3.size ≤ 9223372036854775807 then (if t198.size + x3.size + x5.size ≤ 9223372036854775807 then ((spec_l20Nums.f k (⟨#[103, 104, 111, 115, 116]⟩ : ByteArray) x191004).bind fun t199 => (if t198.size + x3.size + x5.size + t199.size ≤ 9223372036854775807 then (some (((t198 ++ x3) ++ x5) ++ t199)) else (none))) else (none)) else (none)))
def spec_l20Text.f (k : Nat) (a0_0 : Int) (a0_1 : Int) (l0_2 : List (S76)) (l0_3 : List (S76)) (l0_4 : List Int) : Option (ByteArray) := (spec_l20Items.f k (⟨#[115, 109, 97, 108, 108]⟩ : ByteArray) l0_2).bind fun bt191 => ((spec_l20Items.f k (⟨#[109, 97, 105, 110]⟩ : ByteArray) l0_3).bind fun bt193 => (if bt191.2 = true then (spec_l20Text.j0 k bt191.1 bt193.1 (!bt193.2) a0_0 a0_1 l0_2 l0_3 l0_4) else (spec_l20Text.j0 k bt191.1 bt193.1 true a0_0 a0_1 l0_2 l0_3 l0_4)))
def spec_l20Text.T5 : Bool × List (List Nat × List Nat) := (true, [([], []), ([0], [0]), ([], []), ([2], [2]), ([1, 3], [1, 3]), ([4], [4]), ([], []), ([5, 6], [5, 6]), ([], []), ([7, 8], [7, 8]), ([], []), ([10], [10]), ([11, 5], [11]), ([9, 12], [9, 12]), ([13, 12, 0, 1, 2, 3, 4, 5, 6, 7, 8, 9, 10, 11, 12, 13], [13])])
def spec_l20Text.B5 : List Nat := [0, 1, 0, 4, 15, 31, 0, 127, 0, 511, 0, 1024, 3135, 8191, 16383]
theorem spec_l20Text.tab5 : rtab .any (opsOf Try.f24 5) = spec_l20Text.T5 := by kernel_rfl
theorem spec_l20Text.bits5 : waitsOk spec_l20Text.T5.2 spec_l20Text.B5 = true := by kernel_rfl
theorem spec_l20Text.calls (k : Nat) (a0_0 : Int) (a0_1 : Int) (A0_2 : Option Addr) (c0_2 : Nat) (l0_2 : List (S76)) (A0_3 : Option Addr) (c0_3 : Nat) (l0_3 : List (S76)) (A0_4 : Option Addr) (c0_4 : Nat) (l0_4 : List Int) (r : ByteArray) (w : World) (hr0_2 : Kd.C k76 w A0_2 l0_2.length l0_2) (hc0_2 : l0_2.length ≤ c0_2) (hr0_3 : Kd.C k76 w A0_3 l0_3.length l0_3) (hc0_3 : l0_3.length ≤ c0_3) (hr0_4 : Kd.C (Kd.int .i64) w A0_4 l0_4.length l0_4) (hc0_4 : l0_4.length ≤ c0_4) (h : spec_l20Text.f k a0_0 a0_1 l0_2 l0_3 l0_4 = some r) :
  Calls Try.prog 24 #[.agg #[.int .i64 a0_0, .int .i64 a0_1, .slice A0_2 l0_2.length c0_2, .slice A0_3 l0_3.length c0_3, .slice A0_4 l0_4.length c0_4]] w fun e w' => e = .returned (.string r) ∧ Mem w [] w' [] := by
 have hu25 := Try.underlying25
 have HR0_2 := Aside0.mk hr0_2
 have HC0_2 := Aside0.mk hc0_2
 clear hr0_2 hc0_2
 have HR0_3 := Aside0.mk hr0_3
 have HC0_3 := Aside0.mk hc0_3
 clear hr0_3 hc0_3
 have HR0_4 := Aside0.mk hr0_4
 have HC0_4 := Aside0.mk hc0_4
 clear hr0_4 hc0_4
 have HM := Mem.nil w
 have H := h
 clear h
 unfold spec_l20Text.f at H
 go_enter Try.func24, Try.ntmps24
 replace H := BN H; obtain ⟨⟨t191, t192⟩, A4, H⟩ := H
 replace H := BN H; obtain ⟨⟨t193, t194⟩, A7, H⟩ := H
 have HC9 := Aside0.mk H
 clear H
 go_upto_region 3 with (first | ((with_reducible refine gN 1 rfl ?_); refine pB 1 25 [.int .i64 a0_0, .int .i64 a0_1, .slice A0_2 l0_2.length c0_2, .slice A0_3 l0_3.length c0_3, .slice A0_4 l0_4.length c0_4] HM rfl ?_; clear HM; intro gb190 w2 HM; obtain ⟨_,_,_,_,_,_,_,_,_,_⟩ := bk5 (HM.bx 0 rfl)) | ((with_reducible refine gC 57 rfl ?_); refine pC (some 10) rfl #[.string (⟨#[115, 109, 97, 108, 108]⟩ : ByteArray), .slice A0_2 l0_2.length c0_2] rfl Try.func57 (spec_l20Items.calls k (⟨#[115, 109, 97, 108, 108]⟩ : ByteArray) _ _ l0_2 t191 t192 _ (HM.came HR0_2.out) HC0_2.out A4.out) ?_; rintro e w5 ⟨rfl, hR⟩; refine ⟨_, rfl, ?_⟩; replace HM := HM.call hR; clear hR; obtain ⟨_,_,_,_,_,_,_,_,_,_⟩ := bk5 (HM.bx 0 rfl)) | ((with_reducible refine gC 57 rfl ?_); refine pC (some 16) rfl #[.string (⟨#[109, 97, 105, 110]⟩ : ByteArray), .slice A0_3 l0_3.length c0_3] rfl Try.func57 (spec_l20Items.calls k (⟨#[109, 97, 105, 110]⟩ : ByteArray) _ _ l0_3 t193 t194 _ (HM.came HR0_3.out) HC0_3.out A7.out) ?_; rintro e w8 ⟨rfl, hR⟩; refine ⟨_, rfl, ?_⟩; replace HM := HM.call hR; clear hR))
 replace HM := nzM HM
 go_cut [24] (fun v24 wc => ∃ (kq : Nat) (x24_8 : Bool), v24 = .bool x24_8 ∧ Aside0 (spec_l20Text.j0 kq t191 t193 x24_8 a0_0 a0_1 l0_2 l0_3 l0_4 = some r) ∧ Aside0 (kq ≤ k) ∧ Mem w [] wc [box 25 gb190 [.int .i64 a0_0, .int .i64 a0_1, .slice A0_2 l0_2.length c0_2, .slice A0_3 l0_3.length c0_3, .slice A0_4 l0_4.length c0_4]])
 case first =>
  have H := HC9.out
  clear HC9
  replace H := IB H
  rcases H with ⟨c10, H⟩ | ⟨c10, H⟩
  ·subst c10
   have H' := Aside0.mk H
   clear H
   go_wp2
   go_meet
   case rel => exact ⟨_, (!t194), RS, H', ⟨by first | omega | exact Nat.le_refl _⟩, (MD HM).pick [0]⟩
  ·subst c10
   have H' := Aside0.mk H
   clear H
   go_wp2
   go_meet
   case rel => exact ⟨_, (true), RS, H', ⟨by first | omega | exact Nat.le_refl _⟩, (MD HM).pick [0]⟩
 case rest =>
  clear HC9 HM
  obtain ⟨kq, x24_8, rfl, HA, HJ8, HM⟩ := hcut
  cases kq with
  | zero => exact absurd HA.out (by simp [spec_l20Text.j0])
  | succ kj8 =>
   have H := HA.out
   clear HA
   simp only [spec_l20Text.j0] at H
   go_upto_if 24 with (fail)
   replace H := IB H
   rcases H with ⟨c11, H⟩ | ⟨c11, H⟩
   ·subst c11
    obtain rfl := Option.some.inj H
    go_wp2
    go_ret
    exact ⟨ER, (MD HM).pick []⟩
   ·subst c11
    try go_wp2
    replace H := BN H; obtain ⟨t198, A12, H⟩ := H
    replace H := GD H; obtain ⟨c13, H⟩ := H
    have c13b0 := eq_true c13
    have c13b1 : decide (t198.size + t191.size ≤ 9223372036854775807) = true := decide_eq_true c13
    try have c13b2 : (9223372036854775807 < t198.size + t191.size) = False := eq_false (Nat.not_lt.2 c13)
    replace H := GD H; obtain ⟨c14, H⟩ := H
    have c14b0 := eq_true c14
    have c14b1 : decide (t198.size + t191.size + t193.size ≤ 9223372036854775807) = true := decide_eq_true c14
    try have c14b2 : (9223372036854775807 < t198.size + t191.size + t193.size) = False := eq_false (Nat.not_lt.2 c14)
    replace H := BN H; obtain ⟨t199, A15, H⟩ := H
    replace H := GD H; obtain ⟨c16, H⟩ := H
    have c16b0 := eq_true c16
    have c16b1 : decide (t198.size + t191.size + t193.size + t199.size ≤ 9223372036854775807) = true := decide_eq_true c16
    try have c16b2 : (9223372036854775807 < t198.size + t191.size + t193.size + t199.size) = False := eq_false (Nat.not_lt.2 c16)
    refine RGN 15 [0, 1, 2, 3, 4, 5, 6, 7, 8, 9, 10, 11, 12, 13, 14] (fun a0 b a w' => ∃ (v196 : Value), a = putSel a0 b [(0, 25, .pointer (some ⟨gb190, 0, none⟩)), (1, 26, .int .i64 a0_0), (2, 27, .pointer (some ⟨gb190, 1, none⟩)), (3, 28, .int .i64 a0_1), (4, 29, v196), (5, 30, .string t198), (6, 31, .string t191), (7, 32, .string (t198 ++ t191)), (8, 33, .string t193), (9, 34, .string ((t198 ++ t191) ++ t193)), (10, 35, .pointer (some ⟨gb190, 4, none⟩)), (11, 36, .slice A0_4 l0_4.length c0_4), (12, 37, .string t199), (13, 38, .string (((t198 ++ t191) ++ t193) ++ t199)), (14, 2, .string (((t198 ++ t191) ++ t193) ++ t199))] ∧ Mem w [] w' [box 25 gb190 [.int .i64 a0_0, .int .i64 a0_1, .slice A0_2 l0_2.length c0_2, .slice A0_3 l0_3.length c0_3, .slice A0_4 l0_4.length c0_4], sel (b 4) (rowR (Kd.int .i64) 3 v196 (([a0_0, a0_1] : List Int))) (emp)]) spec_l20Text.tab5 spec_l20Text.bits5 ?_ ?_ ?_
    ·exact ⟨.bool false, PS0' rfl _, (HM.drew.ems 1).pick [0, 1]⟩
    ·clear HM
     refine SZ ?_ ?_
     ·rintro b a w ⟨v196, ha, HM⟩ hb hon hoff K hK
      replace ha := Aside0.mk ha
      have e1 := PG ha 1
      exact VL (.pointer (some ⟨gb190, 0, none⟩)) (hK.out _ _ ⟨v196, PUT ha 0 hb, HM⟩)
     refine SZ ?_ ?_
     ·rintro b a w ⟨v196, ha, HM⟩ hb hon hoff K hK
      replace ha := Aside0.mk ha
      obtain ⟨_,_,_,_,_,_,_,_,_,_⟩ := bk5 (HM.bx 0 rfl)
      have e25 := PE ha 0 hon
      exact VL (.int .i64 a0_0) (hK.out _ _ ⟨v196, PUT ha 1 hb, HM⟩)
     refine SZ ?_ ?_
     ·rintro b a w ⟨v196, ha, HM⟩ hb hon hoff K hK
      replace ha := Aside0.mk ha
      have e1 := PG ha 1
      exact VL (.pointer (some ⟨gb190, 1, none⟩)) (hK.out _ _ ⟨v196, PUT ha 2 hb, HM⟩)
     refine SZ ?_ ?_
     ·rintro b a w ⟨v196, ha, HM⟩ hb hon hoff K hK
      replace ha := Aside0.mk ha
      obtain ⟨_,_,_,_,_,_,_,_,_,_⟩ := bk5 (HM.bx 0 rfl)
      have e27 := PE ha 2 hon
      exact VL (.int .i64 a0_1) (hK.out _ _ ⟨v196, PUT ha 3 hb, HM⟩)
     refine SZ ?_ ?_
     ·rintro b a w ⟨v196, ha, HM⟩ hb hon hoff K hK
      replace ha := Aside0.mk ha
      have e26 := PE ha 1 hon
      have e28 := PE ha 3 hon
      refine ST (eL 29 (Kd.int .i64) 3 ([a0_0, a0_1] : List Int) [.int .i64 a0_0, .int .i64 a0_1] (Reps.one (show Kd.M (Kd.int .i64) _ _ _ a0_0 [.int .i64 a0_0] from rfl) (Reps.one (show Kd.M (Kd.int .i64) _ _ _ a0_1 [.int .i64 a0_1] from rfl) (Reps.none _ _))) HM rfl ?_)
      clear HM
      intro v196 w26 HM
      exact hK.out _ _ ⟨v196, PUT ha 4 hb, (HM).pick [0, 2]⟩
     refine SZ ?_ ?_
     ·rintro b a w ⟨v196, ha, HM⟩ hb hon hoff K hK
      replace ha := Aside0.mk ha
      replace HM := HM.sT 1 rfl (hon 4 rfl)
      obtain ⟨Xo28, ko28, rfl⟩ := HM.rdR 1 rfl
      have e29 := PE ha 4 hon
      refine ST (eC (some 30) rfl #[.string (⟨#[116, 104, 114, 101, 101]⟩ : ByteArray), .slice Xo28 (([a0_0, a0_1] : List Int)).length ko28] rfl Try.func58 (spec_l20Nums.calls kj8 (⟨#[116, 104, 114, 101, 101]⟩ : ByteArray) _ _ (([a0_0, a0_1] : List Int)) t198 _ (HM.CR 1 rfl).2.2 (HM.CR 1 rfl).2.1 A12.out) ?_ (hargs := by (simp only [List.map_toArray, List.map_cons, List.map_nil, evc, eval_of e29]) <;> rfl))
      rintro e w27 ⟨rfl, hR⟩
      refine ⟨_, rfl, ?_⟩
      replace HM := HM.call hR
      clear hR
      exact hK.out _ _ ⟨.slice Xo28 (([a0_0, a0_1] : List Int)).length ko28, PUT ha 5 hb, (HM.iT 1 rfl (hon 4 rfl)).pick [0, 1]⟩
     refine SZ ?_ ?_
     ·rintro b a w ⟨v196, ha, HM⟩ hb hon hoff K hK
      replace ha := Aside0.mk ha
      have e3 := PG ha 3
      exact VL (.string t191) (hK.out _ _ ⟨v196, PUT ha 6 hb, HM⟩)
     refine SZ ?_ ?_
     ·rintro b a w ⟨v196, ha, HM⟩ hb hon hoff K hK
      replace ha := Aside0.mk ha
      have e30 := PE ha 5 hon
      have e31 := PE ha 6 hon
      exact VL (.string (t198 ++ t191)) (hK.out _ _ ⟨v196, PUT ha 7 hb, HM⟩)
     refine SZ ?_ ?_
     ·rintro b a w ⟨v196, ha, HM⟩ hb hon hoff K hK
      replace ha := Aside0.mk ha
      have e5 := PG ha 5
      exact VL (.string t193) (hK.out _ _ ⟨v196, PUT ha 8 hb, HM⟩)
     refine SZ ?_ ?_
     ·rintro b a w ⟨v196, ha, HM⟩ hb hon hoff K hK
      replace ha := Aside0.mk ha
      have e32 := PE ha 7 hon
      have e33 := PE ha 8 hon
      exact VL (.string ((t198 ++ t191) ++ t193)) (hK.out _ _ ⟨v196, PUT ha 9 hb, HM⟩)
     refine SZ ?_ ?_
     ·rintro b a w ⟨v196, ha, HM⟩ hb hon hoff K hK
      replace ha := Aside0.mk ha
      have e1 := PG ha 1
      exact VL (.pointer (some ⟨gb190, 4, none⟩)) (hK.out _ _ ⟨v196, PUT ha 10 hb, HM⟩)
     refine SZ ?_ ?_
     ·rintro b a w ⟨v196, ha, HM⟩ hb hon hoff K hK
      replace ha := Aside0.mk ha
      obtain ⟨_,_,_,_,_,_,_,_,_,_⟩ := bk5 (HM.bx 0 rfl)
      have e35 := PE ha 10 hon
      exact VL (.slice A0_4 l0_4.length c0_4) (hK.out _ _ ⟨v196, PUT ha 11 hb, HM⟩)
     refine SZ ?_ ?_
     ·rintro b a w ⟨v196, ha, HM⟩ hb hon hoff K hK
      replace ha := Aside0.mk ha
      have e36 := PE ha 11 hon
      refine ST (eC (some 37) rfl #[.string (⟨#[103, 104, 111, 115, 116]⟩ : ByteArray), .slice A0_4 l0_4.length c0_4] rfl Try.func58 (spec_l20Nums.calls kj8 (⟨#[103, 104, 111, 115, 116]⟩ : ByteArray) _ _ l0_4 t199 _ (HM.came HR0_4.out) HC0_4.out A15.out) ?_ (hargs := by (simp only [List.map_toArray, List.map_cons, List.map_nil, evc, eval_of e36]) <;> rfl))
      rintro e w30 ⟨rfl, hR⟩
      refine ⟨_, rfl, ?_⟩
      replace HM := HM.call hR
      clear hR
      exact hK.out _ _ ⟨v196, PUT ha 12 hb, (HM).pick [0, 1]⟩
     refine SZ ?_ ?_
     ·rintro b a w ⟨v196, ha, HM⟩ hb hon hoff K hK
      replace ha := Aside0.mk ha
      have e34 := PE ha 9 hon
      have e37 := PE ha 12 hon
      exact VL (.string (((t198 ++ t191) ++ t193) ++ t199)) (hK.out _ _ ⟨v196, PUT ha 13 hb, HM⟩)
     refine SZ ?_ ?_
     ·rintro b a w ⟨v196, ha, HM⟩ hb hon hoff K hK
      replace ha := Aside0.mk ha
      have e38 := PE ha 13 hon
      exact VL (.string (((t198 ++ t191) ++ t193) ++ t199)) (hK.out _ _ ⟨v196, PUT ha 14 hb, HM⟩)
     exact steps_nil
    rintro _ w31 ⟨v196, rfl, HM⟩
    replace HM := HM.sT 1 rfl rfl
    simp only [putSel, if_true, Act.put, List.setIfInBounds_toArray, List.set_cons_zero, List.set_cons_succ, gt_iff_lt, ge_iff_le]
    obtain rfl := Option.some.inj H
    go_wp2
    go_ret
    exact ⟨ER, (MD HM).pick []⟩
def spec_TextThree.f (k : Nat) (a0 : ByteArray) : Option (Int × Int × (List (S76)) × (List (S76)) × List Int × Int) := if (a0.size : Int) > 8000 then (some (0, 0, ([] : List (S76)), ([] : List (S76)), ([] : List Int), 1)) else ((spec_Lines.f k a0).bind fun t227 => (if (t227.length : Int) = 4 then (if 0 < (t227.length : Int) then ((spec_Cut.f k (rdOf ByteArray.empty t227 0)).bind fun t231 => ((spec_l20Numbers.f k t231).bind fun t234 => ((some (([0, 0] : List Int) : List Int)).bind fun y237 => (if t234.length + y237.length < 17592186044416 then ((some (t234 ++ y237 : List Int)).bind fun y240 => (if 0 < (y240.length : Int) then (if 1 < (y240.length : Int) then (if 1 < (t227.length : Int) then ((spec_Cut.f k (rdOf ByteArray.empty t227 1)).bind fun t246 => ((spec_l20Read.f k t246).bind fun t249 => (if 2 < (t227.length : Int) then ((spec_Cut.f k (rdOf ByteArray.empty t227 2)).bind fun t253 => ((spec_l20Read.f k t253).bind fun t256 => (if 3 < (t227.length : Int) then ((spec_Cut.f k (rdOf ByteArray.empty t227 3)).bind fun t260 => ((spec_l20Numbers.f k t260).bind fun t263 => ((spec_l20Text.f k (rd y240 0) (rd y240 1) t249 t256 t263).bind fun t267 => (if t267.toList = a0.toList then ((spec_ThreeOk.f k (rd y240 0) (rd y240 1) t249 t256 t263).bind fun t268 => (if t268 = true then (some (rd y240 0, rd y240 1, t249, t256, t263, 0)) else (some (0, 0, ([] : List (S76)), ([] : List (S76)), ([] : List Int), 3)))) else (some (0, 0, ([] : List (S76)), ([] : List (S76)), ([] : List Int), 2)))))) else (none)))) else (none)))) else (none)) else (none)) else (none))) else (none))))) else (none)) else (some (0, 0, ([] : List (S76)), ([] : List (S76)), ([] : List Int), 2))))
def spec_TextThree.T7 : Bool × List (List Nat × List Nat) := (true, [([], []), ([0], [0]), ([1], [1]), ([], []), ([3], [3]), ([4], [4]), ([], []), ([6], [6]), ([7], [7]), ([8], [8]), ([9, 9], [9]), ([], []), ([11], [11]), ([12], [12]), ([13, 10], [13]), ([14, 14], [14]), ([], []), ([16], [16]), ([17], [17]), ([18, 15], [18]), ([19, 19], [19]), ([2, 5, 10, 15, 20], [2, 5, 10, 15, 20]), ([], []), ([22, 21, 20, 0, 1, 2, 3, 4, 5, 6, 7, 8, 9, 10, 11, 12, 13, 14, 15, 16, 17, 18, 19, 20, 21, 22], [21, 22])])
def spec_TextThree.B7 : List Nat := [0, 1, 3, 0, 8, 24, 0, 64, 192, 448, 960, 0, 2048, 6144, 16320, 32704, 0, 65536, 196608, 524224, 1048512, 2097151, 0, 8388607]
theorem spec_TextThree.tab7 : rtab .any (opsOf Try.f6 7) = spec_TextThree.T7 := by kernel_rfl
theorem spec_TextThree.bits7 : waitsOk spec_TextThree.T7.2 spec_TextThree.B7 = true := by kernel_rfl
theorem spec_TextThree.calls (k : Nat) (a0 : ByteArray) (r1 : Int) (r2 : Int) (r3 : List (S76)) (r4 : List (S76)) (r5 : List Int) (r6 : Int) (w : World)  (h : spec_TextThree.f k a0 = some (r1, r2, r3, r4, r5, r6)) :
  Calls Try.prog 6 #[.string a0] w fun e w' => ∃ v2_ v3_ v4_ : Value, e = .returned (.tuple #[.agg #[.int .i64 r1, .int .i64 r2, v2_, v3_, v4_], .int .i64 r6]) ∧ Mem w [] w' [rowR k76 76 v2_ r3, rowR k76 76 v3_ r4, rowR (Kd.int .i64) 3 v4_ r5] := by
 have hu25 := Try.underlying25
 have HM := Mem.nil w
 have H := h
 clear h
 unfold spec_TextThree.f at H
 go_enter Try.func6, Try.ntmps6
 go_upto_if 9 with (first | ((with_reducible refine gN 2 rfl ?_); refine pB 2 25 [.int .i64 0, .int .i64 0, .slice none 0 0, .slice none 0 0, .slice none 0 0] HM rfl ?_; clear HM; intro gb226 w2 HM))
 replace H := IT H; rcases H with ⟨c3, H⟩ | ⟨c3, H⟩
 ·replace c3 : (a0.size : Int) > 8000 := c3
  have c3b0 : decide (8000 < (a0.size : Int)) = true := decide_eq_true c3
  have c3b1 : decide (8000 < a0.size) = true := decide_eq_true (by omega)
  clear c3
  first|rw [c3b0]|(simp only [i64_w, i32_w]; rw [c3b0])|skip
  simp only [Option.some.injEq, Prod.mk.injEq] at H
  obtain ⟨rfl, rfl, rfl, rfl, rfl, rfl⟩ := H
  go_wp2_with (first | ((with_reducible refine gS 2 rfl ?_); refine pS 0 2 0 [.int .i64 0, .int .i64 0, .slice none 0 0, .slice none 0 0, .slice none 0 0] HM rfl rfl ?_; clear HM; intro w4 HM; replace HM := HM.nl k76 76; replace HM := HM.nl k76 76; replace HM := HM.nl (Kd.int .i64) 3))
  refine bodyPost_ret (results_ct rfl _ _ gb226 25 #[.int .i64 0, .int .i64 0, .slice none 0 0, .slice none 0 0, .slice none 0 0] (0, 0) _ rfl (HM.bx 0 rfl) Try.underlying25 rfl (by kernel_rfl)) rfl ?_
  exact ⟨_, _, _, ER, (MD HM).pick [1, 2, 3]⟩
 ·replace c3 : ¬ ((a0.size : Int) > 8000) := c3
  have c3b0 : decide (8000 < (a0.size : Int)) = false := decide_eq_false c3
  have c3b1 : decide (8000 < a0.size) = false := decide_eq_false (by omega)
  clear c3
  first|rw [c3b0]|(simp only [i64_w, i32_w]; rw [c3b0])|skip
  replace H := BN H; obtain ⟨t227, A5, H⟩ := H
  go_upto_if 15 with (first | ((with_reducible refine gC 20 rfl ?_); refine pC (some 12) rfl #[.string a0] rfl Try.func20 (spec_Lines.calls k a0 t227 _ A5.out) ?_; rintro e w6 ⟨v228, rfl, hR⟩; refine ⟨_, rfl, ?_⟩; replace HM := HM.call hR; clear hR; obtain ⟨Xo7, ko7, rfl⟩ := HM.rdR 1 rfl))
  replace H := IT H; rcases H with ⟨c8, H⟩ | ⟨c8, H⟩
  ·obtain ⟨c8b0, c8b1⟩ := BE c8
   clear c8
   first|rw [c8b0]|(simp only [i64_w, i32_w]; rw [c8b0])|skip
   replace H := GD H; obtain ⟨c9, H⟩ := H
   replace c9 : 0 < (t227.length : Int) := c9
   have c9b0 := decide_eq_true c9
   have c9b1 : decide (0 < t227.length) = true := decide_eq_true (by omega)
   have c9b9 : decide (0 < t227.length) = true := decide_eq_true (by omega)
   clear c9
   replace H := BN H; obtain ⟨t231, A10, H⟩ := H
   replace H := BN H; obtain ⟨t234, A12, H⟩ := H
   replace H := BLt H; obtain ⟨y237, Ny237, H⟩ := H
   replace Ny237 := Aside0.mk Ny237
   replace H := GD H; obtain ⟨c16, H⟩ := H
   have LMc16 := Aside0.mk c16
   clear c16
   replace H := BLt H; obtain ⟨y240, Ny240, H⟩ := H
   replace Ny240 := Aside0.mk Ny240
   have p230 : 0 ≤ (0 : Int) := (by omega)
   have q230 : (0 : Int) < (t227.length : Int) := of_decide_eq_true AS
   obtain ⟨ad230, e230, hx230_0⟩ := Kd.at_string (HM.CR 1 rfl).2.2 0 p230 q230
   cases e230
   have qi230 : (0 < t227.length) = True := eq_true (by omega)
   (try rw [show ((0 : Int)).toNat = 0 from rfl] at hx230_0)
   (try rw [Addr.add_zero'] at hx230_0)
   replace p230 := eq_true p230
   replace q230 := eq_true q230
   try go_wp2_with (first | ((with_reducible refine gC 22 rfl ?_); refine pC (some 20) rfl #[.string (rdOf ByteArray.empty t227 0)] rfl Try.func22 (spec_Cut.calls k (rdOf ByteArray.empty t227 0) t231 _ A10.out) ?_; rintro e w11 ⟨v232, rfl, hR⟩; refine ⟨_, rfl, ?_⟩; replace HM := HM.call hR; clear hR; obtain ⟨Xo14, ko14, rfl⟩ := HM.rdR 2 rfl) | ((with_reducible refine gC 21 rfl ?_); refine pC (some 21) rfl #[.slice Xo14 t231.length ko14] rfl Try.func21 (spec_l20Numbers.calls k _ _ t231 t234 _ (HM.CR 2 rfl).2.2 (HM.CR 2 rfl).2.1 A12.out) ?_; rintro e w13 ⟨v235, rfl, hR⟩; refine ⟨_, rfl, ?_⟩; replace HM := HM.call hR; clear hR) | ((with_reducible refine gN 22 rfl ?_); refine pL 22 (Kd.int .i64) 3 ([0, 0] : List Int) [.int .i64 0, .int .i64 0] (Reps.one (show Kd.M (Kd.int .i64) _ _ _ 0 [.int .i64 0] from rfl) (Reps.one (show Kd.M (Kd.int .i64) _ _ _ 0 [.int .i64 0] from rfl) (Reps.none _ _))) HM rfl ?_; clear HM; intro v238 w15 HM; replace HM := HM.nm 4 rfl Ny237.out; obtain ⟨Xo17, ko17, rfl⟩ := HM.rdR 4 rfl) | ((with_reducible refine gate_builtin (b := .append) (xs := #[.tmp 21, .tmp 22]) rfl ?_); refine pA 3 (.tmp 21) (.tmp 22) 23 3 (Kd.int .i64) v235 t234 y237 Xo17 y237.length ko17 HM rfl Try.underlying23 info3 rfl (HM.CR 4 rfl).2.2 (by have h_ := LMc16.out; omega) ?_; clear HM; intro v241 w18 HM; replace HM := HM.nm 3 rfl Ny240.out))
   replace H := GD H; obtain ⟨c19, H⟩ := H
   replace c19 : 0 < (y240.length : Int) := c19
   have c19b0 := decide_eq_true c19
   have c19b1 : decide (0 < y240.length) = true := decide_eq_true (by omega)
   have c19b9 : decide (0 < y240.length) = true := decide_eq_true (by omega)
   clear c19
   replace H := GD H; obtain ⟨c20, H⟩ := H
   replace c20 : 1 < (y240.length : Int) := c20
   have c20b0 := decide_eq_true c20
   have c20b1 : decide (1 < y240.length) = true := decide_eq_true (by omega)
   have c20b9 : decide (1 < y240.length) = true := decide_eq_true (by omega)
   clear c20
   replace H := GD H; obtain ⟨c21, H⟩ := H
   replace c21 : 1 < (t227.length : Int) := c21
   have c21b0 := decide_eq_true c21
   have c21b1 : decide (1 < t227.length) = true := decide_eq_true (by omega)
   have c21b9 : decide (1 < t227.length) = true := decide_eq_true (by omega)
   clear c21
   replace H := BN H; obtain ⟨t246, A22, H⟩ := H
   replace H := BN H; obtain ⟨t249, A23, H⟩ := H
   replace H := GD H; obtain ⟨c24, H⟩ := H
   replace c24 : 2 < (t227.length : Int) := c24
   have c24b0 := decide_eq_true c24
   have c24b1 : decide (2 < t227.length) = true := decide_eq_true (by omega)
   have c24b9 : decide (2 < t227.length) = true := decide_eq_true (by omega)
   clear c24
   replace H := BN H; obtain ⟨t253, A25, H⟩ := H
   replace H := BN H; obtain ⟨t256, A26, H⟩ := H
   replace H := GD H; obtain ⟨c27, H⟩ := H
   replace c27 : 3 < (t227.length : Int) := c27
   have c27b0 := decide_eq_true c27
   have c27b1 : decide (3 < t227.length) = true := decide_eq_true (by omega)
   have c27b9 : decide (3 < t227.length) = true := decide_eq_true (by omega)
   clear c27
   replace H := BN H; obtain ⟨t260, A28, H⟩ := H
   replace H := BN H; obtain ⟨t263, A29, H⟩ := H
   obtain ⟨Xo51, ko51, rfl⟩ := HM.rdR 3 rfl
   have p243 : 0 ≤ (0 : Int) := (by omega)
   have q243 : (0 : Int) < (y240.length : Int) := of_decide_eq_true AS
   obtain ⟨ad243, e243, hx243_0⟩ := Kd.at_int (HM.CR 3 rfl).2.2 0 p243 q243
   cases e243
   have qi243 : (0 < y240.length) = True := eq_true (by omega)
   (try rw [show ((0 : Int)).toNat = 0 from rfl] at hx243_0)
   (try rw [Addr.add_zero'] at hx243_0)
   replace p243 := eq_true p243
   replace q243 := eq_true q243
   have p244 : 0 ≤ (1 : Int) := (by omega)
   have q244 : (1 : Int) < (y240.length : Int) := of_decide_eq_true AS
   obtain ⟨ad244, e244, hx244_0⟩ := Kd.at_int (HM.CR 3 rfl).2.2 1 p244 q244
   obtain rfl := Option.some.inj e244
   have qi244 : (1 < y240.length) = True := eq_true (by omega)
   (try rw [show ((1 : Int)).toNat = 1 from rfl] at hx244_0)
   (try simp only [Nat.reduceMul, Nat.reduceEqDiff, Go.Addr.add, ↓reduceIte] at hx244_0)
   replace p244 := eq_true p244
   replace q244 := eq_true q244
   have p245 : 0 ≤ (1 : Int) := (by omega)
   have q245 : (1 : Int) < (t227.length : Int) := of_decide_eq_true AS
   obtain ⟨ad245, e245, hx245_0⟩ := Kd.at_string (HM.CR 1 rfl).2.2 1 p245 q245
   obtain rfl := Option.some.inj e245
   have qi245 : (1 < t227.length) = True := eq_true (by omega)
   (try rw [show ((1 : Int)).toNat = 1 from rfl] at hx245_0)
   (try simp only [Nat.reduceMul, Nat.reduceEqDiff, Go.Addr.add, ↓reduceIte] at hx245_0)
   replace p245 := eq_true p245
   replace q245 := eq_true q245
   have p252 : 0 ≤ (2 : Int) := (by omega)
   have q252 : (2 : Int) < (t227.length : Int) := of_decide_eq_true AS
   obtain ⟨ad252, e252, hx252_0⟩ := Kd.at_string (HM.CR 1 rfl).2.2 2 p252 q252
   obtain rfl := Option.some.inj e252
   have qi252 : (2 < t227.length) = True := eq_true (by omega)
   (try rw [show ((2 : Int)).toNat = 2 from rfl] at hx252_0)
   (try simp only [Nat.reduceMul, Nat.reduceEqDiff, Go.Addr.add, ↓reduceIte] at hx252_0)
   replace p252 := eq_true p252
   replace q252 := eq_true q252
   have p259 : 0 ≤ (3 : Int) := (by omega)
   have q259 : (3 : Int) < (t227.length : Int) := of_decide_eq_true AS
   obtain ⟨ad259, e259, hx259_0⟩ := Kd.at_string (HM.CR 1 rfl).2.2 3 p259 q259
   obtain rfl := Option.some.inj e259
   have qi259 : (3 < t227.length) = True := eq_true (by omega)
   (try rw [show ((3 : Int)).toNat = 3 from rfl] at hx259_0)
   (try simp only [Nat.reduceMul, Nat.reduceEqDiff, Go.Addr.add, ↓reduceIte] at hx259_0)
   replace p259 := eq_true p259
   replace q259 := eq_true q259
   refine RGN 24 [0, 1, 2, 3, 4, 5, 6, 7, 8, 9, 10, 11, 12, 13, 14, 15, 16, 17, 18, 19, 20, 21, 22, 23] (fun a0 b a w' => ∃ (v247 : Value) (v250 : Value) (v254 : Value) (v257 : Value) (v261 : Value) (v264 : Value) (gb266 : Nat), a = putSel a0 b [(0, 24, .slice (some ad243) y240.length ko51), (1, 25, .pointer (some ad243)), (2, 26, .int .i64 (rd y240 0)), (3, 27, .slice (some ad243) y240.length ko51), (4, 28, .pointer (some (ad243.add 1))), (5, 29, .int .i64 (rd y240 1)), (6, 30, .slice (some ad230) t227.length ko7), (7, 31, .pointer (some (ad230.add 1))), (8, 32, .string (rdOf ByteArray.empty t227 1)), (9, 33, v247), (10, 34, v250), (11, 35, .slice (some ad230) t227.length ko7), (12, 36, .pointer (some (ad230.add 2))), (13, 37, .string (rdOf ByteArray.empty t227 2)), (14, 38, v254), (15, 39, v257), (16, 40, .slice (some ad230) t227.length ko7), (17, 41, .pointer (some (ad230.add 3))), (18, 42, .string (rdOf ByteArray.empty t227 3)), (19, 43, v261), (20, 44, v264), (21, 45, .agg #[.int .i64 (rd y240 0), .int .i64 (rd y240 1), v250, v257, v264]), (22, 6, .pointer (some ⟨gb266, 0, none⟩))] ∧ Mem w [] w' [box 25 gb226 [.int .i64 0, .int .i64 0, .slice none 0 0, .slice none 0 0, .slice none 0 0], rowR Kd.string 9 (.slice (some ad230) t227.length ko7) t227, rowR Kd.string 9 (.slice Xo14 t231.length ko14) t231, rowR (Kd.int .i64) 3 (.slice (some ad243) y240.length ko51) y240, rowR (Kd.int .i64) 3 (.slice Xo17 y237.length ko17) y237, sel (b 9) (rowR Kd.string 9 v247 t246) (emp), sel (b 10) (rowR k76 76 v250 t249) (emp), sel (b 14) (rowR Kd.string 9 v254 t253) (emp), sel (b 15) (rowR k76 76 v257 t256) (emp), sel (b 19) (rowR Kd.string 9 v261 t260) (emp), sel (b 20) (rowR (Kd.int .i64) 3 v264 t263) (emp), sel (b 23) (box 25 gb266 [.int .i64 (rd y240 0), .int .i64 (rd y240 1), v250, v257, v264]) (sel (b 22) (box 25 gb266 [.int .i64 0, .int .i64 0, .slice none 0 0, .slice none 0 0, .slice none 0 0]) (emp))]) spec_TextThree.tab7 spec_TextThree.bits7 ?_ ?_ ?_
   ·exact ⟨.bool false, .bool false, .bool false, .bool false, .bool false, .bool false, 0, PS0' rfl _, (HM.drew.ems 7).pick [0, 1, 2, 3, 4, 5, 6, 7, 8, 9, 10, 11]⟩
   ·clear HM
    refine SZ ?_ ?_
    ·rintro b a w ⟨v247, v250, v254, v257, v261, v264, gb266, ha, HM⟩ hb hon hoff K hK
     replace ha := Aside0.mk ha
     have e5 := PG ha 5
     exact VL (.slice (some ad243) y240.length ko51) (hK.out _ _ ⟨v247, v250, v254, v257, v261, v264, gb266, PUT ha 0 hb, HM⟩)
    refine SZ ?_ ?_
    ·rintro b a w ⟨v247, v250, v254, v257, v261, v264, gb266, ha, HM⟩ hb hon hoff K hK
     replace ha := Aside0.mk ha
     have p243 : 0 ≤ (0 : Int) := (by omega)
     have q243 : (0 : Int) < (y240.length : Int) := of_decide_eq_true AS
     obtain ⟨ad243, e243, hx243_0⟩ := Kd.at_int (HM.CR 3 rfl).2.2 0 p243 q243
     obtain rfl := Option.some.inj e243
     have qi243 : (0 < y240.length) = True := eq_true (by omega)
     (try rw [show ((0 : Int)).toNat = 0 from rfl] at hx243_0)
     (try rw [Addr.add_zero'] at hx243_0)
     replace p243 := eq_true p243
     replace q243 := eq_true q243
     have e24 := PE ha 0 hon
     exact VL (.pointer (some ad243)) (hK.out _ _ ⟨v247, v250, v254, v257, v261, v264, gb266, PUT ha 1 hb, HM⟩)
    refine SZ ?_ ?_
    ·rintro b a w ⟨v247, v250, v254, v257, v261, v264, gb266, ha, HM⟩ hb hon hoff K hK
     replace ha := Aside0.mk ha
     have p243 : 0 ≤ (0 : Int) := (by omega)
     have q243 : (0 : Int) < (y240.length : Int) := of_decide_eq_true AS
     obtain ⟨ad243, e243, hx243_0⟩ := Kd.at_int (HM.CR 3 rfl).2.2 0 p243 q243
     obtain rfl := Option.some.inj e243
     have qi243 : (0 < y240.length) = True := eq_true (by omega)
     (try rw [show ((0 : Int)).toNat = 0 from rfl] at hx243_0)
     (try rw [Addr.add_zero'] at hx243_0)
     replace p243 := eq_true p243
     replace q243 := eq_true q243
     have e25 := PE ha 1 hon
     exact VL (.int .i64 (rd y240 0)) (hK.out _ _ ⟨v247, v250, v254, v257, v261, v264, gb266, PUT ha 2 hb, HM⟩)
    refine SZ ?_ ?_
    ·rintro b a w ⟨v247, v250, v254, v257, v261, v264, gb266, ha, HM⟩ hb hon hoff K hK
     replace ha := Aside0.mk ha
     have e5 := PG ha 5
     exact VL (.slice (some ad243) y240.length ko51) (hK.out _ _ ⟨v247, v250, v254, v257, v261, v264, gb266, PUT ha 3 hb, HM⟩)
    refine SZ ?_ ?_
    ·rintro b a w ⟨v247, v250, v254, v257, v261, v264, gb266, ha, HM⟩ hb hon hoff K hK
     replace ha := Aside0.mk ha
     have p244 : 0 ≤ (1 : Int) := (by omega)
     have q244 : (1 : Int) < (y240.length : Int) := of_decide_eq_true AS
     obtain ⟨ad244, e244, hx244_0⟩ := Kd.at_int (HM.CR 3 rfl).2.2 1 p244 q244
     obtain rfl := Option.some.inj e244
     have qi244 : (1 < y240.length) = True := eq_true (by omega)
     (try rw [show ((1 : Int)).toNat = 1 from rfl] at hx244_0)
     (try simp only [Nat.reduceMul, Nat.reduceEqDiff, Go.Addr.add, ↓reduceIte] at hx244_0)
     replace p244 := eq_true p244
     replace q244 := eq_true q244
     have e27 := PE ha 3 hon
     exact VL (.pointer (some (ad243.add 1))) (hK.out _ _ ⟨v247, v250, v254, v257, v261, v264, gb266, PUT ha 4 hb, HM⟩)
    refine SZ ?_ ?_
    ·rintro b a w ⟨v247, v250, v254, v257, v261, v264, gb266, ha, HM⟩ hb hon hoff K hK
     replace ha := Aside0.mk ha
     have p244 : 0 ≤ (1 : Int) := (by omega)
     have q244 : (1 : Int) < (y240.length : Int) := of_decide_eq_true AS
     obtain ⟨ad244, e244, hx244_0⟩ := Kd.at_int (HM.CR 3 rfl).2.2 1 p244 q244
     obtain rfl := Option.some.inj e244
     have qi244 : (1 < y240.length) = True := eq_true (by omega)
     (try rw [show ((1 : Int)).toNat = 1 from rfl] at hx244_0)
     (try simp only [Nat.reduceMul, Nat.reduceEqDiff, Go.Addr.add, ↓reduceIte] at hx244_0)
     replace p244 := eq_true p244
     replace q244 := eq_true q244
     have e28 := PE ha 4 hon
     exact VL (.int .i64 (rd y240 1)) (hK.out _ _ ⟨v247, v250, v254, v257, v261, v264, gb266, PUT ha 5 hb, HM⟩)
    refine SZ ?_ ?_
    ·rintro b a w ⟨v247, v250, v254, v257, v261, v264, gb266, ha, HM⟩ hb hon hoff K hK
     replace ha := Aside0.mk ha
     have e4 := PG ha 4
     exact VL (.slice (some ad230) t227.length ko7) (hK.out _ _ ⟨v247, v250, v254, v257, v261, v264, gb266, PUT ha 6 hb, HM⟩)
    refine SZ ?_ ?_
    ·rintro b a w ⟨v247, v250, v254, v257, v261, v264, gb266, ha, HM⟩ hb hon hoff K hK
     replace ha := Aside0.mk ha
     have p245 : 0 ≤ (1 : Int) := (by omega)
     have q245 : (1 : Int) < (t227.length : Int) := of_decide_eq_true AS
     obtain ⟨ad245, e245, hx245_0⟩ := Kd.at_string (HM.CR 1 rfl).2.2 1 p245 q245
     obtain rfl := Option.some.inj e245
     have qi245 : (1 < t227.length) = True := eq_true (by omega)
     (try rw [show ((1 : Int)).toNat = 1 from rfl] at hx245_0)
     (try simp only [Nat.reduceMul, Nat.reduceEqDiff, Go.Addr.add, ↓reduceIte] at hx245_0)
     replace p245 := eq_true p245
     replace q245 := eq_true q245
     have e30 := PE ha 6 hon
     exact VL (.pointer (some (ad230.add 1))) (hK.out _ _ ⟨v247, v250, v254, v257, v261, v264, gb266, PUT ha 7 hb, HM⟩)
    refine SZ ?_ ?_
    ·rintro b a w ⟨v247, v250, v254, v257, v261, v264, gb266, ha, HM⟩ hb hon hoff K hK
     replace ha := Aside0.mk ha
     have p245 : 0 ≤ (1 : Int) := (by omega)
     have q245 : (1 : Int) < (t227.length : Int) := of_decide_eq_true AS
     obtain ⟨ad245, e245, hx245_0⟩ := Kd.at_string (HM.CR 1 rfl).2.2 1 p245 q245
     obtain rfl := Option.some.inj e245
     have qi245 : (1 < t227.length) = True := eq_true (by omega)
     (try rw [show ((1 : Int)).toNat = 1 from rfl] at hx245_0)
     (try simp only [Nat.reduceMul, Nat.reduceEqDiff, Go.Addr.add, ↓reduceIte] at hx245_0)
     replace p245 := eq_true p245
     replace q245 := eq_true q245
     have e31 := PE ha 7 hon
     exact VL (.string (rdOf ByteArray.empty t227 1)) (hK.out _ _ ⟨v247, v250, v254, v257, v261, v264, gb266, PUT ha 8 hb, HM⟩)
    refine SZ ?_ ?_
    ·rintro b a w ⟨v247, v250, v254, v257, v261, v264, gb266, ha, HM⟩ hb hon hoff K hK
     replace ha := Aside0.mk ha
     have e32 := PE ha 8 hon
     refine ST (eC (some 33) rfl #[.string (rdOf ByteArray.empty t227 1)] rfl Try.func22 (spec_Cut.calls k (rdOf ByteArray.empty t227 1) t246 _ A22.out) ?_ (hargs := by (simp only [List.map_toArray, List.map_cons, List.map_nil, evc, eval_of e32]) <;> rfl))
     rintro e w52 ⟨v247, rfl, hR⟩
     refine ⟨_, rfl, ?_⟩
     replace HM := HM.call hR
     clear hR
     exact hK.out _ _ ⟨v247, v250, v254, v257, v261, v264, gb266, PUT ha 9 hb, (HM).pick [0, 1, 2, 3, 4, 12, 6, 7, 8, 9, 10, 11]⟩
    refine SZ ?_ ?_
    ·rintro b a w ⟨v247, v250, v254, v257, v261, v264, gb266, ha, HM⟩ hb hon hoff K hK
     replace ha := Aside0.mk ha
     replace HM := HM.sT 5 rfl (hon 9 rfl)
     obtain ⟨Xo54, ko54, rfl⟩ := HM.rdR 5 rfl
     have e33 := PE ha 9 hon
     refine ST (eC (some 34) rfl #[.slice Xo54 t246.length ko54] rfl Try.func23 (spec_l20Read.calls k _ _ t246 t249 _ (HM.CR 5 rfl).2.2 (HM.CR 5 rfl).2.1 A23.out) ?_ (hargs := by (simp only [List.map_toArray, List.map_cons, List.map_nil, evc, eval_of e33]) <;> rfl))
     rintro e w53 ⟨v250, rfl, hR⟩
     refine ⟨_, rfl, ?_⟩
     replace HM := HM.call hR
     clear hR
     exact hK.out _ _ ⟨.slice Xo54 t246.length ko54, v250, v254, v257, v261, v264, gb266, PUT (PCH ha 21 (hoff 21 rfl)) 10 hb, (((HM.iT 5 rfl (hon 9 rfl)).sF 11 rfl (hoff 23 rfl)).iF 11 rfl (hoff 23 rfl)).pick [0, 1, 2, 3, 4, 5, 12, 7, 8, 9, 10, 11]⟩
    refine SZ ?_ ?_
    ·rintro b a w ⟨v247, v250, v254, v257, v261, v264, gb266, ha, HM⟩ hb hon hoff K hK
     replace ha := Aside0.mk ha
     have e4 := PG ha 4
     exact VL (.slice (some ad230) t227.length ko7) (hK.out _ _ ⟨v247, v250, v254, v257, v261, v264, gb266, PUT ha 11 hb, HM⟩)
    refine SZ ?_ ?_
    ·rintro b a w ⟨v247, v250, v254, v257, v261, v264, gb266, ha, HM⟩ hb hon hoff K hK
     replace ha := Aside0.mk ha
     have p252 : 0 ≤ (2 : Int) := (by omega)
     have q252 : (2 : Int) < (t227.length : Int) := of_decide_eq_true AS
     obtain ⟨ad252, e252, hx252_0⟩ := Kd.at_string (HM.CR 1 rfl).2.2 2 p252 q252
     obtain rfl := Option.some.inj e252
     have qi252 : (2 < t227.length) = True := eq_true (by omega)
     (try rw [show ((2 : Int)).toNat = 2 from rfl] at hx252_0)
     (try simp only [Nat.reduceMul, Nat.reduceEqDiff, Go.Addr.add, ↓reduceIte] at hx252_0)
     replace p252 := eq_true p252
     replace q252 := eq_true q252
     have e35 := PE ha 11 hon
     exact VL (.pointer (some (ad230.add 2))) (hK.out _ _ ⟨v247, v250, v254, v257, v261, v264, gb266, PUT ha 12 hb, HM⟩)
    refine SZ ?_ ?_
    ·rintro b a w ⟨v247, v250, v254, v257, v261, v264, gb266, ha, HM⟩ hb hon hoff K hK
     replace ha := Aside0.mk ha
     have p252 : 0 ≤ (2 : Int) := (by omega)
     have q252 : (2 : Int) < (t227.length : Int) := of_decide_eq_true AS
     obtain ⟨ad252, e252, hx252_0⟩ := Kd.at_string (HM.CR 1 rfl).2.2 2 p252 q252
     obtain rfl := Option.some.inj e252
     have qi252 : (2 < t227.length) = True := eq_true (by omega)
     (try rw [show ((2 : Int)).toNat = 2 from rfl] at hx252_0)
     (try simp only [Nat.reduceMul, Nat.reduceEqDiff, Go.Addr.add, ↓reduceIte] at hx252_0)
     replace p252 := eq_true p252
     replace q252 := eq_true q252
     have e36 := PE ha 12 hon
     exact VL (.string (rdOf ByteArray.empty t227 2)) (hK.out _ _ ⟨v247, v250, v254, v257, v261, v264, gb266, PUT ha 13 hb, HM⟩)
    refine SZ ?_ ?_
    ·rintro b a w ⟨v247, v250, v254, v257, v261, v264, gb266, ha, HM⟩ hb hon hoff K hK
     replace ha := Aside0.mk ha
     have e37 := PE ha 13 hon
     refine ST (eC (some 38) rfl #[.string (rdOf ByteArray.empty t227 2)] rfl Try.func22 (spec_Cut.calls k (rdOf ByteArray.empty t227 2) t253 _ A25.out) ?_ (hargs := by (simp only [List.map_toArray, List.map_cons, List.map_nil, evc, eval_of e37]) <;> rfl))
     rintro e w55 ⟨v254, rfl, hR⟩
     refine ⟨_, rfl, ?_⟩
     replace HM := HM.call hR
     clear hR
     exact hK.out _ _ ⟨v247, v250, v254, v257, v261, v264, gb266, PUT ha 14 hb, (HM).pick [0, 1, 2, 3, 4, 5, 6, 12, 8, 9, 10, 11]⟩
    refine SZ ?_ ?_
    ·rintro b a w ⟨v247, v250, v254, v257, v261, v264, gb266, ha, HM⟩ hb hon hoff K hK
     replace ha := Aside0.mk ha
     replace HM := HM.sT 7 rfl (hon 14 rfl)
     obtain ⟨Xo57, ko57, rfl⟩ := HM.rdR 7 rfl
     have e38 := PE ha 14 hon
     refine ST (eC (some 39) rfl #[.slice Xo57 t253.length ko57] rfl Try.func23 (spec_l20Read.calls k _ _ t253 t256 _ (HM.CR 7 rfl).2.2 (HM.CR 7 rfl).2.1 A26.out) ?_ (hargs := by (simp only [List.map_toArray, List.map_cons, List.map_nil, evc, eval_of e38]) <;> rfl))
     rintro e w56 ⟨v257, rfl, hR⟩
     refine ⟨_, rfl, ?_⟩
     replace HM := HM.call hR
     clear hR
     exact hK.out _ _ ⟨v247, v250, .slice Xo57 t253.length ko57, v257, v261, v264, gb266, PUT (PCH ha 21 (hoff 21 rfl)) 15 hb, (((HM.iT 7 rfl (hon 14 rfl)).sF 11 rfl (hoff 23 rfl)).iF 11 rfl (hoff 23 rfl)).pick [0, 1, 2, 3, 4, 5, 6, 7, 12, 9, 10, 11]⟩
    refine SZ ?_ ?_
    ·rintro b a w ⟨v247, v250, v254, v257, v261, v264, gb266, ha, HM⟩ hb hon hoff K hK
     replace ha := Aside0.mk ha
     have e4 := PG ha 4
     exact VL (.slice (some ad230) t227.length ko7) (hK.out _ _ ⟨v247, v250, v254, v257, v261, v264, gb266, PUT ha 16 hb, HM⟩)
    refine SZ ?_ ?_
    ·rintro b a w ⟨v247, v250, v254, v257, v261, v264, gb266, ha, HM⟩ hb hon hoff K hK
     replace ha := Aside0.mk ha
     have p259 : 0 ≤ (3 : Int) := (by omega)
     have q259 : (3 : Int) < (t227.length : Int) := of_decide_eq_true AS
     obtain ⟨ad259, e259, hx259_0⟩ := Kd.at_string (HM.CR 1 rfl).2.2 3 p259 q259
     obtain rfl := Option.some.inj e259
     have qi259 : (3 < t227.length) = True := eq_true (by omega)
     (try rw [show ((3 : Int)).toNat = 3 from rfl] at hx259_0)
     (try simp only [Nat.reduceMul, Nat.reduceEqDiff, Go.Addr.add, ↓reduceIte] at hx259_0)
     replace p259 := eq_true p259
     replace q259 := eq_true q259
     have e40 := PE ha 16 hon
     exact VL (.pointer (some (ad230.add 3))) (hK.out _ _ ⟨v247, v250, v254, v257, v261, v264, gb266, PUT ha 17 hb, HM⟩)
    refine SZ ?_ ?_
    ·rintro b a w ⟨v247, v250, v254, v257, v261, v264, gb266, ha, HM⟩ hb hon hoff K hK
     replace ha := Aside0.mk ha
     have p259 : 0 ≤ (3 : Int) := (by omega)
     have q259 : (3 : Int) < (t227.length : Int) := of_decide_eq_true AS
     obtain ⟨ad259, e259, hx259_0⟩ := Kd.at_string (HM.CR 1 rfl).2.2 3 p259 q259
     obtain rfl := Option.some.inj e259
     have qi259 : (3 < t227.length) = True := eq_true (by omega)
     (try rw [show ((3 : Int)).toNat = 3 from rfl] at hx259_0)
     (try simp only [Nat.reduceMul, Nat.reduceEqDiff, Go.Addr.add, ↓reduceIte] at hx259_0)
     replace p259 := eq_true p259
     replace q259 := eq_true q259
     have e41 := PE ha 17 hon
     exact VL (.string (rdOf ByteArray.empty t227 3)) (hK.out _ _ ⟨v247, v250, v254, v257, v261, v264, gb266, PUT ha 18 hb, HM⟩)
    refine SZ ?_ ?_
    ·rintro b a w ⟨v247, v250, v254, v257, v261, v264, gb266, ha, HM⟩ hb hon hoff K hK
     replace ha := Aside0.mk ha
     have e42 := PE ha 18 hon
     refine ST (eC (some 43) rfl #[.string (rdOf ByteArray.empty t227 3)] rfl Try.func22 (spec_Cut.calls k (rdOf ByteArray.empty t227 3) t260 _ A28.out) ?_ (hargs := by (simp only [List.map_toArray, List.map_cons, List.map_nil, evc, eval_of e42]) <;> rfl))
     rintro e w58 ⟨v261, rfl, hR⟩
     refine ⟨_, rfl, ?_⟩
     replace HM := HM.call hR
     clear hR
     exact hK.out _ _ ⟨v247, v250, v254, v257, v261, v264, gb266, PUT ha 19 hb, (HM).pick [0, 1, 2, 3, 4, 5, 6, 7, 8, 12, 10, 11]⟩
    refine SZ ?_ ?_
    ·rintro b a w ⟨v247, v250, v254, v257, v261, v264, gb266, ha, HM⟩ hb hon hoff K hK
     replace ha := Aside0.mk ha
     replace HM := HM.sT 9 rfl (hon 19 rfl)
     obtain ⟨Xo60, ko60, rfl⟩ := HM.rdR 9 rfl
     have e43 := PE ha 19 hon
     refine ST (eC (some 44) rfl #[.slice Xo60 t260.length ko60] rfl Try.func21 (spec_l20Numbers.calls k _ _ t260 t263 _ (HM.CR 9 rfl).2.2 (HM.CR 9 rfl).2.1 A29.out) ?_ (hargs := by (simp only [List.map_toArray, List.map_cons, List.map_nil, evc, eval_of e43]) <;> rfl))
     rintro e w59 ⟨v264, rfl, hR⟩
     refine ⟨_, rfl, ?_⟩
     replace HM := HM.call hR
     clear hR
     exact hK.out _ _ ⟨v247, v250, v254, v257, .slice Xo60 t260.length ko60, v264, gb266, PUT (PCH ha 21 (hoff 21 rfl)) 20 hb, (((HM.iT 9 rfl (hon 19 rfl)).sF 11 rfl (hoff 23 rfl)).iF 11 rfl (hoff 23 rfl)).pick [0, 1, 2, 3, 4, 5, 6, 7, 8, 9, 12, 11]⟩
    refine SZ ?_ ?_
    ·rintro b a w ⟨v247, v250, v254, v257, v261, v264, gb266, ha, HM⟩ hb hon hoff K hK
     replace ha := Aside0.mk ha
     have HZ := HM
     replace HM := HM.sT 6 rfl (hon 10 rfl)
     replace HM := HM.sT 8 rfl (hon 15 rfl)
     replace HM := HM.sT 10 rfl (hon 20 rfl)
     obtain ⟨Xo61, ko61, rfl⟩ := HM.rdR 10 rfl
     obtain ⟨Xo62, ko62, rfl⟩ := HM.rdR 8 rfl
     obtain ⟨Xo63, ko63, rfl⟩ := HM.rdR 6 rfl
     have e26 := PE ha 2 hon
     have e29 := PE ha 5 hon
     have e34 := PE ha 10 hon
     have e39 := PE ha 15 hon
     have e44 := PE ha 20 hon
     exact VL (.agg #[.int .i64 (rd y240 0), .int .i64 (rd y240 1), .slice Xo63 t249.length ko63, .slice Xo62 t256.length ko62, .slice Xo61 t263.length ko61]) (hK.out _ _ ⟨v247, .slice Xo63 t249.length ko63, v254, .slice Xo62 t256.length ko62, v261, .slice Xo61 t263.length ko61, gb266, PUT ha 21 hb, HZ⟩)
    refine SZ ?_ ?_
    ·rintro b a w ⟨v247, v250, v254, v257, v261, v264, gb266, ha, HM⟩ hb hon hoff K hK
     replace ha := Aside0.mk ha
     refine ST (eB 6 25 [.int .i64 0, .int .i64 0, .slice none 0 0, .slice none 0 0, .slice none 0 0] HM rfl ?_)
     clear HM
     intro gb266 w64 HM
     exact hK.out _ _ ⟨v247, v250, v254, v257, v261, v264, gb266, PUT ha 22 hb, (HM.iF 12 rfl (hoff 23 rfl)).pick [0, 1, 2, 3, 4, 5, 6, 7, 8, 9, 10, 12]⟩
    refine SZ ?_ ?_
    ·rintro b a w ⟨v247, v250, v254, v257, v261, v264, gb266, ha, HM⟩ hb hon hoff K hK
     replace ha := Aside0.mk ha
     replace HM := HM.sT 6 rfl (hon 10 rfl)
     replace HM := HM.sT 8 rfl (hon 15 rfl)
     replace HM := HM.sT 10 rfl (hon 20 rfl)
     replace HM := (HM.sF 11 rfl hb).sT 11 rfl (hon 22 rfl)
     obtain ⟨Xo65, ko65, rfl⟩ := HM.rdR 6 rfl
     obtain ⟨Xo66, ko66, rfl⟩ := HM.rdR 8 rfl
     obtain ⟨Xo67, ko67, rfl⟩ := HM.rdR 10 rfl
     have e6 := PE ha 22 hon
     have e45 := PE ha 21 hon
     refine ST (eS 11 6 0 [.int .i64 (rd y240 0), .int .i64 (rd y240 1), .slice Xo65 t249.length ko65, .slice Xo66 t256.length ko66, .slice Xo67 t263.length ko67] HM rfl rfl ?_ (hp := (eval_of e6)) (hx := (by rw [eval_of e45]; rfl)))
     clear HM
     intro w68 HM
     exact hK.out _ _ ⟨v247, .slice Xo65 t249.length ko65, v254, .slice Xo66 t256.length ko66, v261, .slice Xo67 t263.length ko67, gb266, PUS ha, (((HM.iT 6 rfl (hon 10 rfl)).iT 8 rfl (hon 15 rfl)).iT 10 rfl (hon 20 rfl)).pick [0, 1, 2, 3, 4, 5, 6, 7, 8, 9, 10, 11]⟩
    exact steps_nil
   rintro _ w69 ⟨v247, v250, v254, v257, v261, v264, gb266, rfl, HM⟩
   replace HM := HM.sT 5 rfl rfl
   replace HM := HM.sT 6 rfl rfl
   replace HM := HM.sT 7 rfl rfl
   replace HM := HM.sT 8 rfl rfl
   replace HM := HM.sT 9 rfl rfl
   replace HM := HM.sT 10 rfl rfl
   replace HM := HM.sT 11 rfl rfl
   simp only [putSel, if_true, Act.put, List.setIfInBounds_toArray, List.set_cons_zero, List.set_cons_succ, gt_iff_lt, ge_iff_le]
   replace H := BN H; obtain ⟨t267, A71, H⟩ := H
   obtain ⟨_,_,_,_,_,_,_,_,_,_⟩ := bk5 (HM.bx 11 rfl)
   obtain ⟨Xo73, ko73, rfl⟩ := HM.rdR 6 rfl
   obtain ⟨Xo74, ko74, rfl⟩ := HM.rdR 8 rfl
   obtain ⟨Xo75, ko75, rfl⟩ := HM.rdR 10 rfl
   go_upto_if 49 with (first | ((with_reducible refine gC 24 rfl ?_); refine pC (some 47) rfl #[.agg #[.int .i64 (rd y240 0), .int .i64 (rd y240 1), .slice Xo73 t249.length ko73, .slice Xo74 t256.length ko74, .slice Xo75 t263.length ko75]] rfl Try.func24 (spec_l20Text.calls k (rd y240 0) (rd y240 1) _ _ t249 _ _ t256 _ _ t263 t267 _ (HM.CR 6 rfl).2.2 (HM.CR 6 rfl).2.1 (HM.CR 8 rfl).2.2 (HM.CR 8 rfl).2.1 (HM.CR 10 rfl).2.2 (HM.CR 10 rfl).2.1 A71.out) ?_; rintro e w72 ⟨rfl, hR⟩; refine ⟨_, rfl, ?_⟩; replace HM := HM.call hR; clear hR))
   replace H := IT H; rcases H with ⟨c76, H⟩ | ⟨c76, H⟩
   ·obtain ⟨c76b0, c76b1⟩ := BE c76
    clear c76
    first|rw [c76b0]|(simp only [i64_w, i32_w]; rw [c76b0])|skip
    replace H := BN H; obtain ⟨t268, A78, H⟩ := H
    obtain ⟨_,_,_,_,_,_,_,_,_,_⟩ := bk5 (HM.bx 11 rfl)
    go_upto_if 53 with (first | ((with_reducible refine gC 25 rfl ?_); refine pC (some 52) rfl #[.agg #[.int .i64 (rd y240 0), .int .i64 (rd y240 1), .slice Xo73 t249.length ko73, .slice Xo74 t256.length ko74, .slice Xo75 t263.length ko75]] rfl Try.func25 (spec_ThreeOk.calls k (rd y240 0) (rd y240 1) _ _ t249 _ _ t256 _ _ t263 t268 _ (HM.CR 6 rfl).2.2 (HM.CR 6 rfl).2.1 (HM.CR 8 rfl).2.2 (HM.CR 8 rfl).2.1 (HM.CR 10 rfl).2.2 (HM.CR 10 rfl).2.1 A78.out) ?_; rintro e w79 ⟨rfl, hR⟩; refine ⟨_, rfl, ?_⟩; replace HM := HM.call hR; clear hR))
    replace H := IB H
    rcases H with ⟨c80, H⟩ | ⟨c80, H⟩
    ·subst c80
     simp only [Option.some.injEq, Prod.mk.injEq] at H
     obtain ⟨rfl, rfl, rfl, rfl, rfl, rfl⟩ := H
     obtain ⟨_,_,_,_,_,_,_,_,_,_⟩ := bk5 (HM.bx 11 rfl)
     go_wp2_with (first | ((with_reducible refine gS 2 rfl ?_); refine pS 0 2 0 [.int .i64 (rd y240 0), .int .i64 (rd y240 1), .slice Xo73 t249.length ko73, .slice Xo74 t256.length ko74, .slice Xo75 t263.length ko75] HM rfl rfl ?_; clear HM; intro w82 HM))
     refine bodyPost_ret (results_ct rfl _ _ gb226 25 #[.int .i64 (rd y240 0), .int .i64 (rd y240 1), .slice Xo73 t249.length ko73, .slice Xo74 t256.length ko74, .slice Xo75 t263.length ko75] (0, 0) _ rfl (HM.bx 0 rfl) Try.underlying25 rfl (by kernel_rfl)) rfl ?_
     exact ⟨_, _, _, ER, (MD HM).pick [6, 8, 10]⟩
    ·subst c80
     simp only [Option.some.injEq, Prod.mk.injEq] at H
     obtain ⟨rfl, rfl, rfl, rfl, rfl, rfl⟩ := H
     go_wp2_with (first | ((with_reducible refine gS 2 rfl ?_); refine pS 0 2 0 [.int .i64 0, .int .i64 0, .slice none 0 0, .slice none 0 0, .slice none 0 0] HM rfl rfl ?_; clear HM; intro w83 HM; replace HM := HM.nl k76 76; replace HM := HM.nl k76 76; replace HM := HM.nl (Kd.int .i64) 3))
     refine bodyPost_ret (results_ct rfl _ _ gb226 25 #[.int .i64 0, .int .i64 0, .slice none 0 0, .slice none 0 0, .slice none 0 0] (0, 0) _ rfl (HM.bx 0 rfl) Try.underlying25 rfl (by kernel_rfl)) rfl ?_
     exact ⟨_, _, _, ER, (MD HM).pick [12, 13, 14]⟩
   ·obtain ⟨c76b0, c76b1⟩ := BF c76
    first|rw [c76b0]|(simp only [i64_w, i32_w]; rw [c76b0])|skip
    simp only [Option.some.injEq, Prod.mk.injEq] at H
    obtain ⟨rfl, rfl, rfl, rfl, rfl, rfl⟩ := H
    go_wp2_with (first | ((with_reducible refine gS 2 rfl ?_); refine pS 0 2 0 [.int .i64 0, .int .i64 0, .slice none 0 0, .slice none 0 0, .slice none 0 0] HM rfl rfl ?_; clear HM; intro w84 HM; replace HM := HM.nl k76 76; replace HM := HM.nl k76 76; replace HM := HM.nl (Kd.int .i64) 3))
    refine bodyPost_ret (results_ct rfl _ _ gb226 25 #[.int .i64 0, .int .i64 0, .slice none 0 0, .slice none 0 0, .slice none 0 0] (0, 0) _ rfl (HM.bx 0 rfl) Try.underlying25 rfl (by kernel_rfl)) rfl ?_
    exact ⟨_, _, _, ER, (MD HM).pick [12, 13, 14]⟩
  ·obtain ⟨c8b0, c8b1⟩ := BF c8
   first|rw [c8b0]|(simp only [i64_w, i32_w]; rw [c8b0])|skip
   simp only [Option.some.injEq, Prod.mk.injEq] at H
   obtain ⟨rfl, rfl, rfl, rfl, rfl, rfl⟩ := H
   go_wp2_with (first | ((with_reducible refine gS 2 rfl ?_); refine pS 0 2 0 [.int .i64 0, .int .i64 0, .slice none 0 0, .slice none 0 0, .slice none 0 0] HM rfl rfl ?_; clear HM; intro w85 HM; replace HM := HM.nl k76 76; replace HM := HM.nl k76 76; replace HM := HM.nl (Kd.int .i64) 3))
   refine bodyPost_ret (results_ct rfl _ _ gb226 25 #[.int .i64 0, .int .i64 0, .slice none 0 0, .slice none 0 0, .slice none 0 0] (0, 0) _ rfl (HM.bx 0 rfl) Try.underlying25 rfl (by kernel_rfl)) rfl ?_
   exact ⟨_, _, _, ER, (MD HM).pick [2, 3, 4]⟩
def spec_l10Copy.f (a0_0 : Int) (a0_1 : Int) (l0_2 : List (S76)) (l0_3 : List (S76)) (l0_4 : List Int) : Option (Int × Int × (List (S76)) × (List (S76)) × List Int) := (some (([] : List (S76)) : List (S76))).bind fun y734 => (if y734.length + l0_2.length < 3518437208883 then ((some (([] : List (S76)) : List (S76))).bind fun y740 => (if y740.length + l0_3.length < 3518437208883 then ((some (([] : List Int) : List Int)).bind fun y746 => (if y746.length + l0_4.length < 17592186044416 then (some (a0_0, a0_1, (y734 ++ l0_2), (y740 ++ l0_3), (y746 ++ l0_4))) else (none))) else (none))) else (none))
def spec_l10Copy.T1 : Bool × List (List Nat × List Nat) := (true, [([], []), ([0], [0]), ([], []), ([2], [2]), ([], []), ([], []), ([5], [5]), ([4, 6], [4, 6]), ([], []), ([], []), ([9], [9]), ([8, 10, 7], [8, 10]), ([], []), ([], []), ([13], [13]), ([12, 14, 11], [12, 14]), ([1, 3, 7, 11, 15], [1, 3, 7, 11, 15]), ([16, 15, 0, 1, 2, 3, 4, 5, 6, 7, 8, 9, 10, 11, 12, 13, 14, 15, 16], [16])])
def spec_l10Copy.B1 : List Nat := [0, 1, 0, 4, 0, 0, 32, 112, 0, 0, 512, 2032, 0, 0, 8192, 32752, 65535, 131071]
theorem spec_l10Copy.tab1 : rtab .any (opsOf Try.f50 1) = spec_l10Copy.T1 := by kernel_rfl
theorem spec_l10Copy.bits1 : waitsOk spec_l10Copy.T1.2 spec_l10Copy.B1 = true := by kernel_rfl
theorem spec_l10Copy.calls (a0_0 : Int) (a0_1 : Int) (A0_2 : Option Addr) (c0_2 : Nat) (l0_2 : List (S76)) (A0_3 : Option Addr) (c0_3 : Nat) (l0_3 : List (S76)) (A0_4 : Option Addr) (c0_4 : Nat) (l0_4 : List Int) (r1 : Int) (r2 : Int) (r3 : List (S76)) (r4 : List (S76)) (r5 : List Int) (w : World) (hr0_2 : Kd.C k76 w A0_2 l0_2.length l0_2) (hc0_2 : l0_2.length ≤ c0_2) (hr0_3 : Kd.C k76 w A0_3 l0_3.length l0_3) (hc0_3 : l0_3.length ≤ c0_3) (hr0_4 : Kd.C (Kd.int .i64) w A0_4 l0_4.length l0_4) (hc0_4 : l0_4.length ≤ c0_4) (h : spec_l10Copy.f a0_0 a0_1 l0_2 l0_3 l0_4 = some (r1, r2, r3, r4, r5)) :
  Calls Try.prog 50 #[.agg #[.int .i64 a0_0, .int .i64 a0_1, .slice A0_2 l0_2.length c0_2, .slice A0_3 l0_3.length c0_3, .slice A0_4 l0_4.length c0_4]] w fun e w' => ∃ v2_ v3_ v4_ : Value, e = .returned (.agg #[.int .i64 r1, .int .i64 r2, v2_, v3_, v4_]) ∧ Mem w [] w' [rowR k76 76 v2_ r3, rowR k76 76 v3_ r4, rowR (Kd.int .i64) 3 v4_ r5] := by
 have hu25 := Try.underlying25
 have HR0_2 := Aside0.mk hr0_2
 have HC0_2 := Aside0.mk hc0_2
 clear hr0_2 hc0_2
 have HR0_3 := Aside0.mk hr0_3
 have HC0_3 := Aside0.mk hc0_3
 clear hr0_3 hc0_3
 have HR0_4 := Aside0.mk hr0_4
 have HC0_4 := Aside0.mk hc0_4
 clear hr0_4 hc0_4
 have HM := Mem.nil w
 have H := h
 clear h
 unfold spec_l10Copy.f at H
 go_enter Try.func50, Try.ntmps50
 try go_wp2_with (first | ((with_reducible refine gN 1 rfl ?_); refine pB 1 25 [.int .i64 a0_0, .int .i64 a0_1, .slice A0_2 l0_2.length c0_2, .slice A0_3 l0_3.length c0_3, .slice A0_4 l0_4.length c0_4] HM rfl ?_; clear HM; intro gb732 w2 HM) | ((with_reducible refine gN 2 rfl ?_); refine pB 2 25 [.int .i64 0, .int .i64 0, .slice none 0 0, .slice none 0 0, .slice none 0 0] HM rfl ?_; clear HM; intro gb733 w3 HM))
 replace H := BLt H; obtain ⟨y734, Ny734, H⟩ := H
 replace Ny734 := Aside0.mk Ny734
 replace H := GD H; obtain ⟨c4, H⟩ := H
 have LMc4 := Aside0.mk c4
 clear c4
 replace H := BLt H; obtain ⟨y740, Ny740, H⟩ := H
 replace Ny740 := Aside0.mk Ny740
 replace H := GD H; obtain ⟨c5, H⟩ := H
 have LMc5 := Aside0.mk c5
 clear c5
 replace H := BLt H; obtain ⟨y746, Ny746, H⟩ := H
 replace Ny746 := Aside0.mk Ny746
 replace H := GD H; obtain ⟨c6, H⟩ := H
 have LMc6 := Aside0.mk c6
 clear c6
 refine RGN 18 [0, 1, 2, 3, 4, 5, 6, 7, 8, 9, 10, 11, 12, 13, 14, 15, 16, 17] (fun a0 b a w' => ∃ (v735 : Value) (v738 : Value) (v741 : Value) (v744 : Value) (v747 : Value) (v750 : Value), a = putSel a0 b [(0, 3, .pointer (some ⟨gb732, 0, none⟩)), (1, 4, .int .i64 a0_0), (2, 5, .pointer (some ⟨gb732, 1, none⟩)), (3, 6, .int .i64 a0_1), (4, 7, v735), (5, 8, .pointer (some ⟨gb732, 2, none⟩)), (6, 9, .slice A0_2 l0_2.length c0_2), (7, 10, v738), (8, 11, v741), (9, 12, .pointer (some ⟨gb732, 3, none⟩)), (10, 13, .slice A0_3 l0_3.length c0_3), (11, 14, v744), (12, 15, v747), (13, 16, .pointer (some ⟨gb732, 4, none⟩)), (14, 17, .slice A0_4 l0_4.length c0_4), (15, 18, v750), (16, 19, .agg #[.int .i64 a0_0, .int .i64 a0_1, v738, v744, v750])] ∧ Mem w [] w' [box 25 gb732 [.int .i64 a0_0, .int .i64 a0_1, .slice A0_2 l0_2.length c0_2, .slice A0_3 l0_3.length c0_3, .slice A0_4 l0_4.length c0_4], sel (b 17) (box 25 gb733 [.int .i64 a0_0, .int .i64 a0_1, v738, v744, v750]) (box 25 gb733 [.int .i64 0, .int .i64 0, .slice none 0 0, .slice none 0 0, .slice none 0 0]), sel (b 7) (rowR k76 76 v738 (y734 ++ l0_2)) (sel (b 4) (rowR k76 76 v735 y734) (emp)), sel (b 11) (rowR k76 76 v744 (y740 ++ l0_3)) (sel (b 8) (rowR k76 76 v741 y740) (emp)), sel (b 15) (rowR (Kd.int .i64) 3 v750 (y746 ++ l0_4)) (sel (b 12) (rowR (Kd.int .i64) 3 v747 y746) (emp))]) spec_l10Copy.tab1 spec_l10Copy.bits1 ?_ ?_ ?_
 ·exact ⟨.bool false, .bool false, .bool false, .bool false, .bool false, .bool false, PS0' rfl _, (HM.drew.ems 3).pick [0, 1, 2, 3, 4]⟩
 ·clear HM
  refine SZ ?_ ?_
  ·rintro b a w ⟨v735, v738, v741, v744, v747, v750, ha, HM⟩ hb hon hoff K hK
   replace ha := Aside0.mk ha
   have e1 := PG ha 1
   exact VL (.pointer (some ⟨gb732, 0, none⟩)) (hK.out _ _ ⟨v735, v738, v741, v744, v747, v750, PUT ha 0 hb, HM⟩)
  refine SZ ?_ ?_
  ·rintro b a w ⟨v735, v738, v741, v744, v747, v750, ha, HM⟩ hb hon hoff K hK
   replace ha := Aside0.mk ha
   obtain ⟨_,_,_,_,_,_,_,_,_,_⟩ := bk5 (HM.bx 0 rfl)
   have e3 := PE ha 0 hon
   exact VL (.int .i64 a0_0) (hK.out _ _ ⟨v735, v738, v741, v744, v747, v750, PUT ha 1 hb, HM⟩)
  refine SZ ?_ ?_
  ·rintro b a w ⟨v735, v738, v741, v744, v747, v750, ha, HM⟩ hb hon hoff K hK
   replace ha := Aside0.mk ha
   have e1 := PG ha 1
   exact VL (.pointer (some ⟨gb732, 1, none⟩)) (hK.out _ _ ⟨v735, v738, v741, v744, v747, v750, PUT ha 2 hb, HM⟩)
  refine SZ ?_ ?_
  ·rintro b a w ⟨v735, v738, v741, v744, v747, v750, ha, HM⟩ hb hon hoff K hK
   replace ha := Aside0.mk ha
   obtain ⟨_,_,_,_,_,_,_,_,_,_⟩ := bk5 (HM.bx 0 rfl)
   have e5 := PE ha 2 hon
   exact VL (.int .i64 a0_1) (hK.out _ _ ⟨v735, v738, v741, v744, v747, v750, PUT ha 3 hb, HM⟩)
  refine SZ ?_ ?_
  ·rintro b a w ⟨v735, v738, v741, v744, v747, v750, ha, HM⟩ hb hon hoff K hK
   replace ha := Aside0.mk ha
   refine ST (eL 7 k76 76 ([] : List (S76)) [] (Reps.none _ _) HM rfl ?_)
   clear HM
   intro v735 w27 HM
   replace HM := HM.nm 5 rfl Ny734.out
   exact hK.out _ _ ⟨v735, v738, v741, v744, v747, v750, PUT ha 4 hb, (HM.iF 5 rfl (hoff 7 rfl)).pick [0, 1, 5, 3, 4]⟩
  refine SZ ?_ ?_
  ·rintro b a w ⟨v735, v738, v741, v744, v747, v750, ha, HM⟩ hb hon hoff K hK
   replace ha := Aside0.mk ha
   have e1 := PG ha 1
   exact VL (.pointer (some ⟨gb732, 2, none⟩)) (hK.out _ _ ⟨v735, v738, v741, v744, v747, v750, PUT ha 5 hb, HM⟩)
  refine SZ ?_ ?_
  ·rintro b a w ⟨v735, v738, v741, v744, v747, v750, ha, HM⟩ hb hon hoff K hK
   replace ha := Aside0.mk ha
   obtain ⟨_,_,_,_,_,_,_,_,_,_⟩ := bk5 (HM.bx 0 rfl)
   have e8 := PE ha 5 hon
   exact VL (.slice A0_2 l0_2.length c0_2) (hK.out _ _ ⟨v735, v738, v741, v744, v747, v750, PUT ha 6 hb, HM⟩)
  refine SZ ?_ ?_
  ·rintro b a w ⟨v735, v738, v741, v744, v747, v750, ha, HM⟩ hb hon hoff K hK
   replace ha := Aside0.mk ha
   replace HM := (HM.sF 2 rfl hb).sT 2 rfl (hon 4 rfl)
   have e7 := PE ha 4 hon
   have e9 := PE ha 6 hon
   refine ST (eA 2 (.tmp 7) (.tmp 9) 22 76 k76 v735 y734 l0_2 A0_2 l0_2.length c0_2 HM rfl Try.underlying22 info76 rfl (HM.came HR0_2.out) (by have h_ := LMc4.out; omega) ?_ (ops := #[]) (hw := by rfl) (hs := (eval_of e7)) (hx := (eval_of e9)))
   clear HM
   intro v738 w29 HM
   exact hK.out _ _ ⟨v735, v738, v741, v744, v747, v750, PUT (PCH ha 16 (hoff 16 rfl)) 7 hb, ((HM.sF 1 rfl (hoff 17 rfl)).iF 1 rfl (hoff 17 rfl)).pick [0, 1, 2, 3, 4]⟩
  refine SZ ?_ ?_
  ·rintro b a w ⟨v735, v738, v741, v744, v747, v750, ha, HM⟩ hb hon hoff K hK
   replace ha := Aside0.mk ha
   refine ST (eL 11 k76 76 ([] : List (S76)) [] (Reps.none _ _) HM rfl ?_)
   clear HM
   intro v741 w30 HM
   replace HM := HM.nm 5 rfl Ny740.out
   exact hK.out _ _ ⟨v735, v738, v741, v744, v747, v750, PUT ha 8 hb, (HM.iF 5 rfl (hoff 11 rfl)).pick [0, 1, 2, 5, 4]⟩
  refine SZ ?_ ?_
  ·rintro b a w ⟨v735, v738, v741, v744, v747, v750, ha, HM⟩ hb hon hoff K hK
   replace ha := Aside0.mk ha
   have e1 := PG ha 1
   exact VL (.pointer (some ⟨gb732, 3, none⟩)) (hK.out _ _ ⟨v735, v738, v741, v744, v747, v750, PUT ha 9 hb, HM⟩)
  refine SZ ?_ ?_
  ·rintro b a w ⟨v735, v738, v741, v744, v747, v750, ha, HM⟩ hb hon hoff K hK
   replace ha := Aside0.mk ha
   obtain ⟨_,_,_,_,_,_,_,_,_,_⟩ := bk5 (HM.bx 0 rfl)
   have e12 := PE ha 9 hon
   exact VL (.slice A0_3 l0_3.length c0_3) (hK.out _ _ ⟨v735, v738, v741, v744, v747, v750, PUT ha 10 hb, HM⟩)
  refine SZ ?_ ?_
  ·rintro b a w ⟨v735, v738, v741, v744, v747, v750, ha, HM⟩ hb hon hoff K hK
   replace ha := Aside0.mk ha
   replace HM := (HM.sF 3 rfl hb).sT 3 rfl (hon 8 rfl)
   have e11 := PE ha 8 hon
   have e13 := PE ha 10 hon
   refine ST (eA 3 (.tmp 11) (.tmp 13) 22 76 k76 v741 y740 l0_3 A0_3 l0_3.length c0_3 HM rfl Try.underlying22 info76 rfl (HM.came HR0_3.out) (by have h_ := LMc5.out; omega) ?_ (ops := #[]) (hw := by rfl) (hs := (eval_of e11)) (hx := (eval_of e13)))
   clear HM
   intro v744 w32 HM
   exact hK.out _ _ ⟨v735, v738, v741, v744, v747, v750, PUT (PCH ha 16 (hoff 16 rfl)) 11 hb, ((HM.sF 1 rfl (hoff 17 rfl)).iF 1 rfl (hoff 17 rfl)).pick [0, 1, 2, 3, 4]⟩
  refine SZ ?_ ?_
  ·rintro b a w ⟨v735, v738, v741, v744, v747, v750, ha, HM⟩ hb hon hoff K hK
   replace ha := Aside0.mk ha
   refine ST (eL 15 (Kd.int .i64) 3 ([] : List Int) [] (Reps.none _ _) HM rfl ?_)
   clear HM
   intro v747 w33 HM
   replace HM := HM.nm 5 rfl Ny746.out
   exact hK.out _ _ ⟨v735, v738, v741, v744, v747, v750, PUT ha 12 hb, (HM.iF 5 rfl (hoff 15 rfl)).pick [0, 1, 2, 3, 5]⟩
  refine SZ ?_ ?_
  ·rintro b a w ⟨v735, v738, v741, v744, v747, v750, ha, HM⟩ hb hon hoff K hK
   replace ha := Aside0.mk ha
   have e1 := PG ha 1
   exact VL (.pointer (some ⟨gb732, 4, none⟩)) (hK.out _ _ ⟨v735, v738, v741, v744, v747, v750, PUT ha 13 hb, HM⟩)
  refine SZ ?_ ?_
  ·rintro b a w ⟨v735, v738, v741, v744, v747, v750, ha, HM⟩ hb hon hoff K hK
   replace ha := Aside0.mk ha
   obtain ⟨_,_,_,_,_,_,_,_,_,_⟩ := bk5 (HM.bx 0 rfl)
   have e16 := PE ha 13 hon
   exact VL (.slice A0_4 l0_4.length c0_4) (hK.out _ _ ⟨v735, v738, v741, v744, v747, v750, PUT ha 14 hb, HM⟩)
  refine SZ ?_ ?_
  ·rintro b a w ⟨v735, v738, v741, v744, v747, v750, ha, HM⟩ hb hon hoff K hK
   replace ha := Aside0.mk ha
   replace HM := (HM.sF 4 rfl hb).sT 4 rfl (hon 12 rfl)
   have e15 := PE ha 12 hon
   have e17 := PE ha 14 hon
   refine ST (eA 4 (.tmp 15) (.tmp 17) 23 3 (Kd.int .i64) v747 y746 l0_4 A0_4 l0_4.length c0_4 HM rfl Try.underlying23 info3 rfl (HM.came HR0_4.out) (by have h_ := LMc6.out; omega) ?_ (ops := #[]) (hw := by rfl) (hs := (eval_of e15)) (hx := (eval_of e17)))
   clear HM
   intro v750 w35 HM
   exact hK.out _ _ ⟨v735, v738, v741, v744, v747, v750, PUT (PCH ha 16 (hoff 16 rfl)) 15 hb, ((HM.sF 1 rfl (hoff 17 rfl)).iF 1 rfl (hoff 17 rfl)).pick [0, 1, 2, 3, 4]⟩
  refine SZ ?_ ?_
  ·rintro b a w ⟨v735, v738, v741, v744, v747, v750, ha, HM⟩ hb hon hoff K hK
   replace ha := Aside0.mk ha
   have HZ := HM
   replace HM := HM.sT 2 rfl (hon 7 rfl)
   replace HM := HM.sT 3 rfl (hon 11 rfl)
   replace HM := HM.sT 4 rfl (hon 15 rfl)
   obtain ⟨Xo36, ko36, rfl⟩ := HM.rdR 4 rfl
   obtain ⟨Xo37, ko37, rfl⟩ := HM.rdR 3 rfl
   obtain ⟨Xo38, ko38, rfl⟩ := HM.rdR 2 rfl
   have e4 := PE ha 1 hon
   have e6 := PE ha 3 hon
   have e10 := PE ha 7 hon
   have e14 := PE ha 11 hon
   have e18 := PE ha 15 hon
   exact VL (.agg #[.int .i64 a0_0, .int .i64 a0_1, .slice Xo38 (y734 ++ l0_2).length ko38, .slice Xo37 (y740 ++ l0_3).length ko37, .slice Xo36 (y746 ++ l0_4).length ko36]) (hK.out _ _ ⟨v735, .slice Xo38 (y734 ++ l0_2).length ko38, v741, .slice Xo37 (y740 ++ l0_3).length ko37, v747, .slice Xo36 (y746 ++ l0_4).length ko36, PUT ha 16 hb, HZ⟩)
  refine SZ ?_ ?_
  ·rintro b a w ⟨v735, v738, v741, v744, v747, v750, ha, HM⟩ hb hon hoff K hK
   replace ha := Aside0.mk ha
   replace HM := HM.sF 1 rfl hb
   replace HM := HM.sT 2 rfl (hon 7 rfl)
   replace HM := HM.sT 3 rfl (hon 11 rfl)
   replace HM := HM.sT 4 rfl (hon 15 rfl)
   obtain ⟨Xo39, ko39, rfl⟩ := HM.rdR 2 rfl
   obtain ⟨Xo40, ko40, rfl⟩ := HM.rdR 3 rfl
   obtain ⟨Xo41, ko41, rfl⟩ := HM.rdR 4 rfl
   have e2 := PG ha 2
   have e19 := PE ha 16 hon
   refine ST (eS 1 2 0 [.int .i64 a0_0, .int .i64 a0_1, .slice Xo39 (y734 ++ l0_2).length ko39, .slice Xo40 (y740 ++ l0_3).length ko40, .slice Xo41 (y746 ++ l0_4).length ko41] HM rfl rfl ?_ (hp := (eval_of e2)) (hx := (by rw [eval_of e19]; rfl)))
   clear HM
   intro w42 HM
   exact hK.out _ _ ⟨v735, .slice Xo39 (y734 ++ l0_2).length ko39, v741, .slice Xo40 (y740 ++ l0_3).length ko40, v747, .slice Xo41 (y746 ++ l0_4).length ko41, PUS ha, (((HM.iT 2 rfl (hon 7 rfl)).iT 3 rfl (hon 11 rfl)).iT 4 rfl (hon 15 rfl)).pick [0, 1, 2, 3, 4]⟩
  exact steps_nil
 rintro _ w43 ⟨v735, v738, v741, v744, v747, v750, rfl, HM⟩
 replace HM := HM.sT 1 rfl rfl
 replace HM := HM.sT 2 rfl rfl
 replace HM := HM.sT 3 rfl rfl
 replace HM := HM.sT 4 rfl rfl
 simp only [putSel, if_true, Act.put, List.setIfInBounds_toArray, List.set_cons_zero, List.set_cons_succ, gt_iff_lt, ge_iff_le]
 simp only [Option.some.injEq, Prod.mk.injEq] at H
 obtain ⟨rfl, rfl, rfl, rfl, rfl⟩ := H
 go_wp2
 refine bodyPost_ret (results_cell_row rfl _ _ gb733 25 #[.int .i64 a0_0, .int .i64 a0_1, v738, v744, v750] (0, 0) _ rfl (HM.bx 1 rfl) Try.underlying25 rfl (by kernel_rfl)) rfl ?_
 exact ⟨_, _, _, ER, (MD HM).pick [2, 3, 4]⟩
def spec_Mend.f (k : Nat) (a0 : ByteArray) (a1_0 : Int) (a1_1 : Int) (l1_2 : List (S76)) (l1_3 : List (S76)) (l1_4 : List Int) : Option (Int × Int × (List (S76)) × (List (S76)) × List Int × Bool) := (spec_TextThree.f k a0).bind fun bt754 => (if bt754.2.2.2.2.2 = 0 then (some (bt754.1, bt754.2.1, bt754.2.2.1, bt754.2.2.2.1, bt754.2.2.2.2.1, true)) else ((spec_ThreeOk.f k a1_0 a1_1 l1_2 l1_3 l1_4).bind fun t767 => (if t767 = true then ((spec_l10Copy.f a1_0 a1_1 l1_2 l1_3 l1_4).bind fun bt768 => (some (bt768.1, bt768.2.1, bt768.2.2.1, bt768.2.2.2.1, bt768.2.2.2.2, false))) else (some (0, 0, ([] : List (S76)), ([] : List (S76)), ([] : List Int), false)))))
theorem spec_Mend.calls (k : Nat) (a0 : ByteArray) (a1_0 : Int) (a1_1 : Int) (A1_2 : Option Addr) (c1_2 : Nat) (l1_2 : List (S76)) (A1_3 : Option Addr) (c1_3 : Nat) (l1_3 : List (S76)) (A1_4 : Option Addr) (c1_4 : Nat) (l1_4 : List Int) (r1 : Int) (r2 : Int) (r3 : List (S76)) (r4 : List (S76)) (r5 : List Int) (r6 : Bool) (w : World) (hr1_2 : Kd.C k76 w A1_2 l1_2.length l1_2) (hc1_2 : l1_2.length ≤ c1_2) (hr1_3 : Kd.C k76 w A1_3 l1_3.length l1_3) (hc1_3 : l1_3.length ≤ c1_3) (hr1_4 : Kd.C (Kd.int .i64) w A1_4 l1_4.length l1_4) (hc1_4 : l1_4.length ≤ c1_4) (h : spec_Mend.f k a0 a1_0 a1_1 l1_2 l1_3 l1_4 = some (r1, r2, r3, r4, r5, r6)) :
  Calls Try.prog 17 #[.string a0, .agg #[.int .i64 a1_0, .int .i64 a1_1, .slice A1_2 l1_2.length c1_2, .slice A1_3 l1_3.length c1_3, .slice A1_4 l1_4.length c1_4]] w fun e w' => ∃ v2_ v3_ v4_ : Value, e = .returned (.tuple #[.agg #[.int .i64 r1, .int .i64 r2, v2_, v3_, v4_], .bool r6]) ∧ Mem w [] w' [rowR k76 76 v2_ r3, rowR k76 76 v3_ r4, rowR (Kd.int .i64) 3 v4_ r5] := by
 have hu25 := Try.underlying25
 have HR1_2 := Aside0.mk hr1_2
 have HC1_2 := Aside0.mk hc1_2
 clear hr1_2 hc1_2
 have HR1_3 := Aside0.mk hr1_3
 have HC1_3 := Aside0.mk hc1_3
 clear hr1_3 hc1_3
 have HR1_4 := Aside0.mk hr1_4
 have HC1_4 := Aside0.mk hc1_4
 clear hr1_4 hc1_4
 have HM := Mem.nil w
 have H := h
 clear h
 unfold spec_Mend.f at H
 go_enter Try.func17, Try.ntmps17
 replace H := BN H; obtain ⟨⟨t754, t755, t756, t759, t762, t765⟩, A5, H⟩ := H
 go_upto_if 14 with (first | ((with_reducible refine gN 3 rfl ?_); refine pB 3 25 [.int .i64 a1_0, .int .i64 a1_1, .slice A1_2 l1_2.length c1_2, .slice A1_3 l1_3.length c1_3, .slice A1_4 l1_4.length c1_4] HM rfl ?_; clear HM; intro gb752 w3 HM) | ((with_reducible refine gN 4 rfl ?_); refine pB 4 25 [.int .i64 0, .int .i64 0, .slice none 0 0, .slice none 0 0, .slice none 0 0] HM rfl ?_; clear HM; intro gb753 w4 HM) | ((with_reducible refine gC 6 rfl ?_); refine pC (some 10) rfl #[.string a0] rfl Try.func6 (spec_TextThree.calls k a0 t754 t755 t756 t759 t762 t765 _ A5.out) ?_; rintro e w6 ⟨v757, v760, v763, rfl, hR⟩; refine ⟨_, rfl, ?_⟩; replace HM := HM.call hR; clear hR) | ((with_reducible refine gN 6 rfl ?_); refine pB 6 25 [.int .i64 0, .int .i64 0, .slice none 0 0, .slice none 0 0, .slice none 0 0] HM rfl ?_; clear HM; intro gb766 w7 HM; obtain ⟨Xo8, ko8, rfl⟩ := HM.rdR 2 rfl; obtain ⟨Xo9, ko9, rfl⟩ := HM.rdR 3 rfl; obtain ⟨Xo10, ko10, rfl⟩ := HM.rdR 4 rfl) | ((with_reducible refine gS 6 rfl ?_); refine pS 5 6 0 [.int .i64 t754, .int .i64 t755, .slice Xo8 t756.length ko8, .slice Xo9 t759.length ko9, .slice Xo10 t762.length ko10] HM rfl rfl ?_; clear HM; intro w11 HM))
 replace HM := nzM HM
 replace H := IT H; rcases H with ⟨c12, H⟩ | ⟨c12, H⟩
 ·have c12b0 : (t765 == 0) = true := beq_iff_eq.mpr c12
  have c12b1 : (t765 != 0) = false := bne_eq_false_iff_eq.mpr c12
  clear c12
  first|rw [c12b0]|(simp only [i64_w, i32_w]; rw [c12b0])|skip
  simp only [Option.some.injEq, Prod.mk.injEq] at H
  obtain ⟨rfl, rfl, rfl, rfl, rfl, rfl⟩ := H
  obtain ⟨_,_,_,_,_,_,_,_,_,_⟩ := bk5 (HM.bx 5 rfl)
  go_wp2_with (first | ((with_reducible refine gS 4 rfl ?_); refine pS 1 4 0 [.int .i64 t754, .int .i64 t755, .slice Xo8 t756.length ko8, .slice Xo9 t759.length ko9, .slice Xo10 t762.length ko10] HM rfl rfl ?_; clear HM; intro w14 HM))
  refine bodyPost_ret (results_ct rfl _ _ gb753 25 #[.int .i64 t754, .int .i64 t755, .slice Xo8 t756.length ko8, .slice Xo9 t759.length ko9, .slice Xo10 t762.length ko10] (0, 0) _ rfl (HM.bx 1 rfl) Try.underlying25 rfl (by kernel_rfl)) rfl ?_
  exact ⟨_, _, _, ER, (MD HM).pick [2, 3, 4]⟩
 ·have c12b0 : (t765 == 0) = false := beq_eq_false_iff_ne.mpr c12
  have c12b1 : (t765 != 0) = true := bne_iff_ne.mpr c12
  first|rw [c12b0]|(simp only [i64_w, i32_w]; rw [c12b0])|skip
  replace H := BN H; obtain ⟨t767, A16, H⟩ := H
  obtain ⟨_,_,_,_,_,_,_,_,_,_⟩ := bk5 (HM.bx 0 rfl)
  go_upto_if 18 with (first | ((with_reducible refine gC 25 rfl ?_); refine pC (some 17) rfl #[.agg #[.int .i64 a1_0, .int .i64 a1_1, .slice A1_2 l1_2.length c1_2, .slice A1_3 l1_3.length c1_3, .slice A1_4 l1_4.length c1_4]] rfl Try.func25 (spec_ThreeOk.calls k a1_0 a1_1 _ _ l1_2 _ _ l1_3 _ _ l1_4 t767 _ (HM.came HR1_2.out) HC1_2.out (HM.came HR1_3.out) HC1_3.out (HM.came HR1_4.out) HC1_4.out A16.out) ?_; rintro e w17 ⟨rfl, hR⟩; refine ⟨_, rfl, ?_⟩; replace HM := HM.call hR; clear hR))
  replace H := IB H
  rcases H with ⟨c18, H⟩ | ⟨c18, H⟩
  ·subst c18
   replace H := BN H; obtain ⟨⟨t768, t769, t770, t773, t776⟩, A20, H⟩ := H
   simp only [Option.some.injEq, Prod.mk.injEq] at H
   obtain ⟨rfl, rfl, rfl, rfl, rfl, rfl⟩ := H
   obtain ⟨_,_,_,_,_,_,_,_,_,_⟩ := bk5 (HM.bx 0 rfl)
   go_wp2_with (first | ((with_reducible refine gC 50 rfl ?_); refine pC (some 21) rfl #[.agg #[.int .i64 a1_0, .int .i64 a1_1, .slice A1_2 l1_2.length c1_2, .slice A1_3 l1_3.length c1_3, .slice A1_4 l1_4.length c1_4]] rfl Try.func50 (spec_l10Copy.calls a1_0 a1_1 _ _ l1_2 _ _ l1_3 _ _ l1_4 t768 t769 t770 t773 t776 _ (HM.came HR1_2.out) HC1_2.out (HM.came HR1_3.out) HC1_3.out (HM.came HR1_4.out) HC1_4.out A20.out) ?_; rintro e w21 ⟨v771, v774, v777, rfl, hR⟩; refine ⟨_, rfl, ?_⟩; replace HM := HM.call hR; clear hR; obtain ⟨Xo22, ko22, rfl⟩ := HM.rdR 6 rfl; obtain ⟨Xo23, ko23, rfl⟩ := HM.rdR 7 rfl; obtain ⟨Xo24, ko24, rfl⟩ := HM.rdR 8 rfl) | ((with_reducible refine gS 4 rfl ?_); refine pS 1 4 0 [.int .i64 t768, .int .i64 t769, .slice Xo22 t770.length ko22, .slice Xo23 t773.length ko23, .slice Xo24 t776.length ko24] HM rfl rfl ?_; clear HM; intro w25 HM))
   refine bodyPost_ret (results_ct rfl _ _ gb753 25 #[.int .i64 t768, .int .i64 t769, .slice Xo22 t770.length ko22, .slice Xo23 t773.length ko23, .slice Xo24 t776.length ko24] (0, 0) _ rfl (HM.bx 1 rfl) Try.underlying25 rfl (by kernel_rfl)) rfl ?_
   exact ⟨_, _, _, ER, (MD HM).pick [6, 7, 8]⟩
  ·subst c18
   simp only [Option.some.injEq, Prod.mk.injEq] at H
   obtain ⟨rfl, rfl, rfl, rfl, rfl, rfl⟩ := H
   go_wp2_with (first | ((with_reducible refine gS 4 rfl ?_); refine pS 1 4 0 [.int .i64 0, .int .i64 0, .slice none 0 0, .slice none 0 0, .slice none 0 0] HM rfl rfl ?_; clear HM; intro w26 HM; replace HM := HM.nl k76 76; replace HM := HM.nl k76 76; replace HM := HM.nl (Kd.int .i64) 3))
   refine bodyPost_ret (results_ct rfl _ _ gb753 25 #[.int .i64 0, .int .i64 0, .slice none 0 0, .slice none 0 0, .slice none 0 0] (0, 0) _ rfl (HM.bx 1 rfl) Try.underlying25 rfl (by kernel_rfl)) rfl ?_
   exact ⟨_, _, _, ER, (MD HM).pick [6, 7, 8]⟩
end Go.Proofs.Ytnlnifpehndacaa.G
