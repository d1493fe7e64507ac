/- Part 2 of the claim FnLoop, merged by pack.py (this session's program) out of: the print's words, cut to what is needed; texts that gen.py printed (it runs the kit's print in place); texts of this session. -/
import Derived.RegionTactic
import Derived.Test.YtanakbmhclpamaaKFnLoop0
import Derived.Test.YtanakbmhclpamaaKFnLoop1
namespace Go.Proofs.Ytanakbmhclpamaa.Man
end Go.Proofs.Ytanakbmhclpamaa.Man
namespace Go.Proofs.Ytanakbmhclpamaa.Mm
end Go.Proofs.Ytanakbmhclpamaa.Mm
namespace Go.Proofs.Ytanakbmhclpamaa.Sh
end Go.Proofs.Ytanakbmhclpamaa.Sh
namespace Go.Proofs.Ytanakbmhclpamaa.G
open Go.RowKit Go.Proofs.YtanakbmhclpamaaW.PrintWords Go.Proofs.YtanakbmhclpamaaW.PrintLast Go.Proofs.YtanakbmhclpamaaW.PrintMore Go.Proofs.Ytanakbmhclpamaa.Sh
attribute [local go_sem] max2_int min2_int max_two min_two max_three min_three max_four min_four
set_option linter.unusedVariables false
set_option linter.unusedSimpArgs false
open Go.Proofs.Ytanakbmhclpamaa.Mm
def impl_RowGet.f (k : Nat) (a0_0 : Int) (a0_1 : Int) (l0_2 : List (S76)) (a1 : ByteArray) : Option (Int × Int × (List (S76)) × ByteArray × Bool) := (impl_RowOk.f k a0_0 a0_1 l0_2).bind fun t890 => (if t890 = true then ((impl_copyRow.f a0_0 a0_1 l0_2).bind fun bt891 => ((impl_itemAt.f l0_2 a1).bind fun t897 => (if t897 < 0 then (some (bt891.1, bt891.2.1, bt891.2.2, (⟨#[]⟩ : ByteArray), false)) else ((impl_Row_asked.f bt891.1 bt891.2.1 bt891.2.2 t897).bind fun bt898 => (if 0 ≤ t897 then (if t897 < (l0_2.length : Int) then (some (bt898.1, bt898.2.1, bt898.2.2, (rd_T76 l0_2 t897).f1, true)) else (none)) else (none)))))) else (some (0, 0, ([] : List (S76)), (⟨#[]⟩ : ByteArray), false)))
def impl_RowGet.T8 : Bool × List (List Nat × List Nat) := (true, [([], []), ([], []), ([1], [1]), ([], []), ([2, 3], [2, 3]), ([4], [4]), ([5], [5]), ([0, 0], [0]), ([6, 7, 0, 1, 2, 3, 4, 5, 6, 7], [6]), ([8, 0, 1, 2, 3, 4, 5, 6, 7, 8], [])])
def impl_RowGet.B8 : List Nat := [0, 0, 2, 0, 14, 30, 62, 1, 255, 511]
theorem impl_RowGet.tab8 : rtab .any (opsOf Try.f34 8) = impl_RowGet.T8 := by kernel_rfl
theorem impl_RowGet.bits8 : waitsOk impl_RowGet.T8.2 impl_RowGet.B8 = true := by kernel_rfl
set_option maxHeartbeats 8000000 in
set_option maxRecDepth 100000 in
theorem impl_RowGet.calls (k : Nat) (a0_0 : Int) (a0_1 : Int) (A0_2 : Option Addr) (c0_2 : Nat) (l0_2 : List (S76)) (a1 : ByteArray) (r1 : Int) (r2 : Int) (r3 : List (S76)) (r4 : ByteArray) (r5 : Bool) (w : World) (hr0_2 : Kd.C k76 w A0_2 l0_2.length l0_2) (hc0_2 : l0_2.length ≤ c0_2) (h : impl_RowGet.f k a0_0 a0_1 l0_2 a1 = some (r1, r2, r3, r4, r5)) :
  Calls Try.prog 34 #[.agg #[.int .i64 a0_0, .int .i64 a0_1, .slice A0_2 l0_2.length c0_2], .string a1] w fun e w' => ∃ v2_ : Value, e = .returned (.tuple #[.agg #[.int .i64 r1, .int .i64 r2, v2_], .string r4, .bool r5]) ∧ Mem w [] w' [rowR k76 76 v2_ r3] := by
 have hu46 := Try.underlying46
 have HR0_2 := Aside0.mk hr0_2
 have HC0_2 := Aside0.mk hc0_2
 clear hr0_2 hc0_2
 have HM := Mem.nil w
 have H := h
 clear h
 unfold impl_RowGet.f at H
 go_enter Try.func34, Try.ntmps34
 replace H := BN H; obtain ⟨t890, A6, H⟩ := H
 go_upto_if 11 with (first | ((with_reducible refine gN 2 rfl ?_); refine pB 2 46 [.int .i64 a0_0, .int .i64 a0_1, .slice A0_2 l0_2.length c0_2] HM rfl ?_; clear HM; intro gb888 w3 HM) | ((with_reducible refine gN 4 rfl ?_); refine pB 4 46 [.int .i64 0, .int .i64 0, .slice none 0 0] HM rfl ?_; clear HM; intro gb889 w4 HM; obtain ⟨z5_0, z5_1, z5_2, Z5_0, Z5_1, Z5_2⟩ := bk3 (HM.bx 0 rfl)) | ((with_reducible refine gC 59 rfl ?_); refine pC (some 10) rfl #[.agg #[.int .i64 a0_0, .int .i64 a0_1, .slice A0_2 l0_2.length c0_2]] rfl Try.func59 (impl_RowOk.calls k a0_0 a0_1 _ _ l0_2 t890 _ (HM.came HR0_2.out) HC0_2.out A6.out) ?_; rintro e w7 ⟨rfl, hR⟩; refine ⟨_, rfl, ?_⟩; replace HM := HM.call hR; clear hR))
 replace HM := nzM HM
 replace H := IB H
 rcases H with ⟨c8, H⟩ | ⟨c8, H⟩
 ·subst c8
  replace H := BN H; obtain ⟨⟨t891, t892, t893⟩, A10, H⟩ := H
  replace H := BN H; obtain ⟨t897, A16, H⟩ := H
  obtain ⟨z9_0, z9_1, z9_2, Z9_0, Z9_1, Z9_2⟩ := bk3 (HM.bx 0 rfl)
  go_upto_if 20 with (first | ((with_reducible refine gC 61 rfl ?_); refine pC (some 14) rfl #[.agg #[.int .i64 a0_0, .int .i64 a0_1, .slice A0_2 l0_2.length c0_2]] rfl Try.func61 (impl_copyRow.calls a0_0 a0_1 _ _ l0_2 t891 t892 t893 _ (HM.came HR0_2.out) HC0_2.out A10.out) ?_; rintro e w11 ⟨v894, rfl, hR⟩; refine ⟨_, rfl, ?_⟩; replace HM := HM.call hR; clear hR) | ((with_reducible refine gN 7 rfl ?_); refine pB 7 46 [.int .i64 0, .int .i64 0, .slice none 0 0] HM rfl ?_; clear HM; intro gb896 w12 HM; obtain ⟨Xo13, ko13, eo13⟩ := HM.rdR 2 rfl; subst eo13) | ((with_reducible refine gS 7 rfl ?_); refine pS 3 7 0 [.int .i64 t891, .int .i64 t892, .slice Xo13 t893.length ko13] HM rfl rfl ?_; clear HM; intro w14 HM; obtain ⟨z15_0, z15_1, z15_2, Z15_0, Z15_1, Z15_2⟩ := bk3 (HM.bx 0 rfl)) | ((with_reducible refine gC 62 rfl ?_); refine pC (some 18) rfl #[.slice A0_2 l0_2.length c0_2, .string a1] rfl Try.func62 (impl_itemAt.calls A0_2 c0_2 l0_2 a1 t897 _ (HM.came HR0_2.out) HC0_2.out A16.out) ?_; rintro e w17 ⟨rfl, hb⟩; refine ⟨_, rfl, ?_⟩; replace HM := HM.below hb; clear hb))
  replace HM := nzM HM
  replace H := IT H; rcases H with ⟨c18, H⟩ | ⟨c18, H⟩
  ·have c18b0 : decide (t897 < 0) = true := decide_eq_true c18
   clear c18
   (first | rw [c18b0] | (simp only [i64_w, i32_w]; rw [c18b0]) | skip)
   simp only [Option.some.injEq, Prod.mk.injEq] at H
   obtain ⟨rfl, rfl, rfl, rfl, rfl⟩ := H
   obtain ⟨z19_0, z19_1, z19_2, Z19_0, Z19_1, Z19_2⟩ := bk3 (HM.bx 3 rfl)
   go_wp2_with (first | ((with_reducible refine gS 4 rfl ?_); refine pS 1 4 0 [.int .i64 t891, .int .i64 t892, .slice Xo13 t893.length ko13] HM rfl rfl ?_; clear HM; intro w20 HM))
   refine bodyPost_ret (results_ctt rfl _ _ gb889 46 #[.int .i64 t891, .int .i64 t892, .slice Xo13 t893.length ko13] (0, 0) _ rfl (HM.bx 1 rfl) Try.underlying46 rfl (by kernel_rfl)) rfl ?_
   exact ⟨_, ER, (MD HM).pick [2]⟩
  ·have c18b0 : decide (t897 < 0) = false := decide_eq_false c18
   clear c18
   (first | rw [c18b0] | (simp only [i64_w, i32_w]; rw [c18b0]) | skip)
   replace H := BN H; obtain ⟨⟨t898, t899, t900⟩, A21, H⟩ := H
   try go_wp2_with (first | ((with_reducible refine gC 63 rfl ?_); refine pC (some 23) rfl #[.pointer (some ⟨gb896, 0, none⟩), .int .i64 t897] rfl Try.func63 (impl_Row_asked.calls gb896 t891 t892 (.slice Xo13 t893.length ko13) t893 t897 t898 t899 t900 _ _ _ (HM.focus [0, 1] [2, 3]) A21.out) ?_; rintro e w22 ⟨v901, rfl, hR⟩; refine ⟨_, rfl, ?_⟩; replace HM := nzM hR.unfocus; clear hR))
   replace H := GD H; obtain ⟨c23, H⟩ := H
   have c23b0 : decide (0 ≤ t897) = true := decide_eq_true c23
   clear c23
   replace H := GD H; obtain ⟨c24, H⟩ := H
   have c24b0 : decide (t897 < (l0_2.length : Int)) = true := decide_eq_true c24
   clear c24
   have p903 : 0 ≤ (t897 : Int) := of_decide_eq_true AS
   have q903 : (t897 : Int) < (l0_2.length : Int) := of_decide_eq_true AS
   obtain ⟨ad903, e903, hx903_0, hx903_1, hx903_2⟩ := at_T76 (HM.came HR0_2.out) t897 p903 q903
   cases e903
   replace p903 := eq_true p903
   replace q903 := eq_true q903
   obtain ⟨Xo29, ko29, eo29⟩ := HM.rdR 2 rfl
   subst eo29
   refine RGN 10 [0, 1, 2, 3, 4, 5, 6, 7, 8, 9] (fun a0 b a w' => a = putSel a0 b [(0, 24, .agg #[.int .i64 t898, .int .i64 t899, .slice Xo29 t900.length ko29]), (1, 25, .pointer (some ⟨gb888, 2, none⟩)), (2, 26, .slice (some ad903) l0_2.length c0_2), (3, 27, .int .i64 t897), (4, 28, .pointer (some (ad903.add ((t897).toNat * 3)))), (5, 29, .pointer (some ⟨(ad903.add ((t897).toNat * 3)).block, (ad903.add ((t897).toNat * 3)).off + 1, none⟩)), (6, 30, .string ((rd_T76 l0_2 t897).f1)), (8, 5, .string ((rd_T76 l0_2 t897).f1)), (9, 6, .bool true)] ∧ Mem w [] w' [box 46 gb888 [.int .i64 a0_0, .int .i64 a0_1, .slice (some ad903) l0_2.length c0_2], sel (b 7) (box 46 gb889 [.int .i64 t898, .int .i64 t899, .slice Xo29 t900.length ko29]) (box 46 gb889 [.int .i64 0, .int .i64 0, .slice none 0 0]), rowR k76 76 (.slice Xo29 t900.length ko29) t900, box 46 gb896 [.int .i64 t898, .int .i64 t899, .slice Xo29 t900.length ko29]]) impl_RowGet.tab8 impl_RowGet.bits8 ?_ ?_ ?_
   ·exact ⟨PS0' rfl _, (HM.drew).pick [0, 1, 2, 3]⟩
   ·clear HM
    refine SY ?_ ?_
    ·intro b a w ha HM hb hon hoff K hK
     obtain ⟨z30_0, z30_1, z30_2, Z30_0, Z30_1, Z30_2⟩ := bk3 (HM.bx 3 rfl)
     have e7 := PG ha 7
     exact VL (.agg #[.int .i64 t898, .int .i64 t899, .slice Xo29 t900.length ko29]) (hK.out _ _ ⟨PUT ha 0 hb, HM⟩)
    refine SY ?_ ?_
    ·intro b a w ha HM hb hon hoff K hK
     have e2 := PG ha 2
     exact VL (.pointer (some ⟨gb888, 2, none⟩)) (hK.out _ _ ⟨PUT ha 1 hb, HM⟩)
    refine SY ?_ ?_
    ·intro b a w ha HM hb hon hoff K hK
     obtain ⟨z31_0, z31_1, z31_2, Z31_0, Z31_1, Z31_2⟩ := bk3 (HM.bx 0 rfl)
     have e25 := PE ha 1 hon
     exact VL (.slice (some ad903) l0_2.length c0_2) (hK.out _ _ ⟨PUT ha 2 hb, HM⟩)
    refine SY ?_ ?_
    ·intro b a w ha HM hb hon hoff K hK
     have e8 := PG ha 8
     exact VL (.int .i64 t897) (hK.out _ _ ⟨PUT ha 3 hb, HM⟩)
    refine SY ?_ ?_
    ·intro b a w ha HM hb hon hoff K hK
     have p903 : 0 ≤ (t897 : Int) := of_decide_eq_true AS
     have q903 : (t897 : Int) < (l0_2.length : Int) := of_decide_eq_true AS
     obtain ⟨ad903, e903, hx903_0, hx903_1, hx903_2⟩ := at_T76 (HM.came HR0_2.out) t897 p903 q903
     obtain rfl := Option.some.inj e903
     replace p903 := eq_true p903
     replace q903 := eq_true q903
     have e26 := PE ha 2 hon
     have e27 := PE ha 3 hon
     exact VL (.pointer (some (ad903.add ((t897).toNat * 3)))) (hK.out _ _ ⟨PUT ha 4 hb, HM⟩)
    refine SY ?_ ?_
    ·intro b a w ha HM hb hon hoff K hK
     have e28 := PE ha 4 hon
     exact VL (.pointer (some ⟨(ad903.add ((t897).toNat * 3)).block, (ad903.add ((t897).toNat * 3)).off + 1, none⟩)) (hK.out _ _ ⟨PUT ha 5 hb, HM⟩)
    refine SY ?_ ?_
    ·intro b a w ha HM hb hon hoff K hK
     have p903 : 0 ≤ (t897 : Int) := of_decide_eq_true AS
     have q903 : (t897 : Int) < (l0_2.length : Int) := of_decide_eq_true AS
     obtain ⟨ad903, e903, hx903_0, hx903_1, hx903_2⟩ := at_T76 (HM.came HR0_2.out) t897 p903 q903
     obtain rfl := Option.some.inj e903
     replace p903 := eq_true p903
     replace q903 := eq_true q903
     have e29 := PE ha 5 hon
     exact VL (.string ((rd_T76 l0_2 t897).f1)) (hK.out _ _ ⟨PUT ha 6 hb, HM⟩)
    refine SY ?_ ?_
    ·intro b a w ha HM hb hon hoff K hK
     replace HM := HM.sF 1 rfl hb
     have e4 := PG ha 4
     have e24 := PE ha 0 hon
     refine ST (eS 1 4 0 [.int .i64 t898, .int .i64 t899, .slice Xo29 t900.length ko29] HM rfl rfl ?_ (hp := (eval_of e4)) (hx := (by rw [eval_of e24]; rfl)))
     clear HM
     intro w32 HM
     exact hK.out _ _ ⟨PUS ha, (HM).pick [0, 1, 2, 3]⟩
    refine SY ?_ ?_
    ·intro b a w ha HM hb hon hoff K hK
     have e30 := PE ha 6 hon
     exact VL (.string ((rd_T76 l0_2 t897).f1)) (hK.out _ _ ⟨PUT ha 7 hb, HM⟩)
    refine SY ?_ ?_
    ·intro b a w ha HM hb hon hoff K hK
     exact VL (.bool true) (hK.out _ _ ⟨PUT ha 8 hb, HM⟩)
    exact steps_nil
   rintro _ w33 ⟨rfl, HM⟩
   replace HM := HM.sT 1 rfl rfl
   simp only [putSel, if_true, Act.put, List.setIfInBounds_toArray, List.set_cons_zero, List.set_cons_succ, gt_iff_lt, ge_iff_le]
   simp only [Option.some.injEq, Prod.mk.injEq] at H
   obtain ⟨rfl, rfl, rfl, rfl, rfl⟩ := H
   go_wp2
   refine bodyPost_ret (results_ctt rfl _ _ gb889 46 #[.int .i64 t898, .int .i64 t899, .slice Xo29 t900.length ko29] (0, 0) _ rfl (HM.bx 1 rfl) Try.underlying46 rfl (by kernel_rfl)) rfl ?_
   exact ⟨_, ER, (MD HM).pick [2]⟩
 ·subst c8
  simp only [Option.some.injEq, Prod.mk.injEq] at H
  obtain ⟨rfl, rfl, rfl, rfl, rfl⟩ := H
  go_wp2_with (first | ((with_reducible refine gS 4 rfl ?_); refine pS 1 4 0 [.int .i64 0, .int .i64 0, .slice none 0 0] HM rfl rfl ?_; clear HM; intro w34 HM; replace HM := HM.nl k76 76))
  refine bodyPost_ret (results_ctt rfl _ _ gb889 46 #[.int .i64 0, .int .i64 0, .slice none 0 0] (0, 0) _ rfl (HM.bx 1 rfl) Try.underlying46 rfl (by kernel_rfl)) rfl ?_
  exact ⟨_, ER, (MD HM).pick [2]⟩
def impl_copyInts.f (l0 : List Int) : Option (List Int) := if ([] : List Int).length + l0.length < 17592186044416 then (some (([] : List Int) ++ l0)) else (none)
set_option maxHeartbeats 8000000 in
set_option maxRecDepth 100000 in
theorem impl_copyInts.calls (A0 : Option Addr) (c0 : Nat) (l0 : List Int) (r : List Int) (w : World) (hr0 : Kd.C (Kd.int .i64) w A0 l0.length l0) (hc0 : l0.length ≤ c0) (h : impl_copyInts.f l0 = some r) :
  Calls Try.prog 126 #[.slice A0 l0.length c0] w fun e w' => ∃ v0_ : Value, e = .returned (v0_) ∧ Mem w [] w' [rowR (Kd.int .i64) 3 v0_ r] := by
 have HR0 := Aside0.mk hr0
 have HC0 := Aside0.mk hc0
 clear hr0 hc0
 have HM := Mem.nil w
 have H := h
 clear h
 unfold impl_copyInts.f at H
 go_enter Try.func126, Try.ntmps126
 replace H := GD H; obtain ⟨c2, H⟩ := H
 have LMc2 := Aside0.mk c2
 clear c2
 obtain rfl := Option.some.inj H
 go_wp2_with (first | ((with_reducible refine gate_builtin (b := .append) (xs := #[.const (.slice none 0 0), .tmp 3]) rfl ?_); refine pAn (.const (.slice none 0 0)) (.tmp 3) 60 3 (Kd.int .i64) l0 A0 l0.length c0 HM rfl Try.underlying60 info3 (HM.came HR0.out) (by have h_ := LMc2.out; omega) ?_; clear HM; intro v906 w3 HM))
 go_ret
 exact ⟨_, ER, (MD HM).pick [0]⟩
def impl_copyThree.f (a0_0 : Int) (a0_1 : Int) (l0_2 : List (S76)) (l0_3 : List (S76)) (l0_4 : List Int) : Option (Int × Int × (List (S76)) × (List (S76)) × List Int) := (impl_copyItems.f l0_2).bind fun t910 => ((impl_copyItems.f l0_3).bind fun t913 => ((impl_copyInts.f l0_4).bind fun t916 => (some (a0_0, a0_1, t910, t913, t916))))
def impl_copyThree.T1 : Bool × List (List Nat × List Nat) := (true, [([], []), ([0], [0]), ([], []), ([2], [2]), ([], []), ([4], [4]), ([5], [5]), ([], []), ([7], [7]), ([8, 6], [8]), ([], []), ([10], [10]), ([11, 9], [11]), ([1, 3, 6, 9, 12], [1, 3, 6, 9, 12]), ([13, 12, 0, 1, 2, 3, 4, 5, 6, 7, 8, 9, 10, 11, 12, 13], [13])])
def impl_copyThree.B1 : List Nat := [0, 1, 0, 4, 0, 16, 48, 0, 128, 496, 0, 1024, 4080, 8191, 16383]
theorem impl_copyThree.tab1 : rtab .any (opsOf Try.f115 1) = impl_copyThree.T1 := by kernel_rfl
theorem impl_copyThree.bits1 : waitsOk impl_copyThree.T1.2 impl_copyThree.B1 = true := by kernel_rfl
set_option maxHeartbeats 8000000 in
set_option maxRecDepth 100000 in
theorem impl_copyThree.calls (a0_0 : Int) (a0_1 : Int) (A0_2 : Option Addr) (c0_2 : Nat) (l0_2 : List (S76)) (A0_3 : Option Addr) (c0_3 : Nat) (l0_3 : List (S76)) (A0_4 : Option Addr) (c0_4 : Nat) (l0_4 : List Int) (r1 : Int) (r2 : Int) (r3 : List (S76)) (r4 : List (S76)) (r5 : List Int) (w : World) (hr0_2 : Kd.C k76 w A0_2 l0_2.length l0_2) (hc0_2 : l0_2.length ≤ c0_2) (hr0_3 : Kd.C k76 w A0_3 l0_3.length l0_3) (hc0_3 : l0_3.length ≤ c0_3) (hr0_4 : Kd.C (Kd.int .i64) w A0_4 l0_4.length l0_4) (hc0_4 : l0_4.length ≤ c0_4) (h : impl_copyThree.f a0_0 a0_1 l0_2 l0_3 l0_4 = some (r1, r2, r3, r4, r5)) :
  Calls Try.prog 115 #[.agg #[.int .i64 a0_0, .int .i64 a0_1, .slice A0_2 l0_2.length c0_2, .slice A0_3 l0_3.length c0_3, .slice A0_4 l0_4.length c0_4]] w fun e w' => ∃ v2_ v3_ v4_ : Value, e = .returned (.agg #[.int .i64 r1, .int .i64 r2, v2_, v3_, v4_]) ∧ Mem w [] w' [rowR k76 76 v2_ r3, rowR k76 76 v3_ r4, rowR (Kd.int .i64) 3 v4_ r5] := by
 have hu65 := Try.underlying65
 have HR0_2 := Aside0.mk hr0_2
 have HC0_2 := Aside0.mk hc0_2
 clear hr0_2 hc0_2
 have HR0_3 := Aside0.mk hr0_3
 have HC0_3 := Aside0.mk hc0_3
 clear hr0_3 hc0_3
 have HR0_4 := Aside0.mk hr0_4
 have HC0_4 := Aside0.mk hc0_4
 clear hr0_4 hc0_4
 have HM := Mem.nil w
 have H := h
 clear h
 unfold impl_copyThree.f at H
 go_enter Try.func115, Try.ntmps115
 try go_wp2_with (first | ((with_reducible refine gN 1 rfl ?_); refine pB 1 65 [.int .i64 a0_0, .int .i64 a0_1, .slice A0_2 l0_2.length c0_2, .slice A0_3 l0_3.length c0_3, .slice A0_4 l0_4.length c0_4] HM rfl ?_; clear HM; intro gb908 w2 HM) | ((with_reducible refine gN 2 rfl ?_); refine pB 2 65 [.int .i64 0, .int .i64 0, .slice none 0 0, .slice none 0 0, .slice none 0 0] HM rfl ?_; clear HM; intro gb909 w3 HM))
 replace H := BN H; obtain ⟨t910, A4, H⟩ := H
 replace H := BN H; obtain ⟨t913, A5, H⟩ := H
 replace H := BN H; obtain ⟨t916, A6, H⟩ := H
 refine RGN 15 [0, 1, 2, 3, 4, 5, 6, 7, 8, 9, 10, 11, 12, 13, 14] (fun a0 b a w' => ∃ (v911 : Value) (v914 : Value) (v917 : Value), a = putSel a0 b [(0, 3, .pointer (some ⟨gb908, 0, none⟩)), (1, 4, .int .i64 a0_0), (2, 5, .pointer (some ⟨gb908, 1, none⟩)), (3, 6, .int .i64 a0_1), (4, 7, .pointer (some ⟨gb908, 2, none⟩)), (5, 8, .slice A0_2 l0_2.length c0_2), (6, 9, v911), (7, 10, .pointer (some ⟨gb908, 3, none⟩)), (8, 11, .slice A0_3 l0_3.length c0_3), (9, 12, v914), (10, 13, .pointer (some ⟨gb908, 4, none⟩)), (11, 14, .slice A0_4 l0_4.length c0_4), (12, 15, v917), (13, 16, .agg #[.int .i64 a0_0, .int .i64 a0_1, v911, v914, v917])] ∧ Mem w [] w' [box 65 gb908 [.int .i64 a0_0, .int .i64 a0_1, .slice A0_2 l0_2.length c0_2, .slice A0_3 l0_3.length c0_3, .slice A0_4 l0_4.length c0_4], sel (b 14) (box 65 gb909 [.int .i64 a0_0, .int .i64 a0_1, v911, v914, v917]) (box 65 gb909 [.int .i64 0, .int .i64 0, .slice none 0 0, .slice none 0 0, .slice none 0 0]), sel (b 6) (rowR k76 76 v911 t910) (emp), sel (b 9) (rowR k76 76 v914 t913) (emp), sel (b 12) (rowR (Kd.int .i64) 3 v917 t916) (emp)]) impl_copyThree.tab1 impl_copyThree.bits1 ?_ ?_ ?_
 ·exact ⟨.bool false, .bool false, .bool false, PS0' rfl _, (HM.drew.ems 3).pick [0, 1, 2, 3, 4]⟩
 ·clear HM
  refine steps_cons ?_ ?_
  ·rintro b a w ⟨v911, v914, v917, ha, HM⟩ hb hon hoff
   refine ⟨_, rfl, fun K hK => ?_⟩
   replace ha := Aside0.mk ha
   have e1 := PG ha 1
   exact VL (.pointer (some ⟨gb908, 0, none⟩)) (hK.out _ _ ⟨v911, v914, v917, PUT ha 0 hb, HM⟩)
  refine steps_cons ?_ ?_
  ·rintro b a w ⟨v911, v914, v917, ha, HM⟩ hb hon hoff
   refine ⟨_, rfl, fun K hK => ?_⟩
   replace ha := Aside0.mk ha
   obtain ⟨z22_0, z22_1, z22_2, z22_3, z22_4, Z22_0, Z22_1, Z22_2, Z22_3, Z22_4⟩ := bk5 (HM.bx 0 rfl)
   have e3 := PE ha 0 hon
   exact VL (.int .i64 a0_0) (hK.out _ _ ⟨v911, v914, v917, PUT ha 1 hb, HM⟩)
  refine steps_cons ?_ ?_
  ·rintro b a w ⟨v911, v914, v917, ha, HM⟩ hb hon hoff
   refine ⟨_, rfl, fun K hK => ?_⟩
   replace ha := Aside0.mk ha
   have e1 := PG ha 1
   exact VL (.pointer (some ⟨gb908, 1, none⟩)) (hK.out _ _ ⟨v911, v914, v917, PUT ha 2 hb, HM⟩)
  refine steps_cons ?_ ?_
  ·rintro b a w ⟨v911, v914, v917, ha, HM⟩ hb hon hoff
   refine ⟨_, rfl, fun K hK => ?_⟩
   replace ha := Aside0.mk ha
   obtain ⟨z23_0, z23_1, z23_2, z23_3, z23_4, Z23_0, Z23_1, Z23_2, Z23_3, Z23_4⟩ := bk5 (HM.bx 0 rfl)
   have e5 := PE ha 2 hon
   exact VL (.int .i64 a0_1) (hK.out _ _ ⟨v911, v914, v917, PUT ha 3 hb, HM⟩)
  refine steps_cons ?_ ?_
  ·rintro b a w ⟨v911, v914, v917, ha, HM⟩ hb hon hoff
   refine ⟨_, rfl, fun K hK => ?_⟩
   replace ha := Aside0.mk ha
   have e1 := PG ha 1
   exact VL (.pointer (some ⟨gb908, 2, none⟩)) (hK.out _ _ ⟨v911, v914, v917, PUT ha 4 hb, HM⟩)
  refine steps_cons ?_ ?_
  ·rintro b a w ⟨v911, v914, v917, ha, HM⟩ hb hon hoff
   refine ⟨_, rfl, fun K hK => ?_⟩
   replace ha := Aside0.mk ha
   obtain ⟨z24_0, z24_1, z24_2, z24_3, z24_4, Z24_0, Z24_1, Z24_2, Z24_3, Z24_4⟩ := bk5 (HM.bx 0 rfl)
   have e7 := PE ha 4 hon
   exact VL (.slice A0_2 l0_2.length c0_2) (hK.out _ _ ⟨v911, v914, v917, PUT ha 5 hb, HM⟩)
  refine steps_cons ?_ ?_
  ·rintro b a w ⟨v911, v914, v917, ha, HM⟩ hb hon hoff
   refine ⟨_, rfl, fun K hK => ?_⟩
   replace ha := Aside0.mk ha
   have e8 := PE ha 5 hon
   refine ST (eC (some 9) rfl #[.slice A0_2 l0_2.length c0_2] rfl Try.func78 (impl_copyItems.calls _ _ l0_2 t910 _ (HM.came HR0_2.out) HC0_2.out A4.out) ?_ (hargs := by (simp only [List.map_toArray, List.map_cons, List.map_nil, evc, eval_of e8]) <;> rfl))
   rintro e w25 ⟨v911, rfl, hR⟩
   refine ⟨_, rfl, ?_⟩
   replace HM := HM.call hR
   clear hR
   exact hK.out _ _ ⟨v911, v914, v917, PUT (PCH ha 13 (hoff 13 (by kernel_rfl))) 6 hb, ((HM.sF 1 rfl (hoff 14 (by kernel_rfl))).iF 1 rfl (hoff 14 (by kernel_rfl))).pick [0, 1, 5, 3, 4]⟩
  refine steps_cons ?_ ?_
  ·rintro b a w ⟨v911, v914, v917, ha, HM⟩ hb hon hoff
   refine ⟨_, rfl, fun K hK => ?_⟩
   replace ha := Aside0.mk ha
   have e1 := PG ha 1
   exact VL (.pointer (some ⟨gb908, 3, none⟩)) (hK.out _ _ ⟨v911, v914, v917, PUT ha 7 hb, HM⟩)
  refine steps_cons ?_ ?_
  ·rintro b a w ⟨v911, v914, v917, ha, HM⟩ hb hon hoff
   refine ⟨_, rfl, fun K hK => ?_⟩
   replace ha := Aside0.mk ha
   obtain ⟨z26_0, z26_1, z26_2, z26_3, z26_4, Z26_0, Z26_1, Z26_2, Z26_3, Z26_4⟩ := bk5 (HM.bx 0 rfl)
   have e10 := PE ha 7 hon
   exact VL (.slice A0_3 l0_3.length c0_3) (hK.out _ _ ⟨v911, v914, v917, PUT ha 8 hb, HM⟩)
  refine steps_cons ?_ ?_
  ·rintro b a w ⟨v911, v914, v917, ha, HM⟩ hb hon hoff
   refine ⟨_, rfl, fun K hK => ?_⟩
   replace ha := Aside0.mk ha
   have e11 := PE ha 8 hon
   refine ST (eC (some 12) rfl #[.slice A0_3 l0_3.length c0_3] rfl Try.func78 (impl_copyItems.calls _ _ l0_3 t913 _ (HM.came HR0_3.out) HC0_3.out A5.out) ?_ (hargs := by (simp only [List.map_toArray, List.map_cons, List.map_nil, evc, eval_of e11]) <;> rfl))
   rintro e w27 ⟨v914, rfl, hR⟩
   refine ⟨_, rfl, ?_⟩
   replace HM := HM.call hR
   clear hR
   exact hK.out _ _ ⟨v911, v914, v917, PUT (PCH ha 13 (hoff 13 (by kernel_rfl))) 9 hb, ((HM.sF 1 rfl (hoff 14 (by kernel_rfl))).iF 1 rfl (hoff 14 (by kernel_rfl))).pick [0, 1, 2, 5, 4]⟩
  refine steps_cons ?_ ?_
  ·rintro b a w ⟨v911, v914, v917, ha, HM⟩ hb hon hoff
   refine ⟨_, rfl, fun K hK => ?_⟩
   replace ha := Aside0.mk ha
   have e1 := PG ha 1
   exact VL (.pointer (some ⟨gb908, 4, none⟩)) (hK.out _ _ ⟨v911, v914, v917, PUT ha 10 hb, HM⟩)
  refine steps_cons ?_ ?_
  ·rintro b a w ⟨v911, v914, v917, ha, HM⟩ hb hon hoff
   refine ⟨_, rfl, fun K hK => ?_⟩
   replace ha := Aside0.mk ha
   obtain ⟨z28_0, z28_1, z28_2, z28_3, z28_4, Z28_0, Z28_1, Z28_2, Z28_3, Z28_4⟩ := bk5 (HM.bx 0 rfl)
   have e13 := PE ha 10 hon
   exact VL (.slice A0_4 l0_4.length c0_4) (hK.out _ _ ⟨v911, v914, v917, PUT ha 11 hb, HM⟩)
  refine steps_cons ?_ ?_
  ·rintro b a w ⟨v911, v914, v917, ha, HM⟩ hb hon hoff
   refine ⟨_, rfl, fun K hK => ?_⟩
   replace ha := Aside0.mk ha
   have e14 := PE ha 11 hon
   refine ST (eC (some 15) rfl #[.slice A0_4 l0_4.length c0_4] rfl Try.func126 (impl_copyInts.calls _ _ l0_4 t916 _ (HM.came HR0_4.out) HC0_4.out A6.out) ?_ (hargs := by (simp only [List.map_toArray, List.map_cons, List.map_nil, evc, eval_of e14]) <;> rfl))
   rintro e w29 ⟨v917, rfl, hR⟩
   refine ⟨_, rfl, ?_⟩
   replace HM := HM.call hR
   clear hR
   exact hK.out _ _ ⟨v911, v914, v917, PUT (PCH ha 13 (hoff 13 (by kernel_rfl))) 12 hb, ((HM.sF 1 rfl (hoff 14 (by kernel_rfl))).iF 1 rfl (hoff 14 (by kernel_rfl))).pick [0, 1, 2, 3, 5]⟩
  refine steps_cons ?_ ?_
  ·rintro b a w ⟨v911, v914, v917, ha, HM⟩ hb hon hoff
   refine ⟨_, rfl, fun K hK => ?_⟩
   replace ha := Aside0.mk ha
   have HZ := HM
   replace HM := HM.sT 2 rfl (hon 6 (by kernel_rfl))
   replace HM := HM.sT 3 rfl (hon 9 (by kernel_rfl))
   replace HM := HM.sT 4 rfl (hon 12 (by kernel_rfl))
   obtain ⟨Xo30, ko30, eo30⟩ := HM.rdR 4 rfl
   subst eo30
   obtain ⟨Xo31, ko31, eo31⟩ := HM.rdR 3 rfl
   subst eo31
   obtain ⟨Xo32, ko32, eo32⟩ := HM.rdR 2 rfl
   subst eo32
   have e4 := PE ha 1 hon
   have e6 := PE ha 3 hon
   have e9 := PE ha 6 hon
   have e12 := PE ha 9 hon
   have e15 := PE ha 12 hon
   exact VL (.agg #[.int .i64 a0_0, .int .i64 a0_1, .slice Xo32 t910.length ko32, .slice Xo31 t913.length ko31, .slice Xo30 t916.length ko30]) (hK.out _ _ ⟨.slice Xo32 t910.length ko32, .slice Xo31 t913.length ko31, .slice Xo30 t916.length ko30, PUT ha 13 hb, HZ⟩)
  refine steps_cons ?_ ?_
  ·rintro b a w ⟨v911, v914, v917, ha, HM⟩ hb hon hoff
   refine ⟨_, rfl, fun K hK => ?_⟩
   replace ha := Aside0.mk ha
   replace HM := HM.sF 1 rfl hb
   replace HM := HM.sT 2 rfl (hon 6 (by kernel_rfl))
   replace HM := HM.sT 3 rfl (hon 9 (by kernel_rfl))
   replace HM := HM.sT 4 rfl (hon 12 (by kernel_rfl))
   obtain ⟨Xo33, ko33, eo33⟩ := HM.rdR 2 rfl
   subst eo33
   obtain ⟨Xo34, ko34, eo34⟩ := HM.rdR 3 rfl
   subst eo34
   obtain ⟨Xo35, ko35, eo35⟩ := HM.rdR 4 rfl
   subst eo35
   have e2 := PG ha 2
   have e16 := PE ha 13 hon
   refine ST (eS 1 2 0 [.int .i64 a0_0, .int .i64 a0_1, .slice Xo33 t910.length ko33, .slice Xo34 t913.length ko34, .slice Xo35 t916.length ko35] HM rfl rfl ?_ (hp := (eval_of e2)) (hx := (by rw [eval_of e16]; rfl)))
   clear HM
   intro w36 HM
   exact hK.out _ _ ⟨.slice Xo33 t910.length ko33, .slice Xo34 t913.length ko34, .slice Xo35 t916.length ko35, PUS ha, (((HM.iT 2 rfl (hon 6 (by kernel_rfl))).iT 3 rfl (hon 9 (by kernel_rfl))).iT 4 rfl (hon 12 (by kernel_rfl))).pick [0, 1, 2, 3, 4]⟩
  exact steps_nil
 rintro _ w37 ⟨v911, v914, v917, rfl, HM⟩
 replace HM := HM.sT 1 rfl rfl
 replace HM := HM.sT 2 rfl rfl
 replace HM := HM.sT 3 rfl rfl
 replace HM := HM.sT 4 rfl rfl
 simp only [putSel, if_true, Act.put, List.setIfInBounds_toArray, List.set_cons_zero, List.set_cons_succ, gt_iff_lt, ge_iff_le]
 simp only [Option.some.injEq, Prod.mk.injEq] at H
 obtain ⟨rfl, rfl, rfl, rfl, rfl⟩ := H
 go_wp2
 refine bodyPost_ret (results_cell_row rfl _ _ gb909 65 #[.int .i64 a0_0, .int .i64 a0_1, v911, v914, v917] (0, 0) _ rfl (HM.bx 1 rfl) Try.underlying65 rfl (by kernel_rfl)) rfl ?_
 exact ⟨_, _, _, ER, (MD HM).pick [2, 3, 4]⟩
end Go.Proofs.Ytanakbmhclpamaa.G

namespace Go.Proofs.Ytanakbmhclpamaa.G
open Go.RowKit Go.Proofs.YtanakbmhclpamaaW.PrintWords Go.Proofs.YtanakbmhclpamaaW.PrintLast Go.Proofs.YtanakbmhclpamaaW.PrintMore Go.Proofs.Ytanakbmhclpamaa.Sh
attribute [local go_sem] max2_int min2_int max_two min_two max_three min_three max_four min_four
set_option linter.unusedVariables false
set_option linter.unusedSimpArgs false
open Go.Proofs.Ytanakbmhclpamaa.Man
def impl_Three_item.f (l2 l3 : List S76) (a1 : ByteArray) : Option Int := (impl_itemAt.f l2 a1).bind fun a => if 0 ≤ a then some a else (impl_itemAt.f l3 a1).bind fun b => if 0 ≤ b then some ((l2.length : Int) + b) else some (-1)
def impl_Three_item.ptr (A2 A3 : Option Addr) (n : Nat) (r : Int) : Option Addr := if r < 0 then none else if r < (n : Int) then A2.map (·.add (r.toNat * 3)) else A3.map (·.add ((wrap64 (r - (n : Int))).toNat * 3))
theorem impl_Three_item.ptr_nil {A2 A3 : Option Addr} {n : Nat} {r : Int} (h : decide (r < 0) = true) : impl_Three_item.ptr A2 A3 n r = none := if_pos (of_decide_eq_true h)
theorem impl_Three_item.ptr_small {g : Nat} {A3 : Option Addr} {n : Nat} {r : Int} (h : decide (r < 0) = false) (h1 : decide (r < (n : Int)) = true) : impl_Three_item.ptr (some ⟨g, 0, none⟩) A3 n r = some ⟨g, r.toNat * 3, none⟩ := by
 refine (if_neg (of_decide_eq_false h)).trans ((if_pos (of_decide_eq_true h1)).trans ?_)
 rw [Option.map_some, add_plain]
theorem impl_Three_item.ptr_main {A2 : Option Addr} {g : Nat} {n : Nat} {r : Int} (h : decide (r < 0) = false) (h1 : decide (r < (n : Int)) = false) : impl_Three_item.ptr A2 (some ⟨g, 0, none⟩) n r = some ⟨g, (wrap64 (r - (n : Int))).toNat * 3, none⟩ := by
 refine (if_neg (of_decide_eq_false h)).trans ((if_neg (of_decide_eq_false h1)).trans ?_)
 rw [Option.map_some, add_plain]
theorem impl_Three_item.ptr_nil' {A2 A3 : Option Addr} {n : Nat} {r : Int} (h : decide (0 ≤ r) = false) : impl_Three_item.ptr A2 A3 n r = none := impl_Three_item.ptr_nil (decide_eq_true (by have := of_decide_eq_false h; omega))
theorem impl_Three_item.ptr_small' {g : Nat} {A3 : Option Addr} {n : Nat} {r : Int} (h : decide (0 ≤ r) = true) (h1 : decide (r < (n : Int)) = true) : impl_Three_item.ptr (some ⟨g, 0, none⟩) A3 n r = some ⟨g, r.toNat * 3, none⟩ := impl_Three_item.ptr_small (decide_eq_false (by have := of_decide_eq_true h; omega)) h1
theorem impl_Three_item.ptr_main' {A2 : Option Addr} {g : Nat} {n : Nat} {r : Int} (h : decide (0 ≤ r) = true) (h1 : decide (r < (n : Int)) = false) : impl_Three_item.ptr A2 (some ⟨g, 0, none⟩) n r = some ⟨g, (wrap64 (r - (n : Int))).toNat * 3, none⟩ := impl_Three_item.ptr_main (decide_eq_false (by have := of_decide_eq_true h; omega)) h1
theorem impl_itemAt.idx_lt (key : ByteArray) : ∀ (l : List S76) (i : Nat), impl_itemAt.idx key l i < ((i + l.length : Nat) : Int) ∧ (impl_itemAt.idx key l i = -1 ∨ 0 ≤ impl_itemAt.idx key l i)
 | [], i => ⟨by simp [impl_itemAt.idx]; omega, .inl rfl⟩
 | x :: r, i => by
  rw [impl_itemAt.idx]
  by_cases c : x.f0.toList = key.toList
  ·rw [if_pos c]; simp only [List.length_cons]; omega
  ·rw [if_neg c]
   have := impl_itemAt.idx_lt key r (i + 1)
   simp only [List.length_cons]
   omega
set_option maxHeartbeats 4000000 in
set_option maxRecDepth 100000 in
theorem impl_Three_item.calls (g : Nat) (a0 b0 : Int) (x4 : Value) (A2 : Option Addr) (c2 : Nat) (l2 : List S76) (A3 : Option Addr) (c3 : Nat) (l3 : List S76) (a1 : ByteArray) (r : Int) (w : World) (hr2 : Kd.C k76 w A2 l2.length l2) (hc2 : l2.length ≤ c2) (hr3 : Kd.C k76 w A3 l3.length l3) (hc3 : l3.length ≤ c3) (hb : w.heap[g]? = some (.cells #[.int .i64 a0, .int .i64 b0, .slice A2 l2.length c2, .slice A3 l3.length c3, x4] 65 (0, 0))) (h : impl_Three_item.f l2 l3 a1 = some r) :
  Calls Try.prog 116 #[.pointer (some ⟨g, 0, none⟩), .string a1] w fun e w' => e = .returned (.pointer (impl_Three_item.ptr A2 A3 l2.length r)) ∧ Below w.heap.size w w' := by
 have e1 : impl_itemAt.f l2 a1 = some (impl_itemAt.idx a1 l2 0) := rfl
 have e2 : impl_itemAt.f l3 a1 = some (impl_itemAt.idx a1 l3 0) := rfl
 have q1 := impl_itemAt.idx_lt a1 l2 0
 have q2 := impl_itemAt.idx_lt a1 l3 0
 have L2 : l2.length ≤ 9223372036854775807 := hr2.2.1
 have L3 : l3.length ≤ 9223372036854775807 := hr3.2.1
 have HB := Aside0.mk hb
 have HR2 := Aside0.mk hr2
 have HC2 := Aside0.mk hc2
 have HR3 := Aside0.mk hr3
 have HC3 := Aside0.mk hc3
 have hu45 := Try.underlying65
 have k0 : w.cell? ⟨g, 2, none⟩ = some (.slice A2 l2.length c2) := blk_cell hb 2
 unfold impl_Three_item.f at h
 rw [e1, Option.bind_some] at h
 obtain ⟨K1, hK1⟩ : ∃ K1, impl_itemAt.idx a1 l2 0 = K1 := ⟨_, rfl⟩
 rw [hK1] at h e1 q1
 clear hb hr2 hc2 hr3 hc3
 by_cases c1 : 0 ≤ K1
 ·rw [if_pos c1] at h
  obtain rfl := Option.some.inj h
  clear h
  have hlt : K1 < (l2.length : Int) := by have := q1.1; omega
  obtain ⟨ad, hA, _⟩ := at_T76 HR2.out K1 c1 hlt
  subst hA
  have hp : impl_Three_item.ptr (some ad) A3 l2.length K1 = some (ad.add (K1.toNat * 3)) := by
   unfold impl_Three_item.ptr
   rw [if_neg (by omega), if_pos hlt]; rfl
  rw [hp]
  have HE := Aside0.mk e1
  have d1 : decide (0 ≤ K1) = true := decide_eq_true c1
  replace c1 := eq_true c1
  replace hlt := eq_true hlt
  clear e1 e2 q1 q2 hK1 hp
  go_enter Try.func116, Try.ntmps116
  go_wp2_with fail
  refine (impl_itemAt.calls _ _ _ _ _ _ HR2.out HC2.out HE.out).mono ?_
  rintro e w1 ⟨rfl, hb1⟩
  have HB1 := Aside0.mk hb1
  have k1 : w1.cell? ⟨g, 2, none⟩ = some (.slice (some ad) l2.length c2) := blk_cell (blk_below HB.out hb1) 2
  clear hb1
  go_wp2
  go_ret
  exact ⟨rfl, HB1.out⟩
 ·rw [if_neg c1, e2, Option.bind_some] at h
  obtain ⟨K2, hK2⟩ : ∃ K2, impl_itemAt.idx a1 l3 0 = K2 := ⟨_, rfl⟩
  rw [hK2] at h e2 q2
  have k00 : w.cell? ⟨g, 3, none⟩ = some (.slice A3 l3.length c3) := blk_cell HB.out 3
  have d1 : decide (0 ≤ K1) = false := decide_eq_false c1
  by_cases c2' : 0 ≤ K2
  ·rw [if_pos c2'] at h
   obtain rfl := Option.some.inj h
   clear h
   have hlt : K2 < (l3.length : Int) := by have := q2.1; omega
   obtain ⟨ad, hA, _⟩ := at_T76 HR3.out K2 c2' hlt
   subst hA
   have hp : impl_Three_item.ptr A2 (some ad) l2.length ((l2.length : Int) + K2) = some (ad.add (K2.toNat * 3)) := by
    unfold impl_Three_item.ptr
    rw [if_neg (by omega), if_neg (by omega), show wrap64 ((l2.length : Int) + K2 - (l2.length : Int)) = K2 by unfold wrap64; omega]; rfl
   rw [hp]
   have HE := Aside0.mk e1
   have HE2 := Aside0.mk e2
   have d2 : decide (0 ≤ K2) = true := decide_eq_true c2'
   replace c2' := eq_true c2'
   replace hlt := eq_true hlt
   clear e1 e2 q1 q2 hK1 hK2 hp c1
   go_enter Try.func116, Try.ntmps116
   go_wp2_with fail
   refine (impl_itemAt.calls _ _ _ _ _ _ HR2.out HC2.out HE.out).mono ?_
   rintro e w1 ⟨rfl, hb1⟩
   have HB1 := Aside0.mk hb1
   have k1 : w1.cell? ⟨g, 2, none⟩ = some (.slice A2 l2.length c2) := blk_cell (blk_below HB.out hb1) 2
   have k11 : w1.cell? ⟨g, 3, none⟩ = some (.slice (some ad) l3.length c3) := blk_cell (blk_below HB.out hb1) 3
   clear hb1
   go_wp2_with fail
   refine (impl_itemAt.calls _ _ _ _ _ _ (Kd.C_below HR3.out HB1.out) HC3.out HE2.out).mono ?_
   rintro e w2 ⟨rfl, hb2⟩
   have HB2 := Aside0.mk (below_step HB1.out hb2)
   have k2 : w2.cell? ⟨g, 3, none⟩ = some (.slice (some ad) l3.length c3) := blk_cell (blk_below HB.out HB2.out) 3
   clear hb2
   go_wp2
   go_ret
   exact ⟨rfl, HB2.out⟩
  ·rw [if_neg c2'] at h
   obtain rfl := Option.some.inj h
   clear h
   have hp : impl_Three_item.ptr A2 A3 l2.length (-1) = none := by
    unfold impl_Three_item.ptr
    rw [if_pos (by omega)]
   rw [hp]
   have HE := Aside0.mk e1
   have HE2 := Aside0.mk e2
   have d2 : decide (0 ≤ K2) = false := decide_eq_false c2'
   clear e1 e2 q1 q2 hK1 hK2 hp c1 c2'
   go_enter Try.func116, Try.ntmps116
   go_wp2_with fail
   refine (impl_itemAt.calls _ _ _ _ _ _ HR2.out HC2.out HE.out).mono ?_
   rintro e w1 ⟨rfl, hb1⟩
   have HB1 := Aside0.mk hb1
   have k1 : w1.cell? ⟨g, 2, none⟩ = some (.slice A2 l2.length c2) := blk_cell (blk_below HB.out hb1) 2
   have k11 : w1.cell? ⟨g, 3, none⟩ = some (.slice A3 l3.length c3) := blk_cell (blk_below HB.out hb1) 3
   clear hb1
   go_wp2_with fail
   refine (impl_itemAt.calls _ _ _ _ _ _ (Kd.C_below HR3.out HB1.out) HC3.out HE2.out).mono ?_
   rintro e w2 ⟨rfl, hb2⟩
   have HB2 := Aside0.mk (below_step HB1.out hb2)
   clear hb2
   go_wp2
   go_ret
   exact ⟨rfl, HB2.out⟩
end Go.Proofs.Ytanakbmhclpamaa.G

namespace Go.Proofs.Ytanakbmhclpamaa.G
open Go.RowKit Go.Proofs.YtanakbmhclpamaaW.PrintWords Go.Proofs.YtanakbmhclpamaaW.PrintLast Go.Proofs.YtanakbmhclpamaaW.PrintMore Go.Proofs.Ytanakbmhclpamaa.Sh
attribute [local go_sem] max2_int min2_int max_two min_two max_three min_three max_four min_four
set_option linter.unusedVariables false
set_option linter.unusedSimpArgs false
open Go.Proofs.Ytanakbmhclpamaa.Mm
def impl_Get.f (k : Nat) (a0_0 : Int) (a0_1 : Int) (l0_2 : List (S76)) (l0_3 : List (S76)) (l0_4 : List Int) (a1 : ByteArray) : Option (Int × Int × (List (S76)) × (List (S76)) × List Int × ByteArray × Bool) := (impl_ThreeOk.f k a0_0 a0_1 l0_2 l0_3 l0_4).bind fun t921 => (if t921 = true then ((impl_copyThree.f a0_0 a0_1 l0_2 l0_3 l0_4).bind fun bt922 => ((impl_Three_item.f bt922.2.2.1 bt922.2.2.2.1 a1).bind fun t934 => (if t934 < 0 then (some (bt922.1, bt922.2.1, bt922.2.2.1, bt922.2.2.2.1, bt922.2.2.2.2, (⟨#[]⟩ : ByteArray), false)) else (if t934 < (bt922.2.2.1.length : Int) then (if 0 ≤ t934 then ((some (bt922.2.2.1.set (t934 : Int).toNat (⟨(rd_T76 bt922.2.2.1 t934).f0, (rd_T76 bt922.2.2.1 t934).f1, mn 3 (wrap64 (((rd_T76 bt922.2.2.1 t934).f2) + 1))⟩ : S76) : List (S76))).bind fun y935 => (some (bt922.1, bt922.2.1, y935, bt922.2.2.2.1, bt922.2.2.2.2, (rd_T76 y935 t934).f1, true))) else (none)) else (if 0 ≤ (wrap64 (t934 - (bt922.2.2.1.length : Int))) then (if (wrap64 (t934 - (bt922.2.2.1.length : Int))) < (bt922.2.2.2.1.length : Int) then ((some (bt922.2.2.2.1.set ((wrap64 (t934 - (bt922.2.2.1.length : Int))) : Int).toNat (⟨(rd_T76 bt922.2.2.2.1 (wrap64 (t934 - (bt922.2.2.1.length : Int)))).f0, (rd_T76 bt922.2.2.2.1 (wrap64 (t934 - (bt922.2.2.1.length : Int)))).f1, mn 3 (wrap64 (((rd_T76 bt922.2.2.2.1 (wrap64 (t934 - (bt922.2.2.1.length : Int)))).f2) + 1))⟩ : S76) : List (S76))).bind fun y937 => (some (bt922.1, bt922.2.1, bt922.2.2.1, y937, bt922.2.2.2.2, (rd_T76 y937 (wrap64 (t934 - (bt922.2.2.1.length : Int)))).f1, true))) else (none)) else (none)))))) else (some (0, 0, ([] : List (S76)), ([] : List (S76)), ([] : List Int), (⟨#[]⟩ : ByteArray), false)))
def impl_Get.T8 : Bool × List (List Nat × List Nat) := (true, [([], []), ([], []), ([1], [1]), ([2], [2]), ([3], [3]), ([0, 0], [0]), ([4, 5, 0, 1, 2, 3, 4, 5], [4]), ([6, 0, 1, 2, 3, 4, 5, 6], [])])
def impl_Get.B8 : List Nat := [0, 0, 2, 6, 14, 1, 63, 127]
theorem impl_Get.tab8 : rtab .any (opsOf Try.f98 8) = impl_Get.T8 := by kernel_rfl
theorem impl_Get.bits8 : waitsOk impl_Get.T8.2 impl_Get.B8 = true := by kernel_rfl
set_option maxHeartbeats 8000000 in
set_option maxRecDepth 100000 in
theorem impl_Get.calls (k : Nat) (a0_0 : Int) (a0_1 : Int) (A0_2 : Option Addr) (c0_2 : Nat) (l0_2 : List (S76)) (A0_3 : Option Addr) (c0_3 : Nat) (l0_3 : List (S76)) (A0_4 : Option Addr) (c0_4 : Nat) (l0_4 : List Int) (a1 : ByteArray) (r1 : Int) (r2 : Int) (r3 : List (S76)) (r4 : List (S76)) (r5 : List Int) (r6 : ByteArray) (r7 : Bool) (w : World) (hr0_2 : Kd.C k76 w A0_2 l0_2.length l0_2) (hc0_2 : l0_2.length ≤ c0_2) (hr0_3 : Kd.C k76 w A0_3 l0_3.length l0_3) (hc0_3 : l0_3.length ≤ c0_3) (hr0_4 : Kd.C (Kd.int .i64) w A0_4 l0_4.length l0_4) (hc0_4 : l0_4.length ≤ c0_4) (h : impl_Get.f k a0_0 a0_1 l0_2 l0_3 l0_4 a1 = some (r1, r2, r3, r4, r5, r6, r7)) :
  Calls Try.prog 98 #[.agg #[.int .i64 a0_0, .int .i64 a0_1, .slice A0_2 l0_2.length c0_2, .slice A0_3 l0_3.length c0_3, .slice A0_4 l0_4.length c0_4], .string a1] w fun e w' => ∃ v2_ v3_ v4_ : Value, e = .returned (.tuple #[.agg #[.int .i64 r1, .int .i64 r2, v2_, v3_, v4_], .string r6, .bool r7]) ∧ Mem w [] w' [rowR k76 76 v2_ r3, rowR k76 76 v3_ r4, rowR (Kd.int .i64) 3 v4_ r5] := by
 have hu65 := Try.underlying65
 have HR0_2 := Aside0.mk hr0_2
 have HC0_2 := Aside0.mk hc0_2
 clear hr0_2 hc0_2
 have HR0_3 := Aside0.mk hr0_3
 have HC0_3 := Aside0.mk hc0_3
 clear hr0_3 hc0_3
 have HR0_4 := Aside0.mk hr0_4
 have HC0_4 := Aside0.mk hc0_4
 clear hr0_4 hc0_4
 have HM := Mem.nil w
 have H := h
 clear h
 unfold impl_Get.f at H
 go_enter Try.func98, Try.ntmps98
 replace H := BN H; obtain ⟨t921, A6, H⟩ := H
 replace H := IB H
 rcases H with ⟨c8, H⟩ | ⟨c8, H⟩
 ·subst c8
  replace H := BN H; obtain ⟨⟨t922, t923, t924, t927, t930⟩, A10, H⟩ := H
  replace H := BN H; obtain ⟨t934, A18, H⟩ := H
  replace H := IT H; rcases H with ⟨c20, H⟩ | ⟨c20, H⟩
  ·have c20b0 : decide (t934 < 0) = true := decide_eq_true c20
   clear c20
   simp only [Option.some.injEq, Prod.mk.injEq] at H
   obtain ⟨rfl, rfl, rfl, rfl, rfl, rfl, rfl⟩ := H
   go_wp2_with (first | ((with_reducible refine gN 2 rfl ?_); refine pB 2 65 [.int .i64 a0_0, .int .i64 a0_1, .slice A0_2 l0_2.length c0_2, .slice A0_3 l0_3.length c0_3, .slice A0_4 l0_4.length c0_4] HM rfl ?_; clear HM; intro gb919 w3 HM) | ((with_reducible refine gN 4 rfl ?_); refine pB 4 65 [.int .i64 0, .int .i64 0, .slice none 0 0, .slice none 0 0, .slice none 0 0] HM rfl ?_; clear HM; intro gb920 w4 HM; obtain ⟨z5_0, z5_1, z5_2, z5_3, z5_4, Z5_0, Z5_1, Z5_2, Z5_3, Z5_4⟩ := bk5 (HM.bx 0 rfl)) | ((with_reducible refine gC 90 rfl ?_); refine pC (some 10) rfl #[.agg #[.int .i64 a0_0, .int .i64 a0_1, .slice A0_2 l0_2.length c0_2, .slice A0_3 l0_3.length c0_3, .slice A0_4 l0_4.length c0_4]] rfl Try.func90 (impl_ThreeOk.calls k a0_0 a0_1 _ _ l0_2 _ _ l0_3 _ _ l0_4 true _ (HM.came HR0_2.out) HC0_2.out (HM.came HR0_3.out) HC0_3.out (HM.came HR0_4.out) HC0_4.out A6.out) ?_; rintro e w7 ⟨rfl, hR⟩; refine ⟨_, rfl, ?_⟩; replace HM := HM.call hR; clear hR; obtain ⟨z9_0, z9_1, z9_2, z9_3, z9_4, Z9_0, Z9_1, Z9_2, Z9_3, Z9_4⟩ := bk5 (HM.bx 0 rfl)) | ((with_reducible refine gC 115 rfl ?_); refine pC (some 14) rfl #[.agg #[.int .i64 a0_0, .int .i64 a0_1, .slice A0_2 l0_2.length c0_2, .slice A0_3 l0_3.length c0_3, .slice A0_4 l0_4.length c0_4]] rfl Try.func115 (impl_copyThree.calls a0_0 a0_1 _ _ l0_2 _ _ l0_3 _ _ l0_4 t922 t923 t924 t927 t930 _ (HM.came HR0_2.out) HC0_2.out (HM.came HR0_3.out) HC0_3.out (HM.came HR0_4.out) HC0_4.out A10.out) ?_; rintro e w11 ⟨v925, v928, v931, rfl, hR⟩; refine ⟨_, rfl, ?_⟩; replace HM := HM.call hR; clear hR) | ((with_reducible refine gN 7 rfl ?_); refine pB 7 65 [.int .i64 0, .int .i64 0, .slice none 0 0, .slice none 0 0, .slice none 0 0] HM rfl ?_; clear HM; intro gb933 w12 HM; obtain ⟨Xo13, ko13, eo13⟩ := HM.rdR 2 rfl; subst eo13; obtain ⟨Xo14, ko14, eo14⟩ := HM.rdR 3 rfl; subst eo14; obtain ⟨Xo15, ko15, eo15⟩ := HM.rdR 4 rfl; subst eo15) | ((with_reducible refine gS 7 rfl ?_); refine pS 5 7 0 [.int .i64 t922, .int .i64 t923, .slice Xo13 t924.length ko13, .slice Xo14 t927.length ko14, .slice Xo15 t930.length ko15] HM rfl rfl ?_; clear HM; intro w16 HM; obtain ⟨z17_0, z17_1, z17_2, z17_3, z17_4, Z17_0, Z17_1, Z17_2, Z17_3, Z17_4⟩ := bk5 (HM.bx 5 rfl)) | ((with_reducible refine gC 116 rfl ?_); refine pC (some 16) rfl #[.pointer (some ⟨gb933, 0, none⟩), .string a1] rfl Try.func116 (impl_Three_item.calls gb933 t922 t923 (.slice Xo15 t930.length ko15) Xo13 ko13 t924 Xo14 ko14 t927 a1 t934 _ (HM.CR 2 rfl).2.2 (HM.CR 2 rfl).2.1 (HM.CR 3 rfl).2.2 (HM.CR 3 rfl).2.1 (HM.bx 5 rfl) A18.out) ?_; rintro e w19 ⟨rfl, hb⟩; refine ⟨_, rfl, ?_⟩; replace HM := HM.below hb; clear hb; (first | rw [impl_Three_item.ptr_nil (by assumption)] | rw [impl_Three_item.ptr_small (by assumption) (by assumption)] | rw [impl_Three_item.ptr_main (by assumption) (by assumption)] | rw [impl_Three_item.ptr_nil' (by assumption)] | rw [impl_Three_item.ptr_small' (by assumption) (by assumption)] | rw [impl_Three_item.ptr_main' (by assumption) (by assumption)]); obtain ⟨z21_0, z21_1, z21_2, z21_3, z21_4, Z21_0, Z21_1, Z21_2, Z21_3, Z21_4⟩ := bk5 (HM.bx 5 rfl)) | ((with_reducible refine gS 4 rfl ?_); refine pS 1 4 0 [.int .i64 t922, .int .i64 t923, .slice Xo13 t924.length ko13, .slice Xo14 t927.length ko14, .slice Xo15 t930.length ko15] HM rfl rfl ?_; clear HM; intro w22 HM))
   refine bodyPost_ret (results_ctt rfl _ _ gb920 65 #[.int .i64 t922, .int .i64 t923, .slice Xo13 t924.length ko13, .slice Xo14 t927.length ko14, .slice Xo15 t930.length ko15] (0, 0) _ rfl (HM.bx 1 rfl) Try.underlying65 rfl (by kernel_rfl)) rfl ?_
   exact ⟨_, _, _, ER, (MD HM).pick [2, 3, 4]⟩
  ·have c20b0 : decide (t934 < 0) = false := decide_eq_false c20
   clear c20
   replace H := IT H; rcases H with ⟨c24, H⟩ | ⟨c24, H⟩
   ·have c24b0 : decide (t934 < (t924.length : Int)) = true := decide_eq_true c24
    clear c24
    replace H := GD H; obtain ⟨c25, H⟩ := H
    have c25b0 : decide (0 ≤ t934) = true := decide_eq_true c25
    clear c25
    obtain ⟨ji28, hji28⟩ : ∃ j_ : Int, (mn 3 (wrap64 (((rd_T76 t924 t934).f2) + 1))) = j_ := ⟨_, rfl⟩
    (first | rw [hji28] at H | simp only [hji28] at H | skip)
    have hji28_ : (if (wrap64 (((rd_T76 t924 t934).f2) + 1)) < 3 then (wrap64 (((rd_T76 t924 t934).f2) + 1)) else 3) = ji28 := hji28
    (try (have hji28h : ji28 ≤ 3 := by (rw [← hji28]; unfold mn; (repeat' split) <;> omega)))
    replace H := BLt H; obtain ⟨y935, Ny935, H⟩ := H
    replace Ny935 := Aside0.mk Ny935
    try go_wp2_with (first | ((with_reducible refine gN 2 rfl ?_); refine pB 2 65 [.int .i64 a0_0, .int .i64 a0_1, .slice A0_2 l0_2.length c0_2, .slice A0_3 l0_3.length c0_3, .slice A0_4 l0_4.length c0_4] HM rfl ?_; clear HM; intro gb919 w3 HM) | ((with_reducible refine gN 4 rfl ?_); refine pB 4 65 [.int .i64 0, .int .i64 0, .slice none 0 0, .slice none 0 0, .slice none 0 0] HM rfl ?_; clear HM; intro gb920 w4 HM; obtain ⟨z5_0, z5_1, z5_2, z5_3, z5_4, Z5_0, Z5_1, Z5_2, Z5_3, Z5_4⟩ := bk5 (HM.bx 0 rfl)) | ((with_reducible refine gC 90 rfl ?_); refine pC (some 10) rfl #[.agg #[.int .i64 a0_0, .int .i64 a0_1, .slice A0_2 l0_2.length c0_2, .slice A0_3 l0_3.length c0_3, .slice A0_4 l0_4.length c0_4]] rfl Try.func90 (impl_ThreeOk.calls k a0_0 a0_1 _ _ l0_2 _ _ l0_3 _ _ l0_4 true _ (HM.came HR0_2.out) HC0_2.out (HM.came HR0_3.out) HC0_3.out (HM.came HR0_4.out) HC0_4.out A6.out) ?_; rintro e w7 ⟨rfl, hR⟩; refine ⟨_, rfl, ?_⟩; replace HM := HM.call hR; clear hR; obtain ⟨z9_0, z9_1, z9_2, z9_3, z9_4, Z9_0, Z9_1, Z9_2, Z9_3, Z9_4⟩ := bk5 (HM.bx 0 rfl)) | ((with_reducible refine gC 115 rfl ?_); refine pC (some 14) rfl #[.agg #[.int .i64 a0_0, .int .i64 a0_1, .slice A0_2 l0_2.length c0_2, .slice A0_3 l0_3.length c0_3, .slice A0_4 l0_4.length c0_4]] rfl Try.func115 (impl_copyThree.calls a0_0 a0_1 _ _ l0_2 _ _ l0_3 _ _ l0_4 t922 t923 t924 t927 t930 _ (HM.came HR0_2.out) HC0_2.out (HM.came HR0_3.out) HC0_3.out (HM.came HR0_4.out) HC0_4.out A10.out) ?_; rintro e w11 ⟨v925, v928, v931, rfl, hR⟩; refine ⟨_, rfl, ?_⟩; replace HM := HM.call hR; clear hR) | ((with_reducible refine gN 7 rfl ?_); refine pB 7 65 [.int .i64 0, .int .i64 0, .slice none 0 0, .slice none 0 0, .slice none 0 0] HM rfl ?_; clear HM; intro gb933 w12 HM; obtain ⟨Xo13, ko13, eo13⟩ := HM.rdR 2 rfl; subst eo13; obtain ⟨Xo14, ko14, eo14⟩ := HM.rdR 3 rfl; subst eo14; obtain ⟨Xo15, ko15, eo15⟩ := HM.rdR 4 rfl; subst eo15) | ((with_reducible refine gS 7 rfl ?_); refine pS 5 7 0 [.int .i64 t922, .int .i64 t923, .slice Xo13 t924.length ko13, .slice Xo14 t927.length ko14, .slice Xo15 t930.length ko15] HM rfl rfl ?_; clear HM; intro w16 HM; obtain ⟨z17_0, z17_1, z17_2, z17_3, z17_4, Z17_0, Z17_1, Z17_2, Z17_3, Z17_4⟩ := bk5 (HM.bx 5 rfl)) | ((with_reducible refine gC 116 rfl ?_); refine pC (some 16) rfl #[.pointer (some ⟨gb933, 0, none⟩), .string a1] rfl Try.func116 (impl_Three_item.calls gb933 t922 t923 (.slice Xo15 t930.length ko15) Xo13 ko13 t924 Xo14 ko14 t927 a1 t934 _ (HM.CR 2 rfl).2.2 (HM.CR 2 rfl).2.1 (HM.CR 3 rfl).2.2 (HM.CR 3 rfl).2.1 (HM.bx 5 rfl) A18.out) ?_; rintro e w19 ⟨rfl, hb⟩; refine ⟨_, rfl, ?_⟩; replace HM := HM.below hb; clear hb; have pf27 : 0 ≤ (t934 : Int) := of_decide_eq_true AS; have qf27 : (t934 : Int) < ((t924.length : Int) : Int) := of_decide_eq_true AS; obtain ⟨gof27, eff27⟩ := HM.form 2 rfl (by have h_ := (HM.CR 2 rfl).1; omega); subst eff27; clear pf27 qf27; (first | rw [impl_Three_item.ptr_nil (by assumption)] | rw [impl_Three_item.ptr_small (by assumption) (by assumption)] | rw [impl_Three_item.ptr_main (by assumption) (by assumption)] | rw [impl_Three_item.ptr_nil' (by assumption)] | rw [impl_Three_item.ptr_small' (by assumption) (by assumption)] | rw [impl_Three_item.ptr_main' (by assumption) (by assumption)]); obtain ⟨z23_0, z23_1, z23_2, z23_3, z23_4, Z23_0, Z23_1, Z23_2, Z23_3, Z23_4⟩ := bk5 (HM.bx 5 rfl); have p26 : 0 ≤ (t934 : Int) := of_decide_eq_true AS; have q26 : (t934 : Int) < ((t924.length : Int) : Int) := of_decide_eq_true AS; obtain ⟨hx26_0, hx26_1, hx26_2, hf26_0, hf26_1, hf26_2⟩ := HM.el3 2 rfl z76 (t934 : Int) p26 (by have h_ := (HM.CR 2 rfl).1; omega) (.string ((rd_T76 t924 t934).f0)) (.string ((rd_T76 t924 t934).f1)) (.int .i64 ((rd_T76 t924 t934).f2)) (fun _ _ h => k76_openM h); replace p26 := eq_true p26; replace q26 := eq_true q26) | ((with_reducible refine gS 28 rfl ?_); refine pPR 2 28 (t934 : Int) 2 [.int .i64 ji28] k76 76 t924 (⟨(rd_T76 t924 t934).f0, (rd_T76 t924 t934).f1, ji28⟩ : S76) z76 [.string ((rd_T76 t924 t934).f0), .string ((rd_T76 t924 t934).f1), .int .i64 ((rd_T76 t924 t934).f2)] HM rfl rfl (of_decide_eq_true AS) (by have h_ : (t934 : Int) < ((t924.length : Int) : Int) := of_decide_eq_true AS; have e_ := (HM.CR 2 rfl).1; omega) (fun _ _ h => k76_openM h) (k76_mkM _ _ _ (⟨(rd_T76 t924 t934).f0, (rd_T76 t924 t934).f1, ji28⟩ : S76)) ?_; clear HM; intro w29 HM; replace HM := HM.nm 2 rfl Ny935.out; have p30 : 0 ≤ (t934 : Int) := of_decide_eq_true AS; have q30 : (t934 : Int) < ((t924.length : Int) : Int) := of_decide_eq_true AS; obtain ⟨hx30_0, hx30_1, hx30_2, hf30_0, hf30_1, hf30_2⟩ := HM.el3 2 rfl z76 (t934 : Int) p30 (by have h_ := (HM.CR 2 rfl).1; omega) (.string ((rd_T76 y935 t934).f0)) (.string ((rd_T76 y935 t934).f1)) (.int .i64 ((rd_T76 y935 t934).f2)) (fun _ _ h => k76_openM h); replace p30 := eq_true p30; replace q30 := eq_true q30))
    have p936 : 0 ≤ (t934 : Int) := of_decide_eq_true AS
    have q936 : (t934 : Int) < (y935.length : Int) := (by have h_ : (t934 : Int) < ((t924.length : Int) : Int) := of_decide_eq_true AS; first | exact h_ | (simp only [Ny935.out, List.length_set] at h_ ⊢; exact h_))
    have ql936 : ((t934 : Int) < ((t924.length : Int) : Int)) = True := eq_true (of_decide_eq_true AS)
    obtain ⟨ad936, e936, hx936_0, hx936_1, hx936_2⟩ := at_T76 (HM.CR 2 rfl).2.2 t934 p936 q936
    obtain rfl := Option.some.inj e936
    (first | simp only [add_plain] at hx936_0 | simp only [add_at] at hx936_0 | simp only [Addr.add, Nat.zero_add] at hx936_0 | skip)
    (first | simp only [add_plain] at hx936_1 | simp only [add_at] at hx936_1 | simp only [Addr.add, Nat.zero_add] at hx936_1 | skip)
    (first | simp only [add_plain] at hx936_2 | simp only [add_at] at hx936_2 | simp only [Addr.add, Nat.zero_add] at hx936_2 | skip)
    replace p936 := eq_true p936
    replace q936 := eq_true q936
    refine RGN 8 [0, 1, 2, 3, 4, 5, 6, 7] (fun a0 b a w' => a = putSel a0 b [(0, 29, .agg #[.int .i64 t922, .int .i64 t923, .slice (some ⟨gof27, 0, none⟩) t924.length ko13, .slice Xo14 t927.length ko14, .slice Xo15 t930.length ko15]), (1, 30, .pointer (some ⟨gof27, (t934 : Int).toNat * 3, none⟩)), (2, 31, .pointer (some ⟨gof27, (t934 : Int).toNat * 3, none⟩)), (3, 32, .pointer (some ⟨gof27, (t934 : Int).toNat * 3 + 1, none⟩)), (4, 33, .string ((rd_T76 y935 t934).f1)), (6, 5, .string ((rd_T76 y935 t934).f1)), (7, 6, .bool true)] ∧ Mem w [] w' [box 65 gb919 [.int .i64 a0_0, .int .i64 a0_1, .slice A0_2 l0_2.length c0_2, .slice A0_3 l0_3.length c0_3, .slice A0_4 l0_4.length c0_4], sel (b 5) (box 65 gb920 [.int .i64 t922, .int .i64 t923, .slice (some ⟨gof27, 0, none⟩) t924.length ko13, .slice Xo14 t927.length ko14, .slice Xo15 t930.length ko15]) (box 65 gb920 [.int .i64 0, .int .i64 0, .slice none 0 0, .slice none 0 0, .slice none 0 0]), rowR k76 76 (.slice (some ⟨gof27, 0, none⟩) t924.length ko13) y935, rowR k76 76 (.slice Xo14 t927.length ko14) t927, rowR (Kd.int .i64) 3 (.slice Xo15 t930.length ko15) t930, box 65 gb933 [.int .i64 t922, .int .i64 t923, .slice (some ⟨gof27, 0, none⟩) t924.length ko13, .slice Xo14 t927.length ko14, .slice Xo15 t930.length ko15]]) impl_Get.tab8 impl_Get.bits8 ?_ ?_ ?_
    ·exact ⟨PS0' rfl _, (HM.drew).pick [0, 1, 2, 3, 4, 5]⟩
    ·clear HM
     refine SY ?_ ?_
     ·intro b a w ha HM hb hon hoff K hK
      obtain ⟨z33_0, z33_1, z33_2, z33_3, z33_4, Z33_0, Z33_1, Z33_2, Z33_3, Z33_4⟩ := bk5 (HM.bx 5 rfl)
      have e7 := PG ha 7
      exact VL (.agg #[.int .i64 t922, .int .i64 t923, .slice (some ⟨gof27, 0, none⟩) t924.length ko13, .slice Xo14 t927.length ko14, .slice Xo15 t930.length ko15]) (hK.out _ _ ⟨PUT ha 0 hb, HM⟩)
     refine SY ?_ ?_
     ·intro b a w ha HM hb hon hoff K hK
      have e8 := PG ha 8
      exact VL (.pointer (some ⟨gof27, (t934 : Int).toNat * 3, none⟩)) (hK.out _ _ ⟨PUT ha 1 hb, HM⟩)
     refine SY ?_ ?_
     ·intro b a w ha HM hb hon hoff K hK
      have e30 := PE ha 1 hon
      exact VL (.pointer (some ⟨gof27, (t934 : Int).toNat * 3, none⟩)) (hK.out _ _ ⟨PUT ha 2 hb, HM⟩)
     refine SY ?_ ?_
     ·intro b a w ha HM hb hon hoff K hK
      have e31 := PE ha 2 hon
      exact VL (.pointer (some ⟨gof27, (t934 : Int).toNat * 3 + 1, none⟩)) (hK.out _ _ ⟨PUT ha 3 hb, HM⟩)
     refine SY ?_ ?_
     ·intro b a w ha HM hb hon hoff K hK
      have p936 : 0 ≤ (t934 : Int) := of_decide_eq_true AS
      have q936 : (t934 : Int) < (y935.length : Int) := (by have h_ : (t934 : Int) < ((t924.length : Int) : Int) := of_decide_eq_true AS; first | exact h_ | (simp only [Ny935.out, List.length_set] at h_ ⊢; exact h_))
      have ql936 : ((t934 : Int) < ((t924.length : Int) : Int)) = True := eq_true (of_decide_eq_true AS)
      obtain ⟨ad936, e936, hx936_0, hx936_1, hx936_2⟩ := at_T76 (HM.CR 2 rfl).2.2 t934 p936 q936
      obtain rfl := Option.some.inj e936
      (first | simp only [add_plain] at hx936_0 | simp only [add_at] at hx936_0 | simp only [Addr.add, Nat.zero_add] at hx936_0 | skip)
      (first | simp only [add_plain] at hx936_1 | simp only [add_at] at hx936_1 | simp only [Addr.add, Nat.zero_add] at hx936_1 | skip)
      (first | simp only [add_plain] at hx936_2 | simp only [add_at] at hx936_2 | simp only [Addr.add, Nat.zero_add] at hx936_2 | skip)
      replace p936 := eq_true p936
      replace q936 := eq_true q936
      have e32 := PE ha 3 hon
      exact VL (.string ((rd_T76 y935 t934).f1)) (hK.out _ _ ⟨PUT ha 4 hb, HM⟩)
     refine SY ?_ ?_
     ·intro b a w ha HM hb hon hoff K hK
      replace HM := HM.sF 1 rfl hb
      have e4 := PG ha 4
      have e29 := PE ha 0 hon
      refine ST (eS 1 4 0 [.int .i64 t922, .int .i64 t923, .slice (some ⟨gof27, 0, none⟩) t924.length ko13, .slice Xo14 t927.length ko14, .slice Xo15 t930.length ko15] HM rfl rfl ?_ (hp := (eval_of e4)) (hx := (by rw [eval_of e29]; rfl)))
      clear HM
      intro w34 HM
      exact hK.out _ _ ⟨PUS ha, (HM).pick [0, 1, 2, 3, 4, 5]⟩
     refine SY ?_ ?_
     ·intro b a w ha HM hb hon hoff K hK
      have e33 := PE ha 4 hon
      exact VL (.string ((rd_T76 y935 t934).f1)) (hK.out _ _ ⟨PUT ha 5 hb, HM⟩)
     refine SY ?_ ?_
     ·intro b a w ha HM hb hon hoff K hK
      exact VL (.bool true) (hK.out _ _ ⟨PUT ha 6 hb, HM⟩)
     exact steps_nil
    rintro _ w35 ⟨rfl, HM⟩
    replace HM := HM.sT 1 rfl rfl
    simp only [putSel, if_true, Act.put, List.setIfInBounds_toArray, List.set_cons_zero, List.set_cons_succ, gt_iff_lt, ge_iff_le]
    simp only [Option.some.injEq, Prod.mk.injEq] at H
    obtain ⟨rfl, rfl, rfl, rfl, rfl, rfl, rfl⟩ := H
    go_wp2
    refine bodyPost_ret (results_ctt rfl _ _ gb920 65 #[.int .i64 t922, .int .i64 t923, .slice (some ⟨gof27, 0, none⟩) t924.length ko13, .slice Xo14 t927.length ko14, .slice Xo15 t930.length ko15] (0, 0) _ rfl (HM.bx 1 rfl) Try.underlying65 rfl (by kernel_rfl)) rfl ?_
    exact ⟨_, _, _, ER, (MD HM).pick [2, 3, 4]⟩
   ·have c24b0 : decide (t934 < (t924.length : Int)) = false := decide_eq_false c24
    clear c24
    replace H := GD H; obtain ⟨c36, H⟩ := H
    have c36b0 : decide (0 ≤ (wrap64 (t934 - (t924.length : Int)))) = true := decide_eq_true c36
    clear c36
    replace H := GD H; obtain ⟨c37, H⟩ := H
    have c37b0 : decide ((wrap64 (t934 - (t924.length : Int))) < (t927.length : Int)) = true := decide_eq_true c37
    clear c37
    obtain ⟨ji40, hji40⟩ : ∃ j_ : Int, (mn 3 (wrap64 (((rd_T76 t927 (wrap64 (t934 - (t924.length : Int)))).f2) + 1))) = j_ := ⟨_, rfl⟩
    (first | rw [hji40] at H | simp only [hji40] at H | skip)
    have hji40_ : (if (wrap64 (((rd_T76 t927 (wrap64 (t934 - (t924.length : Int)))).f2) + 1)) < 3 then (wrap64 (((rd_T76 t927 (wrap64 (t934 - (t924.length : Int)))).f2) + 1)) else 3) = ji40 := hji40
    (try (have hji40h : ji40 ≤ 3 := by (rw [← hji40]; unfold mn; (repeat' split) <;> omega)))
    replace H := BLt H; obtain ⟨y937, Ny937, H⟩ := H
    replace Ny937 := Aside0.mk Ny937
    try go_wp2_with (first | ((with_reducible refine gN 2 rfl ?_); refine pB 2 65 [.int .i64 a0_0, .int .i64 a0_1, .slice A0_2 l0_2.length c0_2, .slice A0_3 l0_3.length c0_3, .slice A0_4 l0_4.length c0_4] HM rfl ?_; clear HM; intro gb919 w3 HM) | ((with_reducible refine gN 4 rfl ?_); refine pB 4 65 [.int .i64 0, .int .i64 0, .slice none 0 0, .slice none 0 0, .slice none 0 0] HM rfl ?_; clear HM; intro gb920 w4 HM; obtain ⟨z5_0, z5_1, z5_2, z5_3, z5_4, Z5_0, Z5_1, Z5_2, Z5_3, Z5_4⟩ := bk5 (HM.bx 0 rfl)) | ((with_reducible refine gC 90 rfl ?_); refine pC (some 10) rfl #[.agg #[.int .i64 a0_0, .int .i64 a0_1, .slice A0_2 l0_2.length c0_2, .slice A0_3 l0_3.length c0_3, .slice A0_4 l0_4.length c0_4]] rfl Try.func90 (impl_ThreeOk.calls k a0_0 a0_1 _ _ l0_2 _ _ l0_3 _ _ l0_4 true _ (HM.came HR0_2.out) HC0_2.out (HM.came HR0_3.out) HC0_3.out (HM.came HR0_4.out) HC0_4.out A6.out) ?_; rintro e w7 ⟨rfl, hR⟩; refine ⟨_, rfl, ?_⟩; replace HM := HM.call hR; clear hR; obtain ⟨z9_0, z9_1, z9_2, z9_3, z9_4, Z9_0, Z9_1, Z9_2, Z9_3, Z9_4⟩ := bk5 (HM.bx 0 rfl)) | ((with_reducible refine gC 115 rfl ?_); refine pC (some 14) rfl #[.agg #[.int .i64 a0_0, .int .i64 a0_1, .slice A0_2 l0_2.length c0_2, .slice A0_3 l0_3.length c0_3, .slice A0_4 l0_4.length c0_4]] rfl Try.func115 (impl_copyThree.calls a0_0 a0_1 _ _ l0_2 _ _ l0_3 _ _ l0_4 t922 t923 t924 t927 t930 _ (HM.came HR0_2.out) HC0_2.out (HM.came HR0_3.out) HC0_3.out (HM.came HR0_4.out) HC0_4.out A10.out) ?_; rintro e w11 ⟨v925, v928, v931, rfl, hR⟩; refine ⟨_, rfl, ?_⟩; replace HM := HM.call hR; clear hR) | ((with_reducible refine gN 7 rfl ?_); refine pB 7 65 [.int .i64 0, .int .i64 0, .slice none 0 0, .slice none 0 0, .slice none 0 0] HM rfl ?_; clear HM; intro gb933 w12 HM; obtain ⟨Xo13, ko13, eo13⟩ := HM.rdR 2 rfl; subst eo13; obtain ⟨Xo14, ko14, eo14⟩ := HM.rdR 3 rfl; subst eo14; obtain ⟨Xo15, ko15, eo15⟩ := HM.rdR 4 rfl; subst eo15) | ((with_reducible refine gS 7 rfl ?_); refine pS 5 7 0 [.int .i64 t922, .int .i64 t923, .slice Xo13 t924.length ko13, .slice Xo14 t927.length ko14, .slice Xo15 t930.length ko15] HM rfl rfl ?_; clear HM; intro w16 HM; obtain ⟨z17_0, z17_1, z17_2, z17_3, z17_4, Z17_0, Z17_1, Z17_2, Z17_3, Z17_4⟩ := bk5 (HM.bx 5 rfl)) | ((with_reducible refine gC 116 rfl ?_); refine pC (some 16) rfl #[.pointer (some ⟨gb933, 0, none⟩), .string a1] rfl Try.func116 (impl_Three_item.calls gb933 t922 t923 (.slice Xo15 t930.length ko15) Xo13 ko13 t924 Xo14 ko14 t927 a1 t934 _ (HM.CR 2 rfl).2.2 (HM.CR 2 rfl).2.1 (HM.CR 3 rfl).2.2 (HM.CR 3 rfl).2.1 (HM.bx 5 rfl) A18.out) ?_; rintro e w19 ⟨rfl, hb⟩; refine ⟨_, rfl, ?_⟩; replace HM := HM.below hb; clear hb; have pf39 : 0 ≤ ((wrap64 (t934 - (t924.length : Int))) : Int) := of_decide_eq_true AS; have qf39 : ((wrap64 (t934 - (t924.length : Int))) : Int) < ((t927.length : Int) : Int) := of_decide_eq_true AS; obtain ⟨gof39, eff39⟩ := HM.form 3 rfl (by have h_ := (HM.CR 3 rfl).1; omega); subst eff39; clear pf39 qf39; (first | rw [impl_Three_item.ptr_nil (by assumption)] | rw [impl_Three_item.ptr_small (by assumption) (by assumption)] | rw [impl_Three_item.ptr_main (by assumption) (by assumption)] | rw [impl_Three_item.ptr_nil' (by assumption)] | rw [impl_Three_item.ptr_small' (by assumption) (by assumption)] | rw [impl_Three_item.ptr_main' (by assumption) (by assumption)]); obtain ⟨z23_0, z23_1, z23_2, z23_3, z23_4, Z23_0, Z23_1, Z23_2, Z23_3, Z23_4⟩ := bk5 (HM.bx 5 rfl); have p38 : 0 ≤ ((wrap64 (t934 - (t924.length : Int))) : Int) := of_decide_eq_true AS; have q38 : ((wrap64 (t934 - (t924.length : Int))) : Int) < ((t927.length : Int) : Int) := of_decide_eq_true AS; obtain ⟨hx38_0, hx38_1, hx38_2, hf38_0, hf38_1, hf38_2⟩ := HM.el3 3 rfl z76 ((wrap64 (t934 - (t924.length : Int))) : Int) p38 (by have h_ := (HM.CR 3 rfl).1; omega) (.string ((rd_T76 t927 (wrap64 (t934 - (t924.length : Int)))).f0)) (.string ((rd_T76 t927 (wrap64 (t934 - (t924.length : Int)))).f1)) (.int .i64 ((rd_T76 t927 (wrap64 (t934 - (t924.length : Int)))).f2)) (fun _ _ h => k76_openM h); replace p38 := eq_true p38; replace q38 := eq_true q38) | ((with_reducible refine gS 28 rfl ?_); refine pPR 3 28 ((wrap64 (t934 - (t924.length : Int))) : Int) 2 [.int .i64 ji40] k76 76 t927 (⟨(rd_T76 t927 (wrap64 (t934 - (t924.length : Int)))).f0, (rd_T76 t927 (wrap64 (t934 - (t924.length : Int)))).f1, ji40⟩ : S76) z76 [.string ((rd_T76 t927 (wrap64 (t934 - (t924.length : Int)))).f0), .string ((rd_T76 t927 (wrap64 (t934 - (t924.length : Int)))).f1), .int .i64 ((rd_T76 t927 (wrap64 (t934 - (t924.length : Int)))).f2)] HM rfl rfl (of_decide_eq_true AS) (by have h_ : ((wrap64 (t934 - (t924.length : Int))) : Int) < ((t927.length : Int) : Int) := of_decide_eq_true AS; have e_ := (HM.CR 3 rfl).1; omega) (fun _ _ h => k76_openM h) (k76_mkM _ _ _ (⟨(rd_T76 t927 (wrap64 (t934 - (t924.length : Int)))).f0, (rd_T76 t927 (wrap64 (t934 - (t924.length : Int)))).f1, ji40⟩ : S76)) ?_; clear HM; intro w41 HM; replace HM := HM.nm 3 rfl Ny937.out; have p42 : 0 ≤ ((wrap64 (t934 - (t924.length : Int))) : Int) := of_decide_eq_true AS; have q42 : ((wrap64 (t934 - (t924.length : Int))) : Int) < ((t927.length : Int) : Int) := of_decide_eq_true AS; obtain ⟨hx42_0, hx42_1, hx42_2, hf42_0, hf42_1, hf42_2⟩ := HM.el3 3 rfl z76 ((wrap64 (t934 - (t924.length : Int))) : Int) p42 (by have h_ := (HM.CR 3 rfl).1; omega) (.string ((rd_T76 y937 (wrap64 (t934 - (t924.length : Int)))).f0)) (.string ((rd_T76 y937 (wrap64 (t934 - (t924.length : Int)))).f1)) (.int .i64 ((rd_T76 y937 (wrap64 (t934 - (t924.length : Int)))).f2)) (fun _ _ h => k76_openM h); replace p42 := eq_true p42; replace q42 := eq_true q42))
    have p938 : 0 ≤ ((wrap64 (t934 - (t924.length : Int))) : Int) := of_decide_eq_true AS
    have q938 : ((wrap64 (t934 - (t924.length : Int))) : Int) < (y937.length : Int) := (by have h_ : ((wrap64 (t934 - (t924.length : Int))) : Int) < ((t927.length : Int) : Int) := of_decide_eq_true AS; first | exact h_ | (simp only [Ny937.out, List.length_set] at h_ ⊢; exact h_))
    have ql938 : (((wrap64 (t934 - (t924.length : Int))) : Int) < ((t927.length : Int) : Int)) = True := eq_true (of_decide_eq_true AS)
    obtain ⟨ad938, e938, hx938_0, hx938_1, hx938_2⟩ := at_T76 (HM.CR 3 rfl).2.2 (wrap64 (t934 - (t924.length : Int))) p938 q938
    obtain rfl := Option.some.inj e938
    (first | simp only [add_plain] at hx938_0 | simp only [add_at] at hx938_0 | simp only [Addr.add, Nat.zero_add] at hx938_0 | skip)
    (first | simp only [add_plain] at hx938_1 | simp only [add_at] at hx938_1 | simp only [Addr.add, Nat.zero_add] at hx938_1 | skip)
    (first | simp only [add_plain] at hx938_2 | simp only [add_at] at hx938_2 | simp only [Addr.add, Nat.zero_add] at hx938_2 | skip)
    replace p938 := eq_true p938
    replace q938 := eq_true q938
    refine RGN 8 [0, 1, 2, 3, 4, 5, 6, 7] (fun a0 b a w' => a = putSel a0 b [(0, 29, .agg #[.int .i64 t922, .int .i64 t923, .slice Xo13 t924.length ko13, .slice (some ⟨gof39, 0, none⟩) t927.length ko14, .slice Xo15 t930.length ko15]), (1, 30, .pointer (some ⟨gof39, (wrap64 (t934 - (t924.length : Int)) : Int).toNat * 3, none⟩)), (2, 31, .pointer (some ⟨gof39, (wrap64 (t934 - (t924.length : Int)) : Int).toNat * 3, none⟩)), (3, 32, .pointer (some ⟨gof39, (wrap64 (t934 - (t924.length : Int)) : Int).toNat * 3 + 1, none⟩)), (4, 33, .string ((rd_T76 y937 (wrap64 (t934 - (t924.length : Int)))).f1)), (6, 5, .string ((rd_T76 y937 (wrap64 (t934 - (t924.length : Int)))).f1)), (7, 6, .bool true)] ∧ Mem w [] w' [box 65 gb919 [.int .i64 a0_0, .int .i64 a0_1, .slice A0_2 l0_2.length c0_2, .slice A0_3 l0_3.length c0_3, .slice A0_4 l0_4.length c0_4], sel (b 5) (box 65 gb920 [.int .i64 t922, .int .i64 t923, .slice Xo13 t924.length ko13, .slice (some ⟨gof39, 0, none⟩) t927.length ko14, .slice Xo15 t930.length ko15]) (box 65 gb920 [.int .i64 0, .int .i64 0, .slice none 0 0, .slice none 0 0, .slice none 0 0]), rowR k76 76 (.slice Xo13 t924.length ko13) t924, rowR k76 76 (.slice (some ⟨gof39, 0, none⟩) t927.length ko14) y937, rowR (Kd.int .i64) 3 (.slice Xo15 t930.length ko15) t930, box 65 gb933 [.int .i64 t922, .int .i64 t923, .slice Xo13 t924.length ko13, .slice (some ⟨gof39, 0, none⟩) t927.length ko14, .slice Xo15 t930.length ko15]]) impl_Get.tab8 impl_Get.bits8 ?_ ?_ ?_
    ·exact ⟨PS0' rfl _, (HM.drew).pick [0, 1, 2, 3, 4, 5]⟩
    ·clear HM
     refine SY ?_ ?_
     ·intro b a w ha HM hb hon hoff K hK
      obtain ⟨z45_0, z45_1, z45_2, z45_3, z45_4, Z45_0, Z45_1, Z45_2, Z45_3, Z45_4⟩ := bk5 (HM.bx 5 rfl)
      have e7 := PG ha 7
      exact VL (.agg #[.int .i64 t922, .int .i64 t923, .slice Xo13 t924.length ko13, .slice (some ⟨gof39, 0, none⟩) t927.length ko14, .slice Xo15 t930.length ko15]) (hK.out _ _ ⟨PUT ha 0 hb, HM⟩)
     refine SY ?_ ?_
     ·intro b a w ha HM hb hon hoff K hK
      have e8 := PG ha 8
      exact VL (.pointer (some ⟨gof39, (wrap64 (t934 - (t924.length : Int)) : Int).toNat * 3, none⟩)) (hK.out _ _ ⟨PUT ha 1 hb, HM⟩)
     refine SY ?_ ?_
     ·intro b a w ha HM hb hon hoff K hK
      have e30 := PE ha 1 hon
      exact VL (.pointer (some ⟨gof39, (wrap64 (t934 - (t924.length : Int)) : Int).toNat * 3, none⟩)) (hK.out _ _ ⟨PUT ha 2 hb, HM⟩)
     refine SY ?_ ?_
     ·intro b a w ha HM hb hon hoff K hK
      have e31 := PE ha 2 hon
      exact VL (.pointer (some ⟨gof39, (wrap64 (t934 - (t924.length : Int)) : Int).toNat * 3 + 1, none⟩)) (hK.out _ _ ⟨PUT ha 3 hb, HM⟩)
     refine SY ?_ ?_
     ·intro b a w ha HM hb hon hoff K hK
      have p938 : 0 ≤ ((wrap64 (t934 - (t924.length : Int))) : Int) := of_decide_eq_true AS
      have q938 : ((wrap64 (t934 - (t924.length : Int))) : Int) < (y937.length : Int) := (by have h_ : ((wrap64 (t934 - (t924.length : Int))) : Int) < ((t927.length : Int) : Int) := of_decide_eq_true AS; first | exact h_ | (simp only [Ny937.out, List.length_set] at h_ ⊢; exact h_))
      have ql938 : (((wrap64 (t934 - (t924.length : Int))) : Int) < ((t927.length : Int) : Int)) = True := eq_true (of_decide_eq_true AS)
      obtain ⟨ad938, e938, hx938_0, hx938_1, hx938_2⟩ := at_T76 (HM.CR 3 rfl).2.2 (wrap64 (t934 - (t924.length : Int))) p938 q938
      obtain rfl := Option.some.inj e938
      (first | simp only [add_plain] at hx938_0 | simp only [add_at] at hx938_0 | simp only [Addr.add, Nat.zero_add] at hx938_0 | skip)
      (first | simp only [add_plain] at hx938_1 | simp only [add_at] at hx938_1 | simp only [Addr.add, Nat.zero_add] at hx938_1 | skip)
      (first | simp only [add_plain] at hx938_2 | simp only [add_at] at hx938_2 | simp only [Addr.add, Nat.zero_add] at hx938_2 | skip)
      replace p938 := eq_true p938
      replace q938 := eq_true q938
      have e32 := PE ha 3 hon
      exact VL (.string ((rd_T76 y937 (wrap64 (t934 - (t924.length : Int)))).f1)) (hK.out _ _ ⟨PUT ha 4 hb, HM⟩)
     refine SY ?_ ?_
     ·intro b a w ha HM hb hon hoff K hK
      replace HM := HM.sF 1 rfl hb
      have e4 := PG ha 4
      have e29 := PE ha 0 hon
      refine ST (eS 1 4 0 [.int .i64 t922, .int .i64 t923, .slice Xo13 t924.length ko13, .slice (some ⟨gof39, 0, none⟩) t927.length ko14, .slice Xo15 t930.length ko15] HM rfl rfl ?_ (hp := (eval_of e4)) (hx := (by rw [eval_of e29]; rfl)))
      clear HM
      intro w46 HM
      exact hK.out _ _ ⟨PUS ha, (HM).pick [0, 1, 2, 3, 4, 5]⟩
     refine SY ?_ ?_
     ·intro b a w ha HM hb hon hoff K hK
      have e33 := PE ha 4 hon
      exact VL (.string ((rd_T76 y937 (wrap64 (t934 - (t924.length : Int)))).f1)) (hK.out _ _ ⟨PUT ha 5 hb, HM⟩)
     refine SY ?_ ?_
     ·intro b a w ha HM hb hon hoff K hK
      exact VL (.bool true) (hK.out _ _ ⟨PUT ha 6 hb, HM⟩)
     exact steps_nil
    rintro _ w47 ⟨rfl, HM⟩
    replace HM := HM.sT 1 rfl rfl
    simp only [putSel, if_true, Act.put, List.setIfInBounds_toArray, List.set_cons_zero, List.set_cons_succ, gt_iff_lt, ge_iff_le]
    simp only [Option.some.injEq, Prod.mk.injEq] at H
    obtain ⟨rfl, rfl, rfl, rfl, rfl, rfl, rfl⟩ := H
    go_wp2
    refine bodyPost_ret (results_ctt rfl _ _ gb920 65 #[.int .i64 t922, .int .i64 t923, .slice Xo13 t924.length ko13, .slice (some ⟨gof39, 0, none⟩) t927.length ko14, .slice Xo15 t930.length ko15] (0, 0) _ rfl (HM.bx 1 rfl) Try.underlying65 rfl (by kernel_rfl)) rfl ?_
    exact ⟨_, _, _, ER, (MD HM).pick [2, 3, 4]⟩
 ·subst c8
  simp only [Option.some.injEq, Prod.mk.injEq] at H
  obtain ⟨rfl, rfl, rfl, rfl, rfl, rfl, rfl⟩ := H
  go_wp2_with (first | ((with_reducible refine gN 2 rfl ?_); refine pB 2 65 [.int .i64 a0_0, .int .i64 a0_1, .slice A0_2 l0_2.length c0_2, .slice A0_3 l0_3.length c0_3, .slice A0_4 l0_4.length c0_4] HM rfl ?_; clear HM; intro gb919 w3 HM) | ((with_reducible refine gN 4 rfl ?_); refine pB 4 65 [.int .i64 0, .int .i64 0, .slice none 0 0, .slice none 0 0, .slice none 0 0] HM rfl ?_; clear HM; intro gb920 w4 HM; obtain ⟨z5_0, z5_1, z5_2, z5_3, z5_4, Z5_0, Z5_1, Z5_2, Z5_3, Z5_4⟩ := bk5 (HM.bx 0 rfl)) | ((with_reducible refine gC 90 rfl ?_); refine pC (some 10) rfl #[.agg #[.int .i64 a0_0, .int .i64 a0_1, .slice A0_2 l0_2.length c0_2, .slice A0_3 l0_3.length c0_3, .slice A0_4 l0_4.length c0_4]] rfl Try.func90 (impl_ThreeOk.calls k a0_0 a0_1 _ _ l0_2 _ _ l0_3 _ _ l0_4 false _ (HM.came HR0_2.out) HC0_2.out (HM.came HR0_3.out) HC0_3.out (HM.came HR0_4.out) HC0_4.out A6.out) ?_; rintro e w7 ⟨rfl, hR⟩; refine ⟨_, rfl, ?_⟩; replace HM := HM.call hR; clear hR) | ((with_reducible refine gS 4 rfl ?_); refine pS 1 4 0 [.int .i64 0, .int .i64 0, .slice none 0 0, .slice none 0 0, .slice none 0 0] HM rfl rfl ?_; clear HM; intro w48 HM; replace HM := HM.nl k76 76; replace HM := HM.nl k76 76; replace HM := HM.nl (Kd.int .i64) 3))
  refine bodyPost_ret (results_ctt rfl _ _ gb920 65 #[.int .i64 0, .int .i64 0, .slice none 0 0, .slice none 0 0, .slice none 0 0] (0, 0) _ rfl (HM.bx 1 rfl) Try.underlying65 rfl (by kernel_rfl)) rfl ?_
  exact ⟨_, _, _, ER, (MD HM).pick [2, 3, 4]⟩
end Go.Proofs.Ytanakbmhclpamaa.G

namespace Go.Proofs.Ytanakbmhclpamaa.G
open Go.RowKit Go.Proofs.YtanakbmhclpamaaW.PrintWords Go.Proofs.YtanakbmhclpamaaW.PrintLast Go.Proofs.YtanakbmhclpamaaW.PrintMore Go.Proofs.Ytanakbmhclpamaa.Sh
attribute [local go_sem] max2_int min2_int max_two min_two max_three min_three max_four min_four
set_option linter.unusedVariables false
set_option linter.unusedSimpArgs false
def impl_Hash.l0 : Nat → ByteArray → Int → Int → Option (Int)
 | 0, _, _, _ => none
 | k + 1, x0, x3, x4 => if x4 < (x0.size : Int) then (if 0 ≤ x4 then (impl_Hash.l0 k x0 (Int.tmod (wrap64 ((Go.bits .xor .i64 x3 (wrap64 (bt x0 x4))) * 16777619)) 4294967296) (wrap64 (x4 + 1))) else (none)) else (some x3)
def impl_Hash.f (k : Nat) (a0 : ByteArray) : Option (Int) := impl_Hash.l0 k a0 2166136261 0
set_option maxHeartbeats 8000000 in
set_option maxRecDepth 100000 in
theorem impl_Hash.calls (k : Nat) (a0 : ByteArray) (r : Int) (w : World) (h : impl_Hash.f k a0 = some r) :
  Calls Try.prog 118 #[.string a0] w fun e w' => e = .returned (.int .i64 r) ∧ Drawn0 w w' := by
 have H : (impl_Hash.l0 k a0 2166136261 0) = some r := h
 clear h
 have H' := Aside0.mk H
 clear H
 go_enter Try.func118, Try.ntmps118
 go_wp2
 go_loopg [3, 4] k (fun kq v3 v4 w' => ∃ (x3_1 : Int) (x4_1 : Int), v3 = .int .i64 x3_1 ∧ v4 = .int .i64 x4_1 ∧ Aside0 (impl_Hash.l0 kq a0 x3_1 x4_1 = some r) ∧ Aside0 (kq ≤ k) ∧ Drawn0 w w')
 case atStart => exact ⟨(2166136261), (0), RS, RS, H', ⟨Nat.le_refl _⟩, DR⟩
 case round =>
  clear H'
  try clear c1
  obtain ⟨x3_1, x4_1, rfl, rfl, HA, HK1, ⟨m1, rfl⟩⟩ := hrel
  cases gk with
  | zero => exact absurd HA.out (by simp [impl_Hash.l0])
  | succ k1 =>
   have H := HA.out
   clear HA
   simp only [impl_Hash.l0] at H
   by_cases c2 : x4_1 < (a0.size : Int)
   ·rw [if_pos c2] at H
    have c2b0 : decide (x4_1 < (a0.size : Int)) = true := decide_eq_true c2
    clear c2
    by_cases c3 : 0 ≤ x4_1
    ·rw [if_pos c3] at H
     have c3b0 : decide (0 ≤ x4_1) = true := decide_eq_true c3
     clear c3
     have H' := Aside0.mk H
     clear H
     have p4 : 0 ≤ (x4_1 : Int) := of_decide_eq_true AS
     have q4 : x4_1 < (a0.size : Int) := of_decide_eq_true AS
     have hx4 := bt_at a0 x4_1
     replace p4 := eq_true p4
     replace q4 := eq_true q4
     go_wp2
     go_roundg k1
     case measure => have := HK1.out; omega
     case rel => exact ⟨(Int.tmod (wrap64 ((Go.bits .xor .i64 x3_1 (wrap64 (bt a0 x4_1))) * 16777619)) 4294967296), (wrap64 (x4_1 + 1)), RS, RS, H', ⟨by have := HK1.out; omega⟩, DR⟩
    ·rw [if_neg c3] at H
     exact absurd H (by simp)
   ·rw [if_neg c2] at H
    have c2b0 : decide (x4_1 < (a0.size : Int)) = false := decide_eq_false c2
    clear c2
    obtain rfl := Option.some.inj H
    go_wp2
    go_ret
    exact ⟨by first | rfl | (simp; done) | (simp [*]; done), DR⟩
end Go.Proofs.Ytanakbmhclpamaa.G

namespace Go.Proofs.Ytanakbmhclpamaa.G
open Go.RowKit Go.Proofs.YtanakbmhclpamaaW.PrintWords Go.Proofs.YtanakbmhclpamaaW.PrintLast Go.Proofs.YtanakbmhclpamaaW.PrintMore Go.Proofs.Ytanakbmhclpamaa.Sh
attribute [local go_sem] max2_int min2_int max_two min_two max_three min_three max_four min_four
set_option linter.unusedVariables false
set_option linter.unusedSimpArgs false
open Go.Proofs.Ytanakbmhclpamaa.Man
section
variable {P : Program}
/-- 'clear(s)' of what lies behind a queue of the call's own, in its spare room: the queue stays. -/
theorem Q_clear_run {α : Type} (d : Kd α) {W : World} (base : Nat) (t ty e : TypeId) (z : Value) (ht : P.underlying t = some (.slice e)) (hz : ∀ w, (zeroValue e).run P w = .ok z w) (hzs : z.cells.size = d.sz) (hz1 : ∀ u ∈ z.cells.toList, u.oneCell' = true)
  {g o n c m : Nat} {xs : List α} {ok : Nat → Prop} (HO : d.Q e W base ok (.slice (some ⟨g, o, none⟩) n c) xs) (hm : n + m ≤ c) (hm0 : 0 < m) (hn0 : 0 < c) (c2 : Nat) (hpos : 0 < d.sz) :
  ∃ w1, (Builtin.clear_ #[t] ty #[.slice (some ⟨g, o + n * d.sz, none⟩) m c2]).run P W = .ok (.tuple #[]) w1 ∧ d.Q e w1 base ok (.slice (some ⟨g, o, none⟩) n c) xs ∧ W.grownBy w1 (some g) := by
 obtain ⟨hn, hnc, _⟩ := Kd.Q_reads' HO
 obtain ⟨hok, inner, hown, hr⟩ := HO
 have hin : inner.length = n * d.sz := by rw [hr.1, hn]
 rcases hown.2 with ⟨h0, A, hv, _⟩ | ⟨g', off, cap', cur, hv, hb, hh, hcn, hcm, hcs, htake⟩
 ·injection hv with _ h1 h2
  omega
 injection hv with ha _ hc
 injection ha with ha
 injection ha with hg ho
 subst hg; subst hc; subst ho
 rw [← hn] at htake
 obtain ⟨news, hnews⟩ : ∃ news, news = (Builtin.zeroCells z.cells m).toList := ⟨_, rfl⟩
 have hnl : news.length = m * d.sz := by rw [hnews, cycle_len _ _ hm0, hzs]
 have hone : ∀ u ∈ news, u.oneCell' = true := by
  intro u hu
  rw [hnews] at hu
  have hp : 0 < z.cells.size := by omega
  simp only [Builtin.zeroCells, Array.toList_map, List.mem_map] at hu
  obtain ⟨i, _, rfl⟩ := hu
  have hi := Nat.mod_lt i hp
  rw [getElem!_pos z.cells _ hi]
  exact hz1 _ (by simp)
 have hnm : (n + m) * d.sz ≤ c * d.sz := Nat.mul_le_mul_right _ hm
 have hnm2 : (n + m) * d.sz = n * d.sz + m * d.sz := Nat.add_mul _ _ _
 have hoc : (off + c) * d.sz = off * d.sz + c * d.sz := Nat.add_mul _ _ _
 have hfit : off * d.sz + n * d.sz + news.length ≤ cur.size := by omega
 have hst := run_storeCells_cells (P := P) g (off * d.sz + n * d.sz) news 0 W (fun j hj => by rw [cell_of_row W g _ cur e (0, 0) hh]; simp; omega) (fun j _ => blk_frozen hh _) hone
 simp only [Nat.add_zero] at hst
 obtain ⟨cur', h3, h4, h5⟩ := setCells_row news (off * d.sz + n * d.sz) W cur hh hfit
 obtain ⟨s1, s2, s3, s4⟩ := setCells_same g news (off * d.sz + n * d.sz) W
 have hfar : ∀ k', k' ≠ g → (W.setCells g (off * d.sz + n * d.sz) news).heap[k']? = W.heap[k']? := fun k' hk' => setCells_far news _ k' hk'
 refine ⟨_, ?_, ⟨hok, inner, ⟨by rw [hin, hn], .inr ⟨g, off, c, cur', by rw [hn], hb, h3, by omega, hcm, by rw [h4, hcs], ?_⟩⟩, ?_⟩, ⟨s1, s2, s3, by rw [s4]; exact Nat.le_refl _, fun k' _ hk' => hfar k' (fun he => hk' (by rw [he]))⟩⟩
 ·obtain ⟨k, rfl⟩ : ∃ k, m = k + 1 := ⟨m - 1, by omega⟩
  have hzc : (Builtin.zeroCells z.cells (k + 1)).toList = news := hnews.symm
  simp [Builtin.clear_, run_underlying ht, hz, hzc, hst]
 ·rw [← hn, h5, List.append_assoc]
  have hl : (cur.toList.take (off * d.sz + n * d.sz)).drop (off * d.sz) = (cur.toList.drop (off * d.sz)).take (n * d.sz) := by
   rw [List.drop_take]
   congr 1
   omega
  have hlen : (cur.toList.take (off * d.sz + n * d.sz)).length = off * d.sz + n * d.sz := by
   rw [List.length_take, Array.length_toList]; omega
  rw [List.drop_append_of_le_length (by rw [hlen]; omega), hl, htake]
  exact List.take_left' hin
 ·exact hr.imp_ (fun p q hp => d.M_move (fun k' hk' => hfar k' (fun he => hk'.2 (by simp [Value.ownBlock, he]))) hp)
end
def delInt.idx (h : Int) : List Int → Nat → Int
 | [], _ => -1
 | x :: r, i => if x = h then (i : Int) else delInt.idx h r (i + 1)
theorem delInt.idx_at (h : Int) (l : List Int) (i : Nat) (hi : i < l.length) : delInt.idx h (l.drop i) i = if rd l (i : Int) = h then (i : Int) else delInt.idx h (l.drop (i + 1)) (i + 1) := by
 rw [List.drop_eq_getElem_cons hi, delInt.idx]
 have e : rd l (i : Int) = l[i] := by
  show l.getD (i : Int).toNat _ = _
  simp [List.getD_eq_getElem?_getD, hi]
 rw [e]
theorem delInt.idx_end (h : Int) (l : List Int) (i : Nat) (hi : ¬ i < l.length) : delInt.idx h (l.drop i) i = -1 := by
 rw [List.drop_of_length_le (by omega)]; rfl
/-- What is asked of a closure over one number: it tells whether it is handed just that one. -/
def delInt.Clo (M : Nat) (fnM : Func) (B : Nat) (h : Int) : Prop := Try.prog.funcs[M]? = some fnM ∧ (fnM.name == "runtime.NumGoroutine") = false ∧ fnM.body.isSome = true ∧ ∀ (y : Int) (W : World), W.heap[B]? = some (.cells #[.int .i64 h] 3 (0, 0)) →
 Calls Try.prog M #[.int .i64 y, .pointer (some ⟨B, 0, none⟩)] W fun e w' => e = .returned (.bool (y == h)) ∧ Below W.heap.size W w'
set_option maxHeartbeats 8000000 in
set_option maxRecDepth 100000 in
theorem delInt.index (M : Nat) (fnM : Func) (B : Nat) (h : Int) (hM : delInt.Clo M fnM B h) (A0 : Option Addr) (c0 : Nat) (l0 : List Int) (w : World) (hblk : w.heap[B]? = some (.cells #[.int .i64 h] 3 (0, 0))) (hr0 : Kd.C (Kd.int .i64) w A0 l0.length l0) (hc0 : l0.length ≤ c0) :
  Calls Try.prog 129 #[.slice A0 l0.length c0, .func (.func M) #[] #[.pointer (some ⟨B, 0, none⟩)]] w fun e w' => e = .returned (.int .i64 (delInt.idx h l0 0)) ∧ Below w.heap.size w w' := by
 obtain ⟨hfM, hnM, hbM, hcM⟩ := hM
 have HR0 := Aside0.mk hr0
 have HC0 := Aside0.mk hc0
 have HL := Aside0.mk (show l0.length ≤ 9223372036854775807 from hr0.2.1)
 have HX := Aside0.mk hblk
 have HF := Aside0.mk hfM
 have HN1 := Aside0.mk hnM
 have HB1 := Aside0.mk hbM
 have HCM := Aside0.mk hcM
 clear hr0 hc0 hblk hfM hnM hbM hcM
 have HB := Aside0.mk (Below.refl w.heap.size w)
 obtain ⟨R, hR⟩ : ∃ R, R = delInt.idx h l0 0 := ⟨_, rfl⟩
 rw [← hR]
 have HN := Aside0.mk (show delInt.idx h (l0.drop 0) 0 = R from hR.symm)
 clear hR
 go_enter Try.func129, Try.ntmps129
 go_wp2
 go_loopg [5, 8] l0.length (fun kq _ v8 w' => ∃ x : Int, v8 = .int .i64 x ∧ Aside0 (∃ n : Nat, x = (n : Int) ∧ delInt.idx h (l0.drop n) n = R ∧ n + kq = l0.length) ∧ Aside0 (Below w.heap.size w w'))
 case atStart => exact ⟨0, rfl, ⟨0, rfl, HN.out, Nat.zero_add _⟩, HB⟩
 case round =>
  clear HN
  obtain ⟨x, rfl, HN, HB⟩ := hrel
  by_cases hlt : x < (l0.length : Int)
  ·have hd : decide (x < (l0.length : Int)) = true := decide_eq_true hlt
   have hn0 : 0 ≤ x := by obtain ⟨n, rfl, _⟩ := HN.out; exact Int.natCast_nonneg n
   obtain ⟨ad, hA, hx0⟩ := Kd.at_int HR0.out x hn0 hlt
   subst hA
   replace hx0 := (HB.out.cell (World.block_lt_of_cell? w _ hx0)).trans hx0
   have H0 := Aside0.mk hn0
   have H1 := Aside0.mk hlt
   replace hn0 := eq_true hn0
   replace hlt := eq_true hlt
   obtain ⟨y, hy⟩ : ∃ y, rd l0 x = y := ⟨_, rfl⟩
   rw [hy] at hx0
   have HY := Aside0.mk hy
   clear hy
   by_cases c : y = h
   ·have C := Aside0.mk c
    have hbq : (y == h) = true := beq_iff_eq.mpr c
    clear c
    go_wp2_with fail
    rw [enters_ HF.out HN1.out HB1.out, Oper.upon_enter]
    refine (HCM.out y _ (blk_below HX.out HB.out)).mono ?_
    rintro e w' ⟨rfl, hb'⟩
    have HB' := Aside0.mk hb'
    clear hb'
    rw [hbq]
    go_wp2
    go_ret
    refine ⟨?_, below_step HB.out HB'.out⟩
    obtain ⟨n, rfl, hn, hk⟩ := HN.out
    have e := delInt.idx_at h l0 n (Int.ofNat_lt.mp H1.out)
    rw [HY.out, if_pos C.out, hn] at e
    rw [e]
    rfl
   ·have C := Aside0.mk c
    have hbq : (y == h) = false := beq_eq_false_iff_ne.mpr c
    clear c
    go_wp2_with fail
    rw [enters_ HF.out HN1.out HB1.out, Oper.upon_enter]
    refine (HCM.out y _ (blk_below HX.out HB.out)).mono ?_
    rintro e w' ⟨rfl, hb'⟩
    have HB' := Aside0.mk hb'
    clear hb'
    rw [hbq]
    go_wp2
    obtain ⟨n, rfl, hn, hk⟩ := HN.out
    have hlt' := Int.ofNat_lt.mp H1.out
    go_roundg (gk - 1)
    case measure => omega
    case rel =>
     have e := delInt.idx_at h l0 n hlt'
     rw [HY.out, if_neg C.out, hn] at e
     exact ⟨_, rfl, ⟨n + 1, wsucc_ (by have := HL.out; omega), e.symm, by omega⟩, ⟨below_step HB.out HB'.out⟩⟩
  ·have hd : decide (x < (l0.length : Int)) = false := decide_eq_false hlt
   have HLT := Aside0.mk hlt
   clear hlt
   go_wp2
   go_ret
   obtain ⟨n, rfl, hn, hk⟩ := HN.out
   have hlt' := HLT.out
   rw [delInt.idx_end h l0 n (by omega)] at hn
   exact ⟨by rw [← hn]; rfl, HB.out⟩
def slices_DeleteFunc_int_int.f (l0 : List Int) (a1 : Int) : Option (List Int) := some (l0.filter (fun y => !(y == a1)))
theorem delInt.idx_neg (h : Int) : ∀ (l : List Int) (i : Nat), delInt.idx h l i = -1 → l.filter (fun y => !(y == h)) = l
 | [], _, _ => rfl
 | x :: r, i, e => by
  rw [delInt.idx] at e
  by_cases c : x = h
  ·rw [if_pos c] at e; omega
  ·rw [if_neg c] at e
   rw [List.filter_cons, if_pos (by simp [c]), delInt.idx_neg h r (i + 1) e]
theorem delInt.idx_pos (h : Int) : ∀ (l : List Int) (i : Nat), delInt.idx h l i ≠ -1 → ∃ p, p < l.length ∧ delInt.idx h l i = ((i + p : Nat) : Int) ∧ (l.take p).filter (fun y => !(y == h)) = l.take p ∧ rd l (p : Int) = h
 | [], _, e => by simp [delInt.idx] at e
 | x :: r, i, e => by
  rw [delInt.idx] at e ⊢
  by_cases c : x = h
  ·exact ⟨0, by simp, by rw [if_pos c]; simp, rfl, c⟩
  ·rw [if_neg c] at e ⊢
   obtain ⟨p, h1, h2, h3, h4⟩ := delInt.idx_pos h r (i + 1) e
   refine ⟨p + 1, by simpa using h1, by rw [h2]; omega, ?_, ?_⟩
   ·rw [List.take_succ_cons, List.filter_cons, if_pos (by simp [c]), h3]
   ·have : rd (x :: r) ((p + 1 : Nat) : Int) = rd r (p : Int) := by
     show (x :: r).getD ((p + 1 : Nat) : Int).toNat _ = r.getD (p : Int).toNat _
     simp
    rw [this, h4]
/-- What the loop keeps: ahead of i what stays of the first j, from j on the rest. -/
structure delInt.Inv (h : Int) (l cur : List Int) (i j : Nat) : Prop where
 len : cur.length = l.length
 lt : i < j
 le : j ≤ l.length
 front : cur.take i = (l.take j).filter (fun y => !(y == h))
 back : cur.drop j = l.drop j
theorem delInt.Inv.read {h : Int} {l cur : List Int} {i j : Nat} (v : delInt.Inv h l cur i j) (hj : j < l.length) : rd cur (j : Int) = rd l (j : Int) := by
 have e := congrArg (fun z => z.head?) v.back
 simp only [List.head?_drop] at e
 show cur.getD (j : Int).toNat _ = l.getD (j : Int).toNat _
 simp [List.getD_eq_getElem?_getD, e]
theorem delInt.take_succ {l : List Int} {j : Nat} (hj : j < l.length) : l.take (j + 1) = l.take j ++ [rd l (j : Int)] := by
 have e : rd l (j : Int) = l[j] := by
  show l.getD (j : Int).toNat _ = _
  simp [List.getD_eq_getElem?_getD, hj]
 rw [e, List.take_succ_eq_append_getElem hj]
theorem delInt.Inv.skip {h : Int} {l cur : List Int} {i j : Nat} (v : delInt.Inv h l cur i j) (hj : j < l.length) (e : rd l (j : Int) = h) : delInt.Inv h l cur i (j + 1) := by
 refine ⟨v.len, by have := v.lt; omega, hj, ?_, ?_⟩
 ·rw [v.front, delInt.take_succ hj, List.filter_append]
  simp [e]
 ·rw [← List.drop_drop, ← List.drop_drop, v.back]
theorem delInt.Inv.put {h : Int} {l cur : List Int} {i j : Nat} (v : delInt.Inv h l cur i j) (hj : j < l.length) (e : rd l (j : Int) ≠ h) : delInt.Inv h l (cur.set i (rd l (j : Int))) (i + 1) (j + 1) := by
 have hi := v.lt
 have hl := v.len
 refine ⟨by rw [List.length_set]; exact hl, by omega, hj, ?_, ?_⟩
 ·rw [List.take_succ_eq_append_getElem (by rw [List.length_set]; omega), List.take_set_of_le (Nat.le_refl _), v.front, delInt.take_succ hj, List.filter_append]
  simp [e]
 ·rw [List.drop_set_of_lt (by omega), ← List.drop_drop, ← List.drop_drop, v.back]
set_option maxHeartbeats 8000000 in
set_option maxRecDepth 100000 in
theorem slices_DeleteFunc_int_int.calls (P0_ : Nat → Prop) (u9000_ : Value) (l0 : List Int) (M : Nat) (fnM : Func) (B : Nat) (a1 : Int) (r : List Int) (w0 w : World) (hB : Below w0.heap.size w0 w) (ho0 : Kd.Q (Kd.int .i64) 3 w w0.heap.size P0_ u9000_ l0) (hM : delInt.Clo M fnM B a1) (hblk : w.heap[B]? = some (.cells #[.int .i64 a1] 3 (0, 0))) (hPB : ∀ k_, P0_ k_ → k_ ≠ B) (h : slices_DeleteFunc_int_int.f l0 a1 = some r) :
  Calls Try.prog 119 #[u9000_, .func (.func M) #[] #[.pointer (some ⟨B, 0, none⟩)]] w fun e w' => ∃ v0_ : Value, e = .returned v0_ ∧ Kd.Q (Kd.int .i64) 3 w' w0.heap.size (fun k_ => P0_ k_ ∨ w.heap.size ≤ k_) v0_ r ∧ Below w0.heap.size w0 w' ∧ Kept w w' (fun k_ => P0_ k_) := by
 obtain rfl := Option.some.inj h
 clear h
 obtain ⟨A0, c0, rfl, hlc⟩ := Kd.Q_slice ho0
 obtain ⟨_, _, hC⟩ := Kd.Q_reads' ho0
 have hidx := delInt.index M fnM B a1 hM A0 c0 l0 w hblk hC hlc
 have hL : l0.length ≤ 9223372036854775807 := hC.2.1
 obtain ⟨hfM, hnM, hbM, hcM⟩ := hM
 have HF := Aside0.mk hfM
 have HN1 := Aside0.mk hnM
 have HB1 := Aside0.mk hbM
 have HCM := Aside0.mk hcM
 have HX := Aside0.mk hblk
 have HQ := Aside0.mk ho0
 have HBW := Aside0.mk hB
 have HPB := Aside0.mk hPB
 have HL := Aside0.mk hL
 have HLC := Aside0.mk hlc
 clear hfM hnM hbM hcM hblk ho0 hB hPB hL hC
 by_cases ci : delInt.idx a1 l0 0 = -1
 ·have e1 := delInt.idx_neg a1 l0 0 ci
  rw [e1]
  rw [ci] at hidx
  clear e1 ci
  go_enter Try.func119, Try.ntmps119
  go_wp2_with fail
  refine hidx.mono ?_
  rintro e w' ⟨rfl, hb⟩
  have HB := Aside0.mk hb
  clear hb hidx
  go_wp2
  go_ret
  exact ⟨_, rfl, Kd.Q_mono (Kd.Q_below HQ.out HB.out) (fun _ h => Or.inl h), below_step HBW.out HB.out, Kept.below (Kept.refl _ _) HB.out⟩
 ·obtain ⟨p, hp, e1, e2, e3⟩ := delInt.idx_pos a1 l0 0 ci
  rw [Nat.zero_add] at e1
  rw [e1] at hidx
  obtain ⟨g, o, cap, hv, hbg, hgl, cl, hgc⟩ := Kd.Q_form HQ.out (by omega)
  injection hv with ha _ hcap
  subst ha
  subst hcap
  have hP0 : P0_ g := HQ.out.1 g rfl
  have HG := Aside0.mk hbg
  have HGL := Aside0.mk hgl
  have HP0 := Aside0.mk hP0
  have I0 : delInt.Inv a1 l0 l0 p (p + 1) := by
   refine ⟨rfl, by omega, hp, ?_, rfl⟩
   rw [delInt.take_succ hp, List.filter_append, e2]
   simp [e3]
  have HI0 := Aside0.mk I0
  have HP := Aside0.mk hp
  have ew : IntKind.i64.wrap ((p : Int) + 1) = ((p + 1 : Nat) : Int) := by exact (i64_w _).trans (by have := HL.out; unfold wrap64; omega)
  have hne : ((p : Int) == -1) = false := by rw [beq_eq_false_iff_ne]; omega
  clear ci e1 e2 e3 hbg hgl hgc hP0 I0 hp
  go_enter Try.func119, Try.ntmps119
  go_wp2_with fail
  refine hidx.mono ?_
  rintro e w1 ⟨rfl, hb⟩
  have HB := Aside0.mk hb
  clear hb hidx
  go_wp2
  go_loopg [5, 6, 7] (l0.length - (p + 1)) (fun kq v5 v6 v7 w' => ∃ x5 x6 : Int, v5 = .int .i64 x5 ∧ v6 = .int .i64 x6 ∧ Aside0 (∃ (i j : Nat) (cur : List Int), x5 = (i : Int) ∧ x6 = (j : Int) ∧ j + kq = l0.length + 0 ∧ delInt.Inv a1 l0 cur i j ∧ Kd.Q (Kd.int .i64) 3 w' w0.heap.size (fun k_ => P0_ k_ ∨ w.heap.size ≤ k_) (.slice (some ⟨g, o, none⟩) l0.length c0) cur) ∧ Aside0 (Below w0.heap.size w0 w') ∧ Aside0 (Kept w w' (fun k_ => P0_ k_)))
  case atStart =>
   exact ⟨(p : Int), ((p + 1 : Nat) : Int), rfl, rfl, ⟨p, p + 1, l0, rfl, rfl, by have := HP.out; omega, HI0.out, Kd.Q_mono (Kd.Q_below HQ.out HB.out) (fun _ h => Or.inl h)⟩, ⟨below_step HBW.out HB.out⟩, ⟨Kept.below (Kept.refl _ _) HB.out⟩⟩
  case round =>
   clear HI0 HQ HB HBW HP ew hne
   obtain ⟨x5, x6, rfl, rfl, HI, HB, HK⟩ := hrel
   obtain ⟨i, j, cur, rfl, rfl, hq, hi, hQ⟩ := HI.out
   clear HI
   have HI := Aside0.mk hi
   have HQ := Aside0.mk hQ
   have HJ := Aside0.mk hq
   clear hi hQ hq
   by_cases hlt : (j : Int) < (l0.length : Int)
   ·have hd : decide ((j : Int) < (l0.length : Int)) = true := decide_eq_true hlt
    have hn0 : (0 : Int) ≤ (j : Int) := Int.natCast_nonneg j
    obtain ⟨hx0, hf0⟩ := Kd.Q_cell (0 : Int) HQ.out (j : Int) hn0 hlt
    obtain ⟨y, hy⟩ : ∃ y, rd l0 (j : Int) = y := ⟨_, rfl⟩
    have hyc : rdOf (0 : Int) cur (j : Int) = y := (HI.out.read (Int.ofNat_lt.mp hlt)).trans hy
    rw [hyc] at hx0
    simp only [Int.toNat_natCast] at hx0 hf0
    have HY := Aside0.mk hy
    have HLT := Aside0.mk (Int.ofNat_lt.mp hlt)
    replace hn0 := eq_true hn0
    replace hlt := eq_true hlt
    clear hy hyc hf0
    by_cases c : y = a1
    ·have C := Aside0.mk c
     have hbq : (y == a1) = true := beq_iff_eq.mpr c
     clear c
     go_wp2_with fail
     rw [enters_ HF.out HN1.out HB1.out, Oper.upon_enter]
     refine (HCM.out y _ (blk_kept HX.out HK.out (fun h => HPB.out B h rfl))).mono ?_
     rintro e w' ⟨rfl, hb'⟩
     have HB' := Aside0.mk hb'
     clear hb'
     rw [hbq]
     go_wp2
     go_roundg (gk - 1)
     case measure => have := HJ.out; have := HLT.out; omega
     case rel =>
      exact ⟨(i : Int), _, rfl, rfl, ⟨i, j + 1, cur, rfl, wsucc_ (by have := HL.out; have := HLT.out; omega), by have := HJ.out; have := HLT.out; omega, HI.out.skip HLT.out (HY.out.trans C.out), Kd.Q_below HQ.out HB'.out⟩, ⟨below_step HB.out HB'.out⟩, ⟨Kept.below HK.out HB'.out⟩⟩
    ·have C := Aside0.mk c
     have hbq : (y == a1) = false := beq_eq_false_iff_ne.mpr c
     clear c
     go_wp2_with fail
     rw [enters_ HF.out HN1.out HB1.out, Oper.upon_enter]
     refine (HCM.out y _ (blk_kept HX.out HK.out (fun h => HPB.out B h rfl))).mono ?_
     rintro e w' ⟨rfl, hb'⟩
     have HB' := Aside0.mk hb'
     have HQ' := Aside0.mk (Kd.Q_below HQ.out hb')
     have hi0 : (0 : Int) ≤ (i : Int) := Int.natCast_nonneg i
     have hil : (i : Int) < (l0.length : Int) := by have := HI.out.lt; have := HLT.out; omega
     obtain ⟨hxi, hfi⟩ := Kd.Q_cell (0 : Int) HQ'.out (i : Int) hi0 hil
     simp only [Int.toNat_natCast] at hxi hfi
     have HS := Aside0.mk (by have h := Kd.Q_putg HQ'.out (i : Int) hi0 hil y; simp only [Int.toNat_natCast] at h; exact h)
     have HBS := Aside0.mk (below_set (j := o + i) (v := .int .i64 y) (below_step HB.out hb') HG.out)
     have HKS := Aside0.mk (Kept.setCell (p := ⟨g, o + i, none⟩) (Kept.below HK.out hb') (.inl HP0.out) (.int .i64 y))
     replace hi0 := eq_true hi0
     replace hil := eq_true hil
     clear hb'
     rw [hbq]
     go_wp2
     go_roundg (gk - 1)
     case measure => have := HJ.out; have := HLT.out; omega
     case rel =>
      have e := HI.out.put HLT.out (fun e => C.out (HY.out.symm.trans e))
      rw [HY.out] at e
      exact ⟨_, _, rfl, rfl, ⟨i + 1, j + 1, cur.set i y, wsucc_ (by have := HL.out; have := HLT.out; have := HI.out.lt; omega), wsucc_ (by have := HL.out; have := HLT.out; omega), by have := HJ.out; have := HLT.out; omega, e, HS.out.1⟩, ⟨HBS.out⟩, ⟨HKS.out⟩⟩
   ·have hd : decide ((j : Int) < (l0.length : Int)) = false := decide_eq_false hlt
    have hj : j = l0.length := by have := HI.out.le; omega
    subst hj
    have hil : i < l0.length := HI.out.lt
    have hcl : cur.length = l0.length := HI.out.len
    have hft : cur.take i = l0.filter (fun y => !(y == a1)) := by
     have := HI.out.front
     rwa [List.take_length] at this
    have hQt := Kd.Q_take HQ.out (m := i) (by omega)
    rw [hft] at hQt
    have HQT := Aside0.mk hQt
    have hc0 : i ≤ c0 := by have := HLC.out; omega
    have hli : (List.filter (fun y => !(y == a1)) l0).length = i := by rw [← hft, List.length_take]; omega
    obtain ⟨w2, hrun, hr2, hg2⟩ := Q_clear_run (P := Try.prog) (Kd.int .i64) w0.heap.size 60 0 3 (.int .i64 0) Try.underlying60 Try.zeroValue3 rfl (by decide) hQt (m := l0.length - i) (by omega) (by omega) (by omega) (c0 - i) (by decide)
    have HR2 := Aside0.mk hr2
    have HG2 := Aside0.mk hg2
    have b1 : (i : Int) ≤ (l0.length : Int) := by omega
    have b2 : (l0.length : Int) ≤ (c0 : Int) := by have := HLC.out; omega
    have b3 : (i : Int) ≤ (c0 : Int) := by omega
    have b4 : (0 : Int) ≤ (i : Int) := by omega
    have b5 : (c0 = i) = False := eq_false (by omega)
    have HLI := Aside0.mk hli
    change Sem.run _ (Builtin.clear_ #[60] 0 #[.slice (some ⟨g, o + i * 1, none⟩) (l0.length - i) (c0 - i)]) _ = _ at hrun
    rw [Nat.mul_one] at hrun
    clear hr2 hg2 hQt hft hcl hil hli hlt
    go_wp2
    go_ret
    exact ⟨_, rfl, HR2.out, HB.out.grown HG2.out HB.out.size (fun k hk => by injection hk with hk; subst hk; exact HG.out), Kept.of_grown HG2.out HK.out (fun k hk => by injection hk with hk; subst hk; exact .inl HP0.out)⟩
end Go.Proofs.Ytanakbmhclpamaa.G

namespace Go.Proofs.Ytanakbmhclpamaa.G
open Go.RowKit Go.Proofs.YtanakbmhclpamaaW.PrintWords Go.Proofs.YtanakbmhclpamaaW.PrintLast Go.Proofs.YtanakbmhclpamaaW.PrintMore Go.Proofs.Ytanakbmhclpamaa.Sh
attribute [local go_sem] max2_int min2_int max_two min_two max_three min_three max_four min_four
set_option linter.unusedVariables false
set_option linter.unusedSimpArgs false
open Go.Proofs.Ytanakbmhclpamaa.Mm
theorem impl_Three_evictSmall.clo131 (B : Nat) (h : Int) : delInt.Clo 131 Try.f131 B h := by
 refine ⟨Try.func131, by kernel_rfl, by rfl, fun y W hb => ?_⟩
 have HB := Aside0.mk (Below.refl W.heap.size W)
 have hc : W.cell? ⟨B, 0, none⟩ = some (.int .i64 h) := (blk_cell hb 0).trans rfl
 clear hb
 go_enter Try.func131, Try.ntmps131
 go_wp2
 go_ret
 exact ⟨rfl, HB.out⟩
def impl_Three_evictSmall.l0 : Nat → Int → Int → List (S76) → List (S76) → List Int → Option (Int × Int × (List (S76)) × (List (S76)) × List Int × ByteArray × Bool)
 | 0, _, _, _, _, _ => none
 | k + 1, x943000, x943001, x943002, x943003, x943004 => if (x943002.length : Int) > 0 then (if 0 < (x943002.length : Int) then (if 1 ≤ (x943002.length : Int) then ((some (x943002.drop (1 : Int).toNat : List (S76))).bind fun y945 => (if ((rd_T76 x943002 0).f2) > 1 then (if x943003.length < 3518437208883 then (impl_Three_evictSmall.l0 k x943000 x943001 y945 (x943003 ++ [(⟨(rd_T76 x943002 0).f0, (rd_T76 x943002 0).f1, 0⟩ : S76)]) x943004) else (none)) else ((impl_Hash.f k ((rd_T76 x943002 0).f0)).bind fun t951 => ((slices_DeleteFunc_int_int.f x943004 t951).bind fun t953 => (if t953.length < 17592186044416 then ((some (t953 ++ [t951] : List Int)).bind fun y956 => ((impl_Three_ghosts.f x943000 x943001).bind fun t959 => (if (y956.length : Int) > t959 then (if 1 ≤ (y956.length : Int) then (some (x943000, x943001, y945, x943003, (y956.drop (1 : Int).toNat), (rd_T76 x943002 0).f0, true)) else (none)) else (some (x943000, x943001, y945, x943003, y956, (rd_T76 x943002 0).f0, true))))) else (none)))))) else (none)) else (none)) else (some (x943000, x943001, x943002, x943003, x943004, (⟨#[]⟩ : ByteArray), false))
def impl_Three_evictSmall.f (k : Nat) (a0_0 : Int) (a0_1 : Int) (l0_2 : List (S76)) (l0_3 : List (S76)) (l0_4 : List Int) : Option (Int × Int × (List (S76)) × (List (S76)) × List Int × ByteArray × Bool) := impl_Three_evictSmall.l0 k a0_0 a0_1 l0_2 l0_3 l0_4
def impl_Three_evictSmall.T6 : Bool × List (List Nat × List Nat) := (true, [([], []), ([], []), ([1], [1]), ([2], [2]), ([3], [3]), ([], []), ([5], [5]), ([4, 6], [4, 6]), ([0, 0, 1, 2, 3, 4, 5, 6, 7], [0]), ([8, 0, 1, 2, 3, 4, 5, 6, 7], [8]), ([9, 7, 7, 0, 1, 2, 3, 4, 5, 6, 7], [7, 9])])
def impl_Three_evictSmall.B6 : List Nat := [0, 0, 2, 6, 14, 0, 32, 126, 255, 511, 1023]
theorem impl_Three_evictSmall.tab6 : rtab .any (opsOf Try.f127 6) = impl_Three_evictSmall.T6 := by kernel_rfl
theorem impl_Three_evictSmall.bits6 : waitsOk impl_Three_evictSmall.T6.2 impl_Three_evictSmall.B6 = true := by kernel_rfl
def impl_Three_evictSmall.T8 : Bool × List (List Nat × List Nat) := (true, [([], []), ([], []), ([1], [1]), ([2], [2]), ([3], [3]), ([], []), ([4, 5], [4, 5]), ([], []), ([7], [7]), ([6, 8, 6], [6, 8]), ([0, 0, 1, 2, 3, 4, 5, 6, 7, 8, 9], [0]), ([10, 0, 1, 2, 3, 4, 5, 6, 7, 8, 9], [10]), ([11, 9, 9, 0, 1, 2, 3, 4, 5, 6, 7, 8, 9], [9, 11])])
def impl_Three_evictSmall.B8 : List Nat := [0, 0, 2, 6, 14, 0, 62, 0, 128, 510, 1023, 2047, 4095]
theorem impl_Three_evictSmall.tab8 : rtab .any (opsOf Try.f127 8) = impl_Three_evictSmall.T8 := by kernel_rfl
theorem impl_Three_evictSmall.bits8 : waitsOk impl_Three_evictSmall.T8.2 impl_Three_evictSmall.B8 = true := by kernel_rfl
def impl_Three_evictSmall.T9 : Bool × List (List Nat × List Nat) := (true, [([], []), ([0], [0]), ([1], [1]), ([2], [2]), ([3], [3]), ([], []), ([5], [5]), ([4, 6], [4, 6])])
def impl_Three_evictSmall.B9 : List Nat := [0, 1, 3, 7, 15, 0, 32, 127]
theorem impl_Three_evictSmall.tab9 : rtab .any (opsOf Try.f127 9) = impl_Three_evictSmall.T9 := by kernel_rfl
theorem impl_Three_evictSmall.bits9 : waitsOk impl_Three_evictSmall.T9.2 impl_Three_evictSmall.B9 = true := by kernel_rfl
set_option maxHeartbeats 8000000 in
set_option maxRecDepth 100000 in
theorem impl_Three_evictSmall.calls (k : Nat) (g : Nat) (a0_0 : Int) (a0_1 : Int) (u9000_ : Value) (l0_2 : List (S76)) (u9001_ : Value) (l0_3 : List (S76)) (u9002_ : Value) (l0_4 : List Int) (r1 : Int) (r2 : Int) (r3 : List (S76)) (r4 : List (S76)) (r5 : List Int) (r6 : ByteArray) (r7 : Bool) (w0 w : World) (F : List SP)  (hM : Mem w0 F w [row k76 76 u9000_ l0_2, row k76 76 u9001_ l0_3, row (Kd.int .i64) 3 u9002_ l0_4, box 65 g [.int .i64 a0_0, .int .i64 a0_1, u9000_, u9001_, u9002_]]) (h : impl_Three_evictSmall.f k a0_0 a0_1 l0_2 l0_3 l0_4 = some (r1, r2, r3, r4, r5, r6, r7)) :
  Calls Try.prog 127 #[.pointer (some ⟨g, 0, none⟩)] w fun e w' => ∃ v2_ v3_ v4_ : Value, e = .returned (.tuple #[.string r6, .bool r7]) ∧ Mem w0 F w' [row k76 76 v2_ r3, row k76 76 v3_ r4, row (Kd.int .i64) 3 v4_ r5, box 65 g [.int .i64 r1, .int .i64 r2, v2_, v3_, v4_]] := by
 have hu76 := Try.underlying76
 have HM := hM
 clear hM
 have H := h
 clear h
 unfold impl_Three_evictSmall.f at H
 go_enter Try.func127, Try.ntmps127
 have H' := Aside0.mk H
 clear H
 go_wp2
 go_loopg [] k (fun kq w' => ∃ (x943000_1 : Int) (x943001_1 : Int) (x943002_1 : List (S76)) (x943003_1 : List (S76)) (x943004_1 : List Int) (u943002 : Value) (u943003 : Value) (u943004 : Value), Aside0 (impl_Three_evictSmall.l0 kq x943000_1 x943001_1 x943002_1 x943003_1 x943004_1 = some (r1, r2, r3, r4, r5, r6, r7)) ∧ Aside0 (kq ≤ k) ∧ Mem w0 F w' [row k76 76 u943002 x943002_1, row k76 76 u943003 x943003_1, row (Kd.int .i64) 3 u943004 x943004_1, box 65 g [.int .i64 x943000_1, .int .i64 x943001_1, u943002, u943003, u943004]])
 case atStart => exact ⟨(a0_0), (a0_1), (l0_2), (l0_3), (l0_4), (u9000_), (u9001_), (u9002_), H', ⟨Nat.le_refl _⟩, (MD HM).pick [0, 1, 2, 3]⟩
 case round =>
  clear H' HM
  obtain ⟨x943000_1, x943001_1, x943002_1, x943003_1, x943004_1, u943002, u943003, u943004, HA, HK1, HM⟩ := hrel
  cases gk with
  | zero => exact absurd HA.out (by simp [impl_Three_evictSmall.l0])
  | succ k1 =>
   have H := HA.out
   clear HA
   simp only [impl_Three_evictSmall.l0] at H
   obtain ⟨z2_0, z2_1, z2_2, z2_3, z2_4, Z2_0, Z2_1, Z2_2, Z2_3, Z2_4⟩ := bk5 (HM.bx 3 rfl)
   obtain ⟨Xo3, ko3, eo3⟩ := HM.rd 0 rfl
   subst eo3
   go_upto_if 11 with (fail)
   replace H := IT H; rcases H with ⟨c4, H⟩ | ⟨c4, H⟩
   ·replace c4 : (x943002_1.length : Int) > 0 := c4
    have c4b0 : decide (0 < (x943002_1.length : Int)) = true := decide_eq_true c4
    have c4b1 : decide (0 < x943002_1.length) = true := decide_eq_true (by omega)
    have c4b9 : decide (0 < x943002_1.length) = true := decide_eq_true (by omega)
    clear c4
    (first | rw [c4b0] | rw [c4b9] | (simp only [i64_w, i32_w]; rw [c4b0]) | skip)
    replace H := GD H; obtain ⟨c5, H⟩ := H
    replace c5 : 0 < (x943002_1.length : Int) := c5
    have c5b0 : decide (0 < (x943002_1.length : Int)) = true := decide_eq_true c5
    have c5b1 : decide (0 < x943002_1.length) = true := decide_eq_true (by omega)
    have c5b9 : decide (0 < x943002_1.length) = true := decide_eq_true (by omega)
    clear c5
    replace H := GD H; obtain ⟨c9, H⟩ := H
    have c9b0 := eq_true c9
    have c9b1 : decide (1 ≤ (x943002_1.length : Int)) = true := decide_eq_true c9
    clear c9
    replace H := BLt H; obtain ⟨y945, Ny945, H⟩ := H
    replace Ny945 := Aside0.mk Ny945
    have p943 : 0 ≤ (0 : Int) := (by omega)
    have q943 : (0 : Int) < (x943002_1.length : Int) := of_decide_eq_true AS
    obtain ⟨ad943, e943, hx943_0, hx943_1, hx943_2⟩ := at_T76 (HM.C 0 rfl).2.2 0 p943 q943
    cases e943
    have qi943 : (0 < x943002_1.length) = True := eq_true (by omega)
    (try rw [show ((0 : Int)).toNat = 0 from rfl] at hx943_0)
    (try rw [show 0 * 3 = 0 from rfl] at hx943_0)
    (try rw [Addr.add_zero'] at hx943_0)
    (try rw [show ((0 : Int)).toNat = 0 from rfl] at hx943_1)
    (try rw [show 0 * 3 = 0 from rfl] at hx943_1)
    (try rw [Addr.add_zero'] at hx943_1)
    (try rw [show ((0 : Int)).toNat = 0 from rfl] at hx943_2)
    (try rw [show 0 * 3 = 0 from rfl] at hx943_2)
    (try rw [Addr.add_zero'] at hx943_2)
    replace p943 := eq_true p943
    replace q943 := eq_true q943
    go_upto_if 28 with (first | ((with_reducible refine gN 4 rfl ?_); refine pB 4 76 [.string (⟨#[]⟩ : ByteArray), .string (⟨#[]⟩ : ByteArray), .int .i64 0] HM rfl ?_; clear HM; intro gb944 w6 HM) | ((with_reducible refine gS 4 rfl ?_); refine pS 4 4 0 [.string ((rd_T76 x943002_1 0).f0), .string ((rd_T76 x943002_1 0).f1), .int .i64 ((rd_T76 x943002_1 0).f2)] HM rfl rfl ?_; clear HM; intro w7 HM; obtain ⟨z8_0, z8_1, z8_2, z8_3, z8_4, Z8_0, Z8_1, Z8_2, Z8_3, Z8_4⟩ := bk5 (HM.bx 3 rfl)) | ((with_reducible refine gate_sl (t := 44) rfl ?_); refine pD 0 44 76 k76 _ _ 1 x943002_1 (some ad943) ko3 HM rfl Try.underlying44 info76 rfl (fun _ _ h => h) (by omega) (by have h_ : (1 : Int) ≤ ((x943002_1.length : Int) : Int) := of_decide_eq_true AS; first | exact h_ | (have e_ := (HM.C 0 rfl).1; omega)) ?_; clear HM; intro v946 HM; replace HM := HM.nmQ 0 rfl Ny945.out; obtain ⟨Xo10, ko10, eo10⟩ := HM.rd 0 rfl; subst eo10) | ((with_reducible refine gS 25 rfl ?_); refine pS 3 25 2 [.slice Xo10 y945.length ko10] HM rfl rfl ?_; clear HM; intro w11 HM; obtain ⟨z12_0, z12_1, z12_2, Z12_0, Z12_1, Z12_2⟩ := bk3 (HM.bx 4 rfl)))
    replace HM := nzM HM
    replace H := IT H; rcases H with ⟨c13, H⟩ | ⟨c13, H⟩
    ·have c13b0 : decide (1 < ((rd_T76 x943002_1 0).f2)) = true := decide_eq_true c13
     clear c13
     (first | rw [c13b0] | (simp only [i64_w, i32_w]; rw [c13b0]) | skip)
     try go_wp2_with (first | ((with_reducible refine gS 29 rfl ?_); refine pS 4 29 2 [.int .i64 0] HM rfl rfl ?_; clear HM; intro w14 HM))
     replace H := GD H; obtain ⟨c15, H⟩ := H
     have LMc15 := Aside0.mk c15
     clear c15
     obtain ⟨Xo24, ko24, eo24⟩ := HM.rd 1 rfl
     subst eo24
     refine RGN 11 [0, 1, 2, 3, 4, 5, 6, 7, 8, 9, 10] (fun a0 b a w' => ∃ (v19 : Value) (v949 : Value), a = putSel a0 b [(0, 30, .pointer (some ⟨g, 0, none⟩)), (1, 31, .pointer (some ⟨g, 0, none⟩)), (2, 32, .pointer (some ⟨g, 0, none⟩)), (3, 33, .pointer (some ⟨g, 3, none⟩)), (4, 34, .slice Xo24 x943003_1.length ko24), (5, 35, .agg #[.string ((rd_T76 x943002_1 0).f0), .string ((rd_T76 x943002_1 0).f1), .int .i64 0]), (6, 36, v19), (7, 37, v949), (8, 38, .pointer (some ⟨g, 0, none⟩)), (9, 39, .pointer (some ⟨g, 3, none⟩))] ∧ Mem w0 F w' [row k76 76 (.slice Xo10 y945.length ko10) y945, sel (b 7) (row k76 76 v949 (x943003_1 ++ [(⟨(rd_T76 x943002_1 0).f0, (rd_T76 x943002_1 0).f1, 0⟩ : S76)])) (row k76 76 (.slice Xo24 x943003_1.length ko24) x943003_1), row (Kd.int .i64) 3 u943004 x943004_1, sel (b 10) (box 65 g [.int .i64 x943000_1, .int .i64 x943001_1, .slice Xo10 y945.length ko10, v949, u943004]) (box 65 g [.int .i64 x943000_1, .int .i64 x943001_1, .slice Xo10 y945.length ko10, .slice Xo24 x943003_1.length ko24, u943004]), box 76 gb944 [.string ((rd_T76 x943002_1 0).f0), .string ((rd_T76 x943002_1 0).f1), .int .i64 0], sel (b 6) (rowR k76 76 v19 [(⟨(rd_T76 x943002_1 0).f0, (rd_T76 x943002_1 0).f1, 0⟩ : S76)]) (emp)]) impl_Three_evictSmall.tab6 impl_Three_evictSmall.bits6 ?_ ?_ ?_
     ·exact ⟨.bool false, .bool false, PS0' rfl _, (HM.drew.ems 1).pick [0, 1, 2, 3, 4, 5]⟩
     ·clear HM
      refine steps_cons ?_ ?_
      ·rintro b a w ⟨v19, v949, ha, HM⟩ hb hon hoff
       refine ⟨_, rfl, fun K hK => ?_⟩
       replace ha := Aside0.mk ha
       have e0 := PG ha 0
       exact VL (.pointer (some ⟨g, 0, none⟩)) (hK.out _ _ ⟨v19, v949, PUT ha 0 hb, HM⟩)
      refine steps_cons ?_ ?_
      ·rintro b a w ⟨v19, v949, ha, HM⟩ hb hon hoff
       refine ⟨_, rfl, fun K hK => ?_⟩
       replace ha := Aside0.mk ha
       have e0 := PG ha 0
       exact VL (.pointer (some ⟨g, 0, none⟩)) (hK.out _ _ ⟨v19, v949, PUT ha 1 hb, HM⟩)
      refine steps_cons ?_ ?_
      ·rintro b a w ⟨v19, v949, ha, HM⟩ hb hon hoff
       refine ⟨_, rfl, fun K hK => ?_⟩
       replace ha := Aside0.mk ha
       have e31 := PE ha 1 hon
       exact VL (.pointer (some ⟨g, 0, none⟩)) (hK.out _ _ ⟨v19, v949, PUT ha 2 hb, HM⟩)
      refine steps_cons ?_ ?_
      ·rintro b a w ⟨v19, v949, ha, HM⟩ hb hon hoff
       refine ⟨_, rfl, fun K hK => ?_⟩
       replace ha := Aside0.mk ha
       have e32 := PE ha 2 hon
       exact VL (.pointer (some ⟨g, 3, none⟩)) (hK.out _ _ ⟨v19, v949, PUT ha 3 hb, HM⟩)
      refine steps_cons ?_ ?_
      ·rintro b a w ⟨v19, v949, ha, HM⟩ hb hon hoff
       refine ⟨_, rfl, fun K hK => ?_⟩
       replace ha := Aside0.mk ha
       have HZ := HM
       replace HM := HM.sF 3 rfl (hoff 10 (by kernel_rfl))
       obtain ⟨z25_0, z25_1, z25_2, z25_3, z25_4, Z25_0, Z25_1, Z25_2, Z25_3, Z25_4⟩ := bk5 (HM.bx 3 rfl)
       have e33 := PE ha 3 hon
       exact VL (.slice Xo24 x943003_1.length ko24) (hK.out _ _ ⟨v19, v949, PUT ha 4 hb, HZ⟩)
      refine steps_cons ?_ ?_
      ·rintro b a w ⟨v19, v949, ha, HM⟩ hb hon hoff
       refine ⟨_, rfl, fun K hK => ?_⟩
       replace ha := Aside0.mk ha
       obtain ⟨z26_0, z26_1, z26_2, Z26_0, Z26_1, Z26_2⟩ := bk3 (HM.bx 4 rfl)
       have e4 := PG ha 4
       exact VL (.agg #[.string ((rd_T76 x943002_1 0).f0), .string ((rd_T76 x943002_1 0).f1), .int .i64 0]) (hK.out _ _ ⟨v19, v949, PUT ha 5 hb, HM⟩)
      refine steps_cons ?_ ?_
      ·rintro b a w ⟨v19, v949, ha, HM⟩ hb hon hoff
       refine ⟨_, rfl, fun K hK => ?_⟩
       replace ha := Aside0.mk ha
       have e35 := PE ha 5 hon
       refine ST (eL 36 k76 76 [(⟨(rd_T76 x943002_1 0).f0, (rd_T76 x943002_1 0).f1, 0⟩ : S76)] [.string ((rd_T76 x943002_1 0).f0), .string ((rd_T76 x943002_1 0).f1), .int .i64 0] (Reps.c3 (show Kd.M k76 _ _ _ (⟨(rd_T76 x943002_1 0).f0, (rd_T76 x943002_1 0).f1, 0⟩ : S76) [.string ((rd_T76 x943002_1 0).f0), .string ((rd_T76 x943002_1 0).f1), .int .i64 0] from (k76_mkM _ _ _ (⟨(rd_T76 x943002_1 0).f0, (rd_T76 x943002_1 0).f1, 0⟩ : S76))) (Reps.none _ _)) HM rfl ?_)
       clear HM
       intro v19 w27 HM
       exact hK.out _ _ ⟨v19, v949, PUT ha 6 hb, (HM).pick [0, 1, 2, 3, 4, 6]⟩
      refine steps_cons ?_ ?_
      ·rintro b a w ⟨v19, v949, ha, HM⟩ hb hon hoff
       refine ⟨_, rfl, fun K hK => ?_⟩
       replace ha := Aside0.mk ha
       replace HM := HM.sF 1 rfl hb
       replace HM := HM.sT 5 rfl (hon 6 (by kernel_rfl))
       obtain ⟨Xo28, ko28, eo28⟩ := HM.rdR 5 rfl
       subst eo28
       have e34 := PE ha 4 hon
       have e36 := PE ha 6 hon
       refine ST (eAq 1 (.tmp 34) (.tmp 36) 44 76 k76 (.slice Xo24 x943003_1.length ko24) x943003_1 [(⟨(rd_T76 x943002_1 0).f0, (rd_T76 x943002_1 0).f1, 0⟩ : S76)] Xo28 ([(⟨(rd_T76 x943002_1 0).f0, (rd_T76 x943002_1 0).f1, 0⟩ : S76)].length) ko28 HM rfl Try.underlying44 info76 rfl (HM.CR 5 rfl).2.2 (by have h_ := LMc15.out; simp only [List.length_singleton]; omega) (by simp) ?_ (ops := #[]) (hw := by rfl) (hs := (eval_of e34)) (hx := (eval_of e36)))
       clear HM
       intro v949 w29 HM
       exact hK.out _ _ ⟨.slice Xo28 [(⟨(rd_T76 x943002_1 0).f0, (rd_T76 x943002_1 0).f1, 0⟩ : S76)].length ko28, v949, PUT ha 7 hb, (((HM.sF 3 rfl (hoff 10 (by kernel_rfl))).iF 3 rfl (hoff 10 (by kernel_rfl))).iT 5 rfl (hon 6 (by kernel_rfl))).pick [0, 1, 2, 3, 4, 5]⟩
      refine steps_cons ?_ ?_
      ·rintro b a w ⟨v19, v949, ha, HM⟩ hb hon hoff
       refine ⟨_, rfl, fun K hK => ?_⟩
       replace ha := Aside0.mk ha
       have e30 := PE ha 0 hon
       exact VL (.pointer (some ⟨g, 0, none⟩)) (hK.out _ _ ⟨v19, v949, PUT ha 8 hb, HM⟩)
      refine steps_cons ?_ ?_
      ·rintro b a w ⟨v19, v949, ha, HM⟩ hb hon hoff
       refine ⟨_, rfl, fun K hK => ?_⟩
       replace ha := Aside0.mk ha
       have e38 := PE ha 8 hon
       exact VL (.pointer (some ⟨g, 3, none⟩)) (hK.out _ _ ⟨v19, v949, PUT ha 9 hb, HM⟩)
      refine steps_cons ?_ ?_
      ·rintro b a w ⟨v19, v949, ha, HM⟩ hb hon hoff
       refine ⟨_, rfl, fun K hK => ?_⟩
       replace ha := Aside0.mk ha
       replace HM := HM.sT 1 rfl (hon 7 (by kernel_rfl))
       replace HM := HM.sF 3 rfl hb
       obtain ⟨Xo30, ko30, eo30⟩ := HM.rd 1 rfl
       subst eo30
       have e39 := PE ha 9 hon
       have e37 := PE ha 7 hon
       refine ST (eS 3 39 3 [.slice Xo30 (x943003_1 ++ [(⟨(rd_T76 x943002_1 0).f0, (rd_T76 x943002_1 0).f1, 0⟩ : S76)]).length ko30] HM rfl rfl ?_ (hp := (eval_of e39)) (hx := (by rw [eval_of e37]; rfl)))
       clear HM
       intro w31 HM
       exact hK.out _ _ ⟨v19, .slice Xo30 (x943003_1 ++ [(⟨(rd_T76 x943002_1 0).f0, (rd_T76 x943002_1 0).f1, 0⟩ : S76)]).length ko30, PUS ha, (HM.iT 1 rfl (hon 7 (by kernel_rfl))).pick [0, 1, 2, 3, 4, 5]⟩
      exact steps_nil
     rintro _ w32 ⟨v19, v949, rfl, HM⟩
     replace HM := HM.sT 1 rfl rfl
     replace HM := HM.sT 3 rfl rfl
     replace HM := HM.sT 5 rfl rfl
     simp only [putSel, if_true, Act.put, List.setIfInBounds_toArray, List.set_cons_zero, List.set_cons_succ, gt_iff_lt, ge_iff_le]
     have H' := Aside0.mk H
     clear H
     go_wp2
     go_roundg k1
     case measure => have := HK1.out; omega
     case rel => exact ⟨(x943000_1), (x943001_1), (y945), ((x943003_1 ++ [(⟨(rd_T76 x943002_1 0).f0, (rd_T76 x943002_1 0).f1, 0⟩ : S76)])), (x943004_1), (.slice Xo10 y945.length ko10), (v949), (u943004), H', ⟨by have := HK1.out; omega⟩, (MD HM).pick [0, 1, 2, 3]⟩
    ·have c13b0 : decide (1 < ((rd_T76 x943002_1 0).f2)) = false := decide_eq_false c13
     clear c13
     (first | rw [c13b0] | (simp only [i64_w, i32_w]; rw [c13b0]) | skip)
     replace H := BN H; obtain ⟨t951, A33, H⟩ := H
     try go_wp2_with (first | ((with_reducible refine gC 118 rfl ?_); refine pC (some 42) rfl #[.string ((rd_T76 x943002_1 0).f0)] rfl Try.func118 (impl_Hash.calls k1 ((rd_T76 x943002_1 0).f0) t951 _ A33.out) ?_; rintro e w34 ⟨rfl, hd⟩; refine ⟨_, rfl, ?_⟩; replace HM := HM.drawn hd; clear hd) | ((with_reducible refine gN 5 rfl ?_); refine pB 5 3 [.int .i64 0] HM rfl ?_; clear HM; intro gb952 w35 HM) | ((with_reducible refine gS 5 rfl ?_); refine pS 5 5 0 [.int .i64 t951] HM rfl rfl ?_; clear HM; intro w36 HM))
     replace H := BN H; obtain ⟨t953, A37, H⟩ := H
     replace H := GD H; obtain ⟨c38, H⟩ := H
     have LMc38 := Aside0.mk c38
     clear c38
     replace H := BLt H; obtain ⟨y956, Ny956, H⟩ := H
     replace Ny956 := Aside0.mk Ny956
     obtain ⟨Xo48, ko48, eo48⟩ := HM.rd 2 rfl
     subst eo48
     refine RGN 13 [0, 1, 2, 3, 4, 5, 6, 7, 8, 9, 10, 11, 12] (fun a0 b a w' => ∃ (v954 : Value) (v43 : Value) (v957 : Value), a = putSel a0 b [(0, 43, .pointer (some ⟨g, 0, none⟩)), (1, 44, .pointer (some ⟨g, 0, none⟩)), (2, 45, .pointer (some ⟨g, 0, none⟩)), (3, 46, .pointer (some ⟨g, 4, none⟩)), (4, 47, .slice Xo48 x943004_1.length ko48), (5, 48, .func (.func 131) #[] #[.pointer (some ⟨gb952, 0, none⟩)]), (6, 49, v954), (7, 50, .int .i64 t951), (8, 51, v43), (9, 52, v957), (10, 53, .pointer (some ⟨g, 0, none⟩)), (11, 54, .pointer (some ⟨g, 4, none⟩))] ∧ Mem w0 F w' [row k76 76 (.slice Xo10 y945.length ko10) y945, row k76 76 u943003 x943003_1, sel (b 9) (row (Kd.int .i64) 3 v957 y956) (sel (b 6) (row (Kd.int .i64) 3 v954 t953) (row (Kd.int .i64) 3 (.slice Xo48 x943004_1.length ko48) x943004_1)), sel (b 12) (box 65 g [.int .i64 x943000_1, .int .i64 x943001_1, .slice Xo10 y945.length ko10, u943003, v957]) (box 65 g [.int .i64 x943000_1, .int .i64 x943001_1, .slice Xo10 y945.length ko10, u943003, .slice Xo48 x943004_1.length ko48]), box 76 gb944 [.string ((rd_T76 x943002_1 0).f0), .string ((rd_T76 x943002_1 0).f1), .int .i64 ((rd_T76 x943002_1 0).f2)], box 3 gb952 [.int .i64 t951], sel (b 8) (rowR (Kd.int .i64) 3 v43 [t951]) (emp)]) impl_Three_evictSmall.tab8 impl_Three_evictSmall.bits8 ?_ ?_ ?_
     ·exact ⟨.bool false, .bool false, .bool false, PS0' rfl _, (HM.drew.ems 1).pick [0, 1, 2, 3, 4, 5, 6]⟩
     ·clear HM
      refine steps_cons ?_ ?_
      ·rintro b a w ⟨v954, v43, v957, ha, HM⟩ hb hon hoff
       refine ⟨_, rfl, fun K hK => ?_⟩
       replace ha := Aside0.mk ha
       have e0 := PG ha 0
       exact VL (.pointer (some ⟨g, 0, none⟩)) (hK.out _ _ ⟨v954, v43, v957, PUT ha 0 hb, HM⟩)
      refine steps_cons ?_ ?_
      ·rintro b a w ⟨v954, v43, v957, ha, HM⟩ hb hon hoff
       refine ⟨_, rfl, fun K hK => ?_⟩
       replace ha := Aside0.mk ha
       have e0 := PG ha 0
       exact VL (.pointer (some ⟨g, 0, none⟩)) (hK.out _ _ ⟨v954, v43, v957, PUT ha 1 hb, HM⟩)
      refine steps_cons ?_ ?_
      ·rintro b a w ⟨v954, v43, v957, ha, HM⟩ hb hon hoff
       refine ⟨_, rfl, fun K hK => ?_⟩
       replace ha := Aside0.mk ha
       have e44 := PE ha 1 hon
       exact VL (.pointer (some ⟨g, 0, none⟩)) (hK.out _ _ ⟨v954, v43, v957, PUT ha 2 hb, HM⟩)
      refine steps_cons ?_ ?_
      ·rintro b a w ⟨v954, v43, v957, ha, HM⟩ hb hon hoff
       refine ⟨_, rfl, fun K hK => ?_⟩
       replace ha := Aside0.mk ha
       have e45 := PE ha 2 hon
       exact VL (.pointer (some ⟨g, 4, none⟩)) (hK.out _ _ ⟨v954, v43, v957, PUT ha 3 hb, HM⟩)
      refine steps_cons ?_ ?_
      ·rintro b a w ⟨v954, v43, v957, ha, HM⟩ hb hon hoff
       refine ⟨_, rfl, fun K hK => ?_⟩
       replace ha := Aside0.mk ha
       have HZ := HM
       replace HM := HM.sF 3 rfl (hoff 12 (by kernel_rfl))
       obtain ⟨z49_0, z49_1, z49_2, z49_3, z49_4, Z49_0, Z49_1, Z49_2, Z49_3, Z49_4⟩ := bk5 (HM.bx 3 rfl)
       have e46 := PE ha 3 hon
       exact VL (.slice Xo48 x943004_1.length ko48) (hK.out _ _ ⟨v954, v43, v957, PUT ha 4 hb, HZ⟩)
      refine steps_cons ?_ ?_
      ·rintro b a w ⟨v954, v43, v957, ha, HM⟩ hb hon hoff
       refine ⟨_, rfl, fun K hK => ?_⟩
       replace ha := Aside0.mk ha
       have e5 := PG ha 5
       exact VL (.func (.func 131) #[] #[.pointer (some ⟨gb952, 0, none⟩)]) (hK.out _ _ ⟨v954, v43, v957, PUT ha 5 hb, HM⟩)
      refine steps_cons ?_ ?_
      ·rintro b a w ⟨v954, v43, v957, ha, HM⟩ hb hon hoff
       refine ⟨_, rfl, fun K hK => ?_⟩
       replace ha := Aside0.mk ha
       replace HM := (HM.sF 2 rfl (hoff 9 (by kernel_rfl))).sF 2 rfl hb
       obtain ⟨P_, hq_, hn_, fin_⟩ := HM.man 2 5 rfl rfl
       have e47 := PE ha 4 hon
       have e48 := PE ha 5 hon
       refine ST (eC (some 49) rfl #[.slice Xo48 x943004_1.length ko48, .func (.func 131) #[] #[.pointer (some ⟨gb952, 0, none⟩)]] rfl Try.func119 (slices_DeleteFunc_int_int.calls P_ (.slice Xo48 x943004_1.length ko48) x943004_1 131 Try.f131 gb952 t951 t953 (bare _) _ (bare_below _) hq_ (impl_Three_evictSmall.clo131 _ _) (HM.bx 5 rfl) hn_ A37.out) ?_ (hargs := by (simp only [List.map_toArray, List.map_cons, List.map_nil, evc, eval_of e47, eval_of e48]) <;> rfl))
       rintro e w50 ⟨v954, rfl, hQ_, hB_, hK_⟩
       refine ⟨_, rfl, ?_⟩
       replace HM := fin_ _ _ _ hQ_ hB_ hK_
       clear hQ_ hB_ hK_ hq_ hn_ fin_ P_
       exact hK.out _ _ ⟨v954, v43, v957, PUT ha 6 hb, (HM.iF 2 rfl (hoff 9 (by kernel_rfl))).pick [0, 1, 2, 3, 4, 5, 6]⟩
      refine steps_cons ?_ ?_
      ·rintro b a w ⟨v954, v43, v957, ha, HM⟩ hb hon hoff
       refine ⟨_, rfl, fun K hK => ?_⟩
       replace ha := Aside0.mk ha
       obtain ⟨z51_0, Z51_0⟩ := bk1 (HM.bx 5 rfl)
       have e5 := PG ha 5
       exact VL (.int .i64 t951) (hK.out _ _ ⟨v954, v43, v957, PUT ha 7 hb, HM⟩)
      refine steps_cons ?_ ?_
      ·rintro b a w ⟨v954, v43, v957, ha, HM⟩ hb hon hoff
       refine ⟨_, rfl, fun K hK => ?_⟩
       replace ha := Aside0.mk ha
       have e50 := PE ha 7 hon
       refine ST (eL 51 (Kd.int .i64) 3 [t951] [.int .i64 t951] (Reps.one (show Kd.M (Kd.int .i64) _ _ _ t951 [.int .i64 t951] from rfl) (Reps.none _ _)) HM rfl ?_)
       clear HM
       intro v43 w52 HM
       exact hK.out _ _ ⟨v954, v43, v957, PUT ha 8 hb, (HM).pick [0, 1, 2, 3, 4, 5, 7]⟩
      refine steps_cons ?_ ?_
      ·rintro b a w ⟨v954, v43, v957, ha, HM⟩ hb hon hoff
       refine ⟨_, rfl, fun K hK => ?_⟩
       replace ha := Aside0.mk ha
       replace HM := (HM.sF 2 rfl hb).sT 2 rfl (hon 6 (by kernel_rfl))
       replace HM := HM.sT 6 rfl (hon 8 (by kernel_rfl))
       obtain ⟨Xo53, ko53, eo53⟩ := HM.rdR 6 rfl
       subst eo53
       have e49 := PE ha 6 hon
       have e51 := PE ha 8 hon
       refine ST (eAq 2 (.tmp 49) (.tmp 51) 60 3 (Kd.int .i64) v954 t953 [t951] Xo53 ([t951].length) ko53 HM rfl Try.underlying60 info3 rfl (HM.CR 6 rfl).2.2 (by have h_ := LMc38.out; simp only [List.length_singleton]; omega) (by simp) ?_ (ops := #[]) (hw := by rfl) (hs := (eval_of e49)) (hx := (eval_of e51)))
       clear HM
       intro v957 w54 HM
       replace HM := HM.nmQ 2 rfl Ny956.out
       exact hK.out _ _ ⟨v954, .slice Xo53 [t951].length ko53, v957, PUT ha 9 hb, (((HM.sF 3 rfl (hoff 12 (by kernel_rfl))).iF 3 rfl (hoff 12 (by kernel_rfl))).iT 6 rfl (hon 8 (by kernel_rfl))).pick [0, 1, 2, 3, 4, 5, 6]⟩
      refine steps_cons ?_ ?_
      ·rintro b a w ⟨v954, v43, v957, ha, HM⟩ hb hon hoff
       refine ⟨_, rfl, fun K hK => ?_⟩
       replace ha := Aside0.mk ha
       have e43 := PE ha 0 hon
       exact VL (.pointer (some ⟨g, 0, none⟩)) (hK.out _ _ ⟨v954, v43, v957, PUT ha 10 hb, HM⟩)
      refine steps_cons ?_ ?_
      ·rintro b a w ⟨v954, v43, v957, ha, HM⟩ hb hon hoff
       refine ⟨_, rfl, fun K hK => ?_⟩
       replace ha := Aside0.mk ha
       have e53 := PE ha 10 hon
       exact VL (.pointer (some ⟨g, 4, none⟩)) (hK.out _ _ ⟨v954, v43, v957, PUT ha 11 hb, HM⟩)
      refine steps_cons ?_ ?_
      ·rintro b a w ⟨v954, v43, v957, ha, HM⟩ hb hon hoff
       refine ⟨_, rfl, fun K hK => ?_⟩
       replace ha := Aside0.mk ha
       replace HM := HM.sT 2 rfl (hon 9 (by kernel_rfl))
       replace HM := HM.sF 3 rfl hb
       obtain ⟨Xo55, ko55, eo55⟩ := HM.rd 2 rfl
       subst eo55
       have e54 := PE ha 11 hon
       have e52 := PE ha 9 hon
       refine ST (eS 3 54 4 [.slice Xo55 y956.length ko55] HM rfl rfl ?_ (hp := (eval_of e54)) (hx := (by rw [eval_of e52]; rfl)))
       clear HM
       intro w56 HM
       exact hK.out _ _ ⟨v954, v43, .slice Xo55 y956.length ko55, PUS ha, (HM.iT 2 rfl (hon 9 (by kernel_rfl))).pick [0, 1, 2, 3, 4, 5, 6]⟩
      exact steps_nil
     rintro _ w57 ⟨v954, v43, v957, rfl, HM⟩
     replace HM := HM.sT 2 rfl rfl
     replace HM := HM.sT 3 rfl rfl
     replace HM := HM.sT 6 rfl rfl
     simp only [putSel, if_true, Act.put, List.setIfInBounds_toArray, List.set_cons_zero, List.set_cons_succ, gt_iff_lt, ge_iff_le]
     try go_wp2
     replace H := BN H; obtain ⟨t959, A58, H⟩ := H
     obtain ⟨Xo62, ko62, eo62⟩ := HM.rd 2 rfl
     subst eo62
     refine RGN 8 [0, 1, 2, 3, 4, 5, 6, 7] (fun a0 b a w' => a = putSel a0 b [(0, 55, .pointer (some ⟨g, 0, none⟩)), (1, 56, .pointer (some ⟨g, 0, none⟩)), (2, 57, .pointer (some ⟨g, 4, none⟩)), (3, 58, .slice Xo62 y956.length ko62), (4, 59, .int .i64 (y956.length : Int)), (5, 60, .pointer (some ⟨g, 0, none⟩)), (6, 61, .int .i64 t959), (7, 62, .bool (decide ((y956.length : Int) > t959)))] ∧ Mem w0 F w' [row k76 76 (.slice Xo10 y945.length ko10) y945, row k76 76 u943003 x943003_1, row (Kd.int .i64) 3 (.slice Xo62 y956.length ko62) y956, box 65 g [.int .i64 x943000_1, .int .i64 x943001_1, .slice Xo10 y945.length ko10, u943003, .slice Xo62 y956.length ko62], box 76 gb944 [.string ((rd_T76 x943002_1 0).f0), .string ((rd_T76 x943002_1 0).f1), .int .i64 ((rd_T76 x943002_1 0).f2)], box 3 gb952 [.int .i64 t951], rowR (Kd.int .i64) 3 v43 [t951]]) impl_Three_evictSmall.tab9 impl_Three_evictSmall.bits9 ?_ ?_ ?_
     ·exact ⟨PS0' rfl _, (HM.drew).pick [0, 1, 2, 3, 4, 5, 6]⟩
     ·clear HM
      refine SY ?_ ?_
      ·intro b a w ha HM hb hon hoff K hK
       have e0 := PG ha 0
       exact VL (.pointer (some ⟨g, 0, none⟩)) (hK.out _ _ ⟨PUT ha 0 hb, HM⟩)
      refine SY ?_ ?_
      ·intro b a w ha HM hb hon hoff K hK
       have e55 := PE ha 0 hon
       exact VL (.pointer (some ⟨g, 0, none⟩)) (hK.out _ _ ⟨PUT ha 1 hb, HM⟩)
      refine SY ?_ ?_
      ·intro b a w ha HM hb hon hoff K hK
       have e56 := PE ha 1 hon
       exact VL (.pointer (some ⟨g, 4, none⟩)) (hK.out _ _ ⟨PUT ha 2 hb, HM⟩)
      refine SY ?_ ?_
      ·intro b a w ha HM hb hon hoff K hK
       obtain ⟨z63_0, z63_1, z63_2, z63_3, z63_4, Z63_0, Z63_1, Z63_2, Z63_3, Z63_4⟩ := bk5 (HM.bx 3 rfl)
       have e57 := PE ha 2 hon
       exact VL (.slice Xo62 y956.length ko62) (hK.out _ _ ⟨PUT ha 3 hb, HM⟩)
      refine SY ?_ ?_
      ·intro b a w ha HM hb hon hoff K hK
       have e58 := PE ha 3 hon
       exact VL (.int .i64 (y956.length : Int)) (hK.out _ _ ⟨PUT ha 4 hb, HM⟩)
      refine SY ?_ ?_
      ·intro b a w ha HM hb hon hoff K hK
       have e0 := PG ha 0
       exact VL (.pointer (some ⟨g, 0, none⟩)) (hK.out _ _ ⟨PUT ha 5 hb, HM⟩)
      refine SY ?_ ?_
      ·intro b a w ha HM hb hon hoff K hK
       have e60 := PE ha 5 hon
       refine ST (eC (some 61) rfl #[.pointer (some ⟨g, 0, none⟩)] rfl Try.func103 (impl_Three_ghosts.calls g x943000_1 x943001_1 _ _ _ t959 _ (HM.bx 3 rfl) A58.out) ?_ (hargs := by (simp only [List.map_toArray, List.map_cons, List.map_nil, evc, eval_of e60]) <;> rfl))
       rintro e w64 ⟨rfl, nd_, rfl⟩
       refine ⟨_, rfl, ?_⟩
       replace HM := HM.drewN nd_
       exact hK.out _ _ ⟨PUT ha 6 hb, (HM).pick [0, 1, 2, 3, 4, 5, 6]⟩
      refine SY ?_ ?_
      ·intro b a w ha HM hb hon hoff K hK
       have e59 := PE ha 4 hon
       have e61 := PE ha 6 hon
       exact VL (.bool (decide ((y956.length : Int) > t959))) (hK.out _ _ ⟨PUT ha 7 hb, HM⟩)
      exact steps_nil
     rintro _ w65 ⟨rfl, HM⟩
     simp only [putSel, if_true, Act.put, List.setIfInBounds_toArray, List.set_cons_zero, List.set_cons_succ, gt_iff_lt, ge_iff_le]
     go_upto_if 62 with (fail)
     replace H := IT H; rcases H with ⟨c66, H⟩ | ⟨c66, H⟩
     ·have c66b0 : decide (t959 < (y956.length : Int)) = true := decide_eq_true c66
      clear c66
      (first | rw [c66b0] | (simp only [i64_w, i32_w]; rw [c66b0]) | skip)
      replace H := GD H; obtain ⟨c68, H⟩ := H
      have c68b0 := eq_true c68
      have c68b1 : decide (1 ≤ (y956.length : Int)) = true := decide_eq_true c68
      clear c68
      simp only [Option.some.injEq, Prod.mk.injEq] at H
      obtain ⟨rfl, rfl, rfl, rfl, rfl, rfl, rfl⟩ := H
      obtain ⟨z67_0, z67_1, z67_2, z67_3, z67_4, Z67_0, Z67_1, Z67_2, Z67_3, Z67_4⟩ := bk5 (HM.bx 3 rfl)
      go_wp2_with (first | ((with_reducible refine gate_sl (t := 60) rfl ?_); refine pD 2 60 3 (Kd.int .i64) _ _ 1 y956 Xo62 ko62 HM rfl Try.underlying60 info3 rfl (fun _ _ h => h) (by omega) (by have h_ : (1 : Int) ≤ ((y956.length : Int) : Int) := of_decide_eq_true AS; first | exact h_ | (have e_ := (HM.C 2 rfl).1; omega)) ?_; clear HM; intro v961 HM; obtain ⟨Xo69, ko69, eo69⟩ := HM.rd 2 rfl; subst eo69) | ((with_reducible refine gS 70 rfl ?_); refine pS 3 70 4 [.slice Xo69 (y956.drop (1 : Int).toNat).length ko69] HM rfl rfl ?_; clear HM; intro w70 HM; obtain ⟨z71_0, z71_1, z71_2, Z71_0, Z71_1, Z71_2⟩ := bk3 (HM.bx 4 rfl)))
      go_ret2
      first | exact ⟨_, _, _, ER, (MD HM).pick [0, 1, 2, 3]⟩ | exact ⟨ER, _, _, _, (MD HM).pick [0, 1, 2, 3]⟩
     ·have c66b0 : decide (t959 < (y956.length : Int)) = false := decide_eq_false c66
      clear c66
      (first | rw [c66b0] | (simp only [i64_w, i32_w]; rw [c66b0]) | skip)
      simp only [Option.some.injEq, Prod.mk.injEq] at H
      obtain ⟨rfl, rfl, rfl, rfl, rfl, rfl, rfl⟩ := H
      obtain ⟨z72_0, z72_1, z72_2, Z72_0, Z72_1, Z72_2⟩ := bk3 (HM.bx 4 rfl)
      go_wp2
      go_ret2
      first | exact ⟨_, _, _, ER, (MD HM).pick [0, 1, 2, 3]⟩ | exact ⟨ER, _, _, _, (MD HM).pick [0, 1, 2, 3]⟩
   ·replace c4 : ¬ ((x943002_1.length : Int) > 0) := c4
    have c4b0 : decide (0 < (x943002_1.length : Int)) = false := decide_eq_false c4
    have c4b1 : decide (0 < x943002_1.length) = false := decide_eq_false (by omega)
    have c4b9 : decide (0 < x943002_1.length) = false := decide_eq_false (by omega)
    clear c4
    (first | rw [c4b0] | rw [c4b9] | (simp only [i64_w, i32_w]; rw [c4b0]) | skip)
    simp only [Option.some.injEq, Prod.mk.injEq] at H
    obtain ⟨rfl, rfl, rfl, rfl, rfl, rfl, rfl⟩ := H
    go_wp2
    go_ret2
    first | exact ⟨_, _, _, ER, (MD HM).pick [0, 1, 2, 3]⟩ | exact ⟨ER, _, _, _, (MD HM).pick [0, 1, 2, 3]⟩
def impl_Three_evictMain.l0 : Nat → Int → Int → List (S76) → List (S76) → List Int → Option (Int × Int × (List (S76)) × (List (S76)) × List Int × ByteArray × Bool)
 | 0, _, _, _, _, _ => none
 | k + 1, x964000, x964001, x964002, x964003, x964004 => if (x964003.length : Int) > 0 then (if 0 < (x964003.length : Int) then (if 1 ≤ (x964003.length : Int) then ((some (x964003.drop (1 : Int).toNat : List (S76))).bind fun y966 => (if ((rd_T76 x964003 0).f2) = 0 then (some (x964000, x964001, x964002, y966, x964004, (rd_T76 x964003 0).f0, true)) else (if y966.length < 3518437208883 then (impl_Three_evictMain.l0 k x964000 x964001 x964002 (y966 ++ [(⟨(rd_T76 x964003 0).f0, (rd_T76 x964003 0).f1, wrap64 (((rd_T76 x964003 0).f2) - 1)⟩ : S76)]) x964004) else (none)))) else (none)) else (none)) else (some (x964000, x964001, x964002, x964003, x964004, (⟨#[]⟩ : ByteArray), false))
def impl_Three_evictMain.f (k : Nat) (a0_0 : Int) (a0_1 : Int) (l0_2 : List (S76)) (l0_3 : List (S76)) (l0_4 : List Int) : Option (Int × Int × (List (S76)) × (List (S76)) × List Int × ByteArray × Bool) := impl_Three_evictMain.l0 k a0_0 a0_1 l0_2 l0_3 l0_4
def impl_Three_evictMain.T7 : Bool × List (List Nat × List Nat) := (true, [([], []), ([], []), ([1], [1]), ([2], [2]), ([3], [3]), ([], []), ([5], [5]), ([4, 6], [4, 6]), ([0, 0, 1, 2, 3, 4, 5, 6, 7], [0]), ([8, 0, 1, 2, 3, 4, 5, 6, 7], [8]), ([9, 7, 7, 0, 1, 2, 3, 4, 5, 6, 7], [7, 9])])
def impl_Three_evictMain.B7 : List Nat := [0, 0, 2, 6, 14, 0, 32, 126, 255, 511, 1023]
theorem impl_Three_evictMain.tab7 : rtab .any (opsOf Try.f128 7) = impl_Three_evictMain.T7 := by kernel_rfl
theorem impl_Three_evictMain.bits7 : waitsOk impl_Three_evictMain.T7.2 impl_Three_evictMain.B7 = true := by kernel_rfl
set_option maxHeartbeats 8000000 in
set_option maxRecDepth 100000 in
theorem impl_Three_evictMain.calls (k : Nat) (g : Nat) (a0_0 : Int) (a0_1 : Int) (u9000_ : Value) (l0_2 : List (S76)) (u9001_ : Value) (l0_3 : List (S76)) (u9002_ : Value) (l0_4 : List Int) (r1 : Int) (r2 : Int) (r3 : List (S76)) (r4 : List (S76)) (r5 : List Int) (r6 : ByteArray) (r7 : Bool) (w0 w : World) (F : List SP)  (hM : Mem w0 F w [row k76 76 u9000_ l0_2, row k76 76 u9001_ l0_3, row (Kd.int .i64) 3 u9002_ l0_4, box 65 g [.int .i64 a0_0, .int .i64 a0_1, u9000_, u9001_, u9002_]]) (h : impl_Three_evictMain.f k a0_0 a0_1 l0_2 l0_3 l0_4 = some (r1, r2, r3, r4, r5, r6, r7)) :
  Calls Try.prog 128 #[.pointer (some ⟨g, 0, none⟩)] w fun e w' => ∃ v2_ v3_ v4_ : Value, e = .returned (.tuple #[.string r6, .bool r7]) ∧ Mem w0 F w' [row k76 76 v2_ r3, row k76 76 v3_ r4, row (Kd.int .i64) 3 v4_ r5, box 65 g [.int .i64 r1, .int .i64 r2, v2_, v3_, v4_]] := by
 have hu76 := Try.underlying76
 have HM := hM
 clear hM
 have H := h
 clear h
 unfold impl_Three_evictMain.f at H
 go_enter Try.func128, Try.ntmps128
 have H' := Aside0.mk H
 clear H
 go_wp2
 go_loopg [] k (fun kq w' => ∃ (x964003_1 : List (S76)) (u964003 : Value), Aside0 (impl_Three_evictMain.l0 kq a0_0 a0_1 l0_2 x964003_1 l0_4 = some (r1, r2, r3, r4, r5, r6, r7)) ∧ Aside0 (kq ≤ k) ∧ Mem w0 F w' [row k76 76 u9000_ l0_2, row k76 76 u964003 x964003_1, row (Kd.int .i64) 3 u9002_ l0_4, box 65 g [.int .i64 a0_0, .int .i64 a0_1, u9000_, u964003, u9002_]])
 case atStart => exact ⟨(l0_3), (u9001_), H', ⟨Nat.le_refl _⟩, (MD HM).pick [0, 1, 2, 3]⟩
 case round =>
  clear H' HM
  obtain ⟨x964003_1, u964003, HA, HK1, HM⟩ := hrel
  cases gk with
  | zero => exact absurd HA.out (by simp [impl_Three_evictMain.l0])
  | succ k1 =>
   have H := HA.out
   clear HA
   simp only [impl_Three_evictMain.l0] at H
   obtain ⟨z2_0, z2_1, z2_2, z2_3, z2_4, Z2_0, Z2_1, Z2_2, Z2_3, Z2_4⟩ := bk5 (HM.bx 3 rfl)
   obtain ⟨Xo3, ko3, eo3⟩ := HM.rd 1 rfl
   subst eo3
   go_upto_if 10 with (fail)
   replace H := IT H; rcases H with ⟨c4, H⟩ | ⟨c4, H⟩
   ·replace c4 : (x964003_1.length : Int) > 0 := c4
    have c4b0 : decide (0 < (x964003_1.length : Int)) = true := decide_eq_true c4
    have c4b1 : decide (0 < x964003_1.length) = true := decide_eq_true (by omega)
    have c4b9 : decide (0 < x964003_1.length) = true := decide_eq_true (by omega)
    clear c4
    (first | rw [c4b0] | rw [c4b9] | (simp only [i64_w, i32_w]; rw [c4b0]) | skip)
    replace H := GD H; obtain ⟨c5, H⟩ := H
    replace c5 : 0 < (x964003_1.length : Int) := c5
    have c5b0 : decide (0 < (x964003_1.length : Int)) = true := decide_eq_true c5
    have c5b1 : decide (0 < x964003_1.length) = true := decide_eq_true (by omega)
    have c5b9 : decide (0 < x964003_1.length) = true := decide_eq_true (by omega)
    clear c5
    replace H := GD H; obtain ⟨c9, H⟩ := H
    have c9b0 := eq_true c9
    have c9b1 : decide (1 ≤ (x964003_1.length : Int)) = true := decide_eq_true c9
    clear c9
    replace H := BLt H; obtain ⟨y966, Ny966, H⟩ := H
    replace Ny966 := Aside0.mk Ny966
    have p964 : 0 ≤ (0 : Int) := (by omega)
    have q964 : (0 : Int) < (x964003_1.length : Int) := of_decide_eq_true AS
    obtain ⟨ad964, e964, hx964_0, hx964_1, hx964_2⟩ := at_T76 (HM.C 1 rfl).2.2 0 p964 q964
    cases e964
    have qi964 : (0 < x964003_1.length) = True := eq_true (by omega)
    (try rw [show ((0 : Int)).toNat = 0 from rfl] at hx964_0)
    (try rw [show 0 * 3 = 0 from rfl] at hx964_0)
    (try rw [Addr.add_zero'] at hx964_0)
    (try rw [show ((0 : Int)).toNat = 0 from rfl] at hx964_1)
    (try rw [show 0 * 3 = 0 from rfl] at hx964_1)
    (try rw [Addr.add_zero'] at hx964_1)
    (try rw [show ((0 : Int)).toNat = 0 from rfl] at hx964_2)
    (try rw [show 0 * 3 = 0 from rfl] at hx964_2)
    (try rw [Addr.add_zero'] at hx964_2)
    replace p964 := eq_true p964
    replace q964 := eq_true q964
    go_upto_if 27 with (first | ((with_reducible refine gN 4 rfl ?_); refine pB 4 76 [.string (⟨#[]⟩ : ByteArray), .string (⟨#[]⟩ : ByteArray), .int .i64 0] HM rfl ?_; clear HM; intro gb965 w6 HM) | ((with_reducible refine gS 4 rfl ?_); refine pS 4 4 0 [.string ((rd_T76 x964003_1 0).f0), .string ((rd_T76 x964003_1 0).f1), .int .i64 ((rd_T76 x964003_1 0).f2)] HM rfl rfl ?_; clear HM; intro w7 HM; obtain ⟨z8_0, z8_1, z8_2, z8_3, z8_4, Z8_0, Z8_1, Z8_2, Z8_3, Z8_4⟩ := bk5 (HM.bx 3 rfl)) | ((with_reducible refine gate_sl (t := 44) rfl ?_); refine pD 1 44 76 k76 _ _ 1 x964003_1 (some ad964) ko3 HM rfl Try.underlying44 info76 rfl (fun _ _ h => h) (by omega) (by have h_ : (1 : Int) ≤ ((x964003_1.length : Int) : Int) := of_decide_eq_true AS; first | exact h_ | (have e_ := (HM.C 1 rfl).1; omega)) ?_; clear HM; intro v967 HM; replace HM := HM.nmQ 1 rfl Ny966.out; obtain ⟨Xo10, ko10, eo10⟩ := HM.rd 1 rfl; subst eo10) | ((with_reducible refine gS 24 rfl ?_); refine pS 3 24 3 [.slice Xo10 y966.length ko10] HM rfl rfl ?_; clear HM; intro w11 HM; obtain ⟨z12_0, z12_1, z12_2, Z12_0, Z12_1, Z12_2⟩ := bk3 (HM.bx 4 rfl)))
    replace HM := nzM HM
    replace H := IT H; rcases H with ⟨c13, H⟩ | ⟨c13, H⟩
    ·have c13b0 : (((rd_T76 x964003_1 0).f2) == 0) = true := beq_iff_eq.mpr c13
     have c13b1 : (((rd_T76 x964003_1 0).f2) != 0) = false := bne_eq_false_iff_eq.mpr c13
     clear c13
     (first | rw [c13b0] | (simp only [i64_w, i32_w]; rw [c13b0]) | skip)
     simp only [Option.some.injEq, Prod.mk.injEq] at H
     obtain ⟨rfl, rfl, rfl, rfl, rfl, rfl, rfl⟩ := H
     go_wp2
     go_ret2
     first | exact ⟨_, _, _, ER, (MD HM).pick [0, 1, 2, 3]⟩ | exact ⟨ER, _, _, _, (MD HM).pick [0, 1, 2, 3]⟩
    ·have c13b0 : (((rd_T76 x964003_1 0).f2) == 0) = false := beq_eq_false_iff_ne.mpr c13
     have c13b1 : (((rd_T76 x964003_1 0).f2) != 0) = true := bne_iff_ne.mpr c13
     (first | rw [c13b0] | (simp only [i64_w, i32_w]; rw [c13b0]) | skip)
     try go_wp2_with (first | ((with_reducible refine gS 33 rfl ?_); refine pS 4 33 2 [.int .i64 (wrap64 (((rd_T76 x964003_1 0).f2) - 1))] HM rfl rfl ?_; clear HM; intro w14 HM))
     replace H := GD H; obtain ⟨c15, H⟩ := H
     have LMc15 := Aside0.mk c15
     clear c15
     refine RGN 11 [0, 1, 2, 3, 4, 5, 6, 7, 8, 9, 10] (fun a0 b a w' => ∃ (v19 : Value) (v970 : Value), a = putSel a0 b [(0, 34, .pointer (some ⟨g, 0, none⟩)), (1, 35, .pointer (some ⟨g, 0, none⟩)), (2, 36, .pointer (some ⟨g, 0, none⟩)), (3, 37, .pointer (some ⟨g, 3, none⟩)), (4, 38, .slice Xo10 y966.length ko10), (5, 39, .agg #[.string ((rd_T76 x964003_1 0).f0), .string ((rd_T76 x964003_1 0).f1), .int .i64 (wrap64 (((rd_T76 x964003_1 0).f2) - 1))]), (6, 40, v19), (7, 41, v970), (8, 42, .pointer (some ⟨g, 0, none⟩)), (9, 43, .pointer (some ⟨g, 3, none⟩))] ∧ Mem w0 F w' [row k76 76 u9000_ l0_2, sel (b 7) (row k76 76 v970 (y966 ++ [(⟨(rd_T76 x964003_1 0).f0, (rd_T76 x964003_1 0).f1, wrap64 (((rd_T76 x964003_1 0).f2) - 1)⟩ : S76)])) (row k76 76 (.slice Xo10 y966.length ko10) y966), row (Kd.int .i64) 3 u9002_ l0_4, sel (b 10) (box 65 g [.int .i64 a0_0, .int .i64 a0_1, u9000_, v970, u9002_]) (box 65 g [.int .i64 a0_0, .int .i64 a0_1, u9000_, .slice Xo10 y966.length ko10, u9002_]), box 76 gb965 [.string ((rd_T76 x964003_1 0).f0), .string ((rd_T76 x964003_1 0).f1), .int .i64 (wrap64 (((rd_T76 x964003_1 0).f2) - 1))], sel (b 6) (rowR k76 76 v19 [(⟨(rd_T76 x964003_1 0).f0, (rd_T76 x964003_1 0).f1, wrap64 (((rd_T76 x964003_1 0).f2) - 1)⟩ : S76)]) (emp)]) impl_Three_evictMain.tab7 impl_Three_evictMain.bits7 ?_ ?_ ?_
     ·exact ⟨.bool false, .bool false, PS0' rfl _, (HM.drew.ems 1).pick [0, 1, 2, 3, 4, 5]⟩
     ·clear HM
      refine steps_cons ?_ ?_
      ·rintro b a w ⟨v19, v970, ha, HM⟩ hb hon hoff
       refine ⟨_, rfl, fun K hK => ?_⟩
       replace ha := Aside0.mk ha
       have e0 := PG ha 0
       exact VL (.pointer (some ⟨g, 0, none⟩)) (hK.out _ _ ⟨v19, v970, PUT ha 0 hb, HM⟩)
      refine steps_cons ?_ ?_
      ·rintro b a w ⟨v19, v970, ha, HM⟩ hb hon hoff
       refine ⟨_, rfl, fun K hK => ?_⟩
       replace ha := Aside0.mk ha
       have e0 := PG ha 0
       exact VL (.pointer (some ⟨g, 0, none⟩)) (hK.out _ _ ⟨v19, v970, PUT ha 1 hb, HM⟩)
      refine steps_cons ?_ ?_
      ·rintro b a w ⟨v19, v970, ha, HM⟩ hb hon hoff
       refine ⟨_, rfl, fun K hK => ?_⟩
       replace ha := Aside0.mk ha
       have e35 := PE ha 1 hon
       exact VL (.pointer (some ⟨g, 0, none⟩)) (hK.out _ _ ⟨v19, v970, PUT ha 2 hb, HM⟩)
      refine steps_cons ?_ ?_
      ·rintro b a w ⟨v19, v970, ha, HM⟩ hb hon hoff
       refine ⟨_, rfl, fun K hK => ?_⟩
       replace ha := Aside0.mk ha
       have e36 := PE ha 2 hon
       exact VL (.pointer (some ⟨g, 3, none⟩)) (hK.out _ _ ⟨v19, v970, PUT ha 3 hb, HM⟩)
      refine steps_cons ?_ ?_
      ·rintro b a w ⟨v19, v970, ha, HM⟩ hb hon hoff
       refine ⟨_, rfl, fun K hK => ?_⟩
       replace ha := Aside0.mk ha
       have HZ := HM
       replace HM := HM.sF 3 rfl (hoff 10 (by kernel_rfl))
       obtain ⟨z24_0, z24_1, z24_2, z24_3, z24_4, Z24_0, Z24_1, Z24_2, Z24_3, Z24_4⟩ := bk5 (HM.bx 3 rfl)
       have e37 := PE ha 3 hon
       exact VL (.slice Xo10 y966.length ko10) (hK.out _ _ ⟨v19, v970, PUT ha 4 hb, HZ⟩)
      refine steps_cons ?_ ?_
      ·rintro b a w ⟨v19, v970, ha, HM⟩ hb hon hoff
       refine ⟨_, rfl, fun K hK => ?_⟩
       replace ha := Aside0.mk ha
       obtain ⟨z25_0, z25_1, z25_2, Z25_0, Z25_1, Z25_2⟩ := bk3 (HM.bx 4 rfl)
       have e4 := PG ha 4
       exact VL (.agg #[.string ((rd_T76 x964003_1 0).f0), .string ((rd_T76 x964003_1 0).f1), .int .i64 (wrap64 (((rd_T76 x964003_1 0).f2) - 1))]) (hK.out _ _ ⟨v19, v970, PUT ha 5 hb, HM⟩)
      refine steps_cons ?_ ?_
      ·rintro b a w ⟨v19, v970, ha, HM⟩ hb hon hoff
       refine ⟨_, rfl, fun K hK => ?_⟩
       replace ha := Aside0.mk ha
       have e39 := PE ha 5 hon
       refine ST (eL 40 k76 76 [(⟨(rd_T76 x964003_1 0).f0, (rd_T76 x964003_1 0).f1, wrap64 (((rd_T76 x964003_1 0).f2) - 1)⟩ : S76)] [.string ((rd_T76 x964003_1 0).f0), .string ((rd_T76 x964003_1 0).f1), .int .i64 (wrap64 (((rd_T76 x964003_1 0).f2) - 1))] (Reps.c3 (show Kd.M k76 _ _ _ (⟨(rd_T76 x964003_1 0).f0, (rd_T76 x964003_1 0).f1, wrap64 (((rd_T76 x964003_1 0).f2) - 1)⟩ : S76) [.string ((rd_T76 x964003_1 0).f0), .string ((rd_T76 x964003_1 0).f1), .int .i64 (wrap64 (((rd_T76 x964003_1 0).f2) - 1))] from (k76_mkM _ _ _ (⟨(rd_T76 x964003_1 0).f0, (rd_T76 x964003_1 0).f1, wrap64 (((rd_T76 x964003_1 0).f2) - 1)⟩ : S76))) (Reps.none _ _)) HM rfl ?_)
       clear HM
       intro v19 w26 HM
       exact hK.out _ _ ⟨v19, v970, PUT ha 6 hb, (HM).pick [0, 1, 2, 3, 4, 6]⟩
      refine steps_cons ?_ ?_
      ·rintro b a w ⟨v19, v970, ha, HM⟩ hb hon hoff
       refine ⟨_, rfl, fun K hK => ?_⟩
       replace ha := Aside0.mk ha
       replace HM := HM.sF 1 rfl hb
       replace HM := HM.sT 5 rfl (hon 6 (by kernel_rfl))
       obtain ⟨Xo27, ko27, eo27⟩ := HM.rdR 5 rfl
       subst eo27
       have e38 := PE ha 4 hon
       have e40 := PE ha 6 hon
       refine ST (eAq 1 (.tmp 38) (.tmp 40) 44 76 k76 (.slice Xo10 y966.length ko10) y966 [(⟨(rd_T76 x964003_1 0).f0, (rd_T76 x964003_1 0).f1, wrap64 (((rd_T76 x964003_1 0).f2) - 1)⟩ : S76)] Xo27 ([(⟨(rd_T76 x964003_1 0).f0, (rd_T76 x964003_1 0).f1, wrap64 (((rd_T76 x964003_1 0).f2) - 1)⟩ : S76)].length) ko27 HM rfl Try.underlying44 info76 rfl (HM.CR 5 rfl).2.2 (by have h_ := LMc15.out; simp only [List.length_singleton]; omega) (by simp) ?_ (ops := #[]) (hw := by rfl) (hs := (eval_of e38)) (hx := (eval_of e40)))
       clear HM
       intro v970 w28 HM
       exact hK.out _ _ ⟨.slice Xo27 [(⟨(rd_T76 x964003_1 0).f0, (rd_T76 x964003_1 0).f1, wrap64 (((rd_T76 x964003_1 0).f2) - 1)⟩ : S76)].length ko27, v970, PUT ha 7 hb, (((HM.sF 3 rfl (hoff 10 (by kernel_rfl))).iF 3 rfl (hoff 10 (by kernel_rfl))).iT 5 rfl (hon 6 (by kernel_rfl))).pick [0, 1, 2, 3, 4, 5]⟩
      refine steps_cons ?_ ?_
      ·rintro b a w ⟨v19, v970, ha, HM⟩ hb hon hoff
       refine ⟨_, rfl, fun K hK => ?_⟩
       replace ha := Aside0.mk ha
       have e34 := PE ha 0 hon
       exact VL (.pointer (some ⟨g, 0, none⟩)) (hK.out _ _ ⟨v19, v970, PUT ha 8 hb, HM⟩)
      refine steps_cons ?_ ?_
      ·rintro b a w ⟨v19, v970, ha, HM⟩ hb hon hoff
       refine ⟨_, rfl, fun K hK => ?_⟩
       replace ha := Aside0.mk ha
       have e42 := PE ha 8 hon
       exact VL (.pointer (some ⟨g, 3, none⟩)) (hK.out _ _ ⟨v19, v970, PUT ha 9 hb, HM⟩)
      refine steps_cons ?_ ?_
      ·rintro b a w ⟨v19, v970, ha, HM⟩ hb hon hoff
       refine ⟨_, rfl, fun K hK => ?_⟩
       replace ha := Aside0.mk ha
       replace HM := HM.sT 1 rfl (hon 7 (by kernel_rfl))
       replace HM := HM.sF 3 rfl hb
       obtain ⟨Xo29, ko29, eo29⟩ := HM.rd 1 rfl
       subst eo29
       have e43 := PE ha 9 hon
       have e41 := PE ha 7 hon
       refine ST (eS 3 43 3 [.slice Xo29 (y966 ++ [(⟨(rd_T76 x964003_1 0).f0, (rd_T76 x964003_1 0).f1, wrap64 (((rd_T76 x964003_1 0).f2) - 1)⟩ : S76)]).length ko29] HM rfl rfl ?_ (hp := (eval_of e43)) (hx := (by rw [eval_of e41]; rfl)))
       clear HM
       intro w30 HM
       exact hK.out _ _ ⟨v19, .slice Xo29 (y966 ++ [(⟨(rd_T76 x964003_1 0).f0, (rd_T76 x964003_1 0).f1, wrap64 (((rd_T76 x964003_1 0).f2) - 1)⟩ : S76)]).length ko29, PUS ha, (HM.iT 1 rfl (hon 7 (by kernel_rfl))).pick [0, 1, 2, 3, 4, 5]⟩
      exact steps_nil
     rintro _ w31 ⟨v19, v970, rfl, HM⟩
     replace HM := HM.sT 1 rfl rfl
     replace HM := HM.sT 3 rfl rfl
     replace HM := HM.sT 5 rfl rfl
     simp only [putSel, if_true, Act.put, List.setIfInBounds_toArray, List.set_cons_zero, List.set_cons_succ, gt_iff_lt, ge_iff_le]
     have H' := Aside0.mk H
     clear H
     go_wp2
     go_roundg k1
     case measure => have := HK1.out; omega
     case rel => exact ⟨((y966 ++ [(⟨(rd_T76 x964003_1 0).f0, (rd_T76 x964003_1 0).f1, wrap64 (((rd_T76 x964003_1 0).f2) - 1)⟩ : S76)])), (v970), H', ⟨by have := HK1.out; omega⟩, (MD HM).pick [0, 1, 2, 3]⟩
   ·replace c4 : ¬ ((x964003_1.length : Int) > 0) := c4
    have c4b0 : decide (0 < (x964003_1.length : Int)) = false := decide_eq_false c4
    have c4b1 : decide (0 < x964003_1.length) = false := decide_eq_false (by omega)
    have c4b9 : decide (0 < x964003_1.length) = false := decide_eq_false (by omega)
    clear c4
    (first | rw [c4b0] | rw [c4b9] | (simp only [i64_w, i32_w]; rw [c4b0]) | skip)
    simp only [Option.some.injEq, Prod.mk.injEq] at H
    obtain ⟨rfl, rfl, rfl, rfl, rfl, rfl, rfl⟩ := H
    go_wp2
    go_ret2
    first | exact ⟨_, _, _, ER, (MD HM).pick [0, 1, 2, 3]⟩ | exact ⟨ER, _, _, _, (MD HM).pick [0, 1, 2, 3]⟩
def impl_Three_evict.j0 : Nat → Bool → Int → Int → List (S76) → List (S76) → List Int → Option (Int × Int × (List (S76)) × (List (S76)) × List Int × ByteArray × Bool)
 | 0, _, _, _, _, _, _ => none
 | k + 1, x23, x973000, x973001, x973002, x973003, x973004 => if x23 = true then ((impl_Three_evictSmall.f k x973000 x973001 x973002 x973003 x973004).bind fun bt973 => (if bt973.2.2.2.2.2.2 = true then (some (bt973.1, bt973.2.1, bt973.2.2.1, bt973.2.2.2.1, bt973.2.2.2.2.1, bt973.2.2.2.2.2.1, true)) else ((impl_Three_evictMain.f k bt973.1 bt973.2.1 bt973.2.2.1 bt973.2.2.2.1 bt973.2.2.2.2.1).bind fun bt986 => (some (bt986.1, bt986.2.1, bt986.2.2.1, bt986.2.2.2.1, bt986.2.2.2.2.1, bt986.2.2.2.2.2.1, bt986.2.2.2.2.2.2))))) else ((impl_Three_evictMain.f k x973000 x973001 x973002 x973003 x973004).bind fun bt999 => (some (bt999.1, bt999.2.1, bt999.2.2.1, bt999.2.2.2.1, bt999.2.2.2.2.1, bt999.2.2.2.2.2.1, bt999.2.2.2.2.2.2)))
def impl_Three_evict.f (k : Nat) (a0_0 : Int) (a0_1 : Int) (l0_2 : List (S76)) (l0_3 : List (S76)) (l0_4 : List Int) : Option (Int × Int × (List (S76)) × (List (S76)) × List Int × ByteArray × Bool) := if (l0_2.length : Int) ≥ a0_1 then (impl_Three_evict.j0 k true a0_0 a0_1 l0_2 l0_3 l0_4) else (impl_Three_evict.j0 k ((l0_3.length : Int) == 0) a0_0 a0_1 l0_2 l0_3 l0_4)
set_option maxHeartbeats 8000000 in
set_option maxRecDepth 100000 in
theorem impl_Three_evict.calls (k : Nat) (g : Nat) (a0_0 : Int) (a0_1 : Int) (u9000_ : Value) (l0_2 : List (S76)) (u9001_ : Value) (l0_3 : List (S76)) (u9002_ : Value) (l0_4 : List Int) (r1 : Int) (r2 : Int) (r3 : List (S76)) (r4 : List (S76)) (r5 : List Int) (r6 : ByteArray) (r7 : Bool) (w0 w : World) (F : List SP)  (hM : Mem w0 F w [row k76 76 u9000_ l0_2, row k76 76 u9001_ l0_3, row (Kd.int .i64) 3 u9002_ l0_4, box 65 g [.int .i64 a0_0, .int .i64 a0_1, u9000_, u9001_, u9002_]]) (h : impl_Three_evict.f k a0_0 a0_1 l0_2 l0_3 l0_4 = some (r1, r2, r3, r4, r5, r6, r7)) :
  Calls Try.prog 117 #[.pointer (some ⟨g, 0, none⟩)] w fun e w' => ∃ v2_ v3_ v4_ : Value, e = .returned (.tuple #[.string r6, .bool r7]) ∧ Mem w0 F w' [row k76 76 v2_ r3, row k76 76 v3_ r4, row (Kd.int .i64) 3 v4_ r5, box 65 g [.int .i64 r1, .int .i64 r2, v2_, v3_, v4_]] := by
 have HM := hM
 clear hM
 have H := h
 clear h
 unfold impl_Three_evict.f at H
 go_enter Try.func117, Try.ntmps117
 have HC2 := Aside0.mk H
 clear H
 go_upto_region 1 with (fail)
 repeat (go_quiet (fail); go_upto_region 1 with (fail))
 go_cut [23] (fun v23 wc => ∃ (kq : Nat) (x23_1 : Bool), v23 = .bool x23_1 ∧ Aside0 (impl_Three_evict.j0 kq x23_1 a0_0 a0_1 l0_2 l0_3 l0_4 = some (r1, r2, r3, r4, r5, r6, r7)) ∧ Aside0 (kq ≤ k) ∧ Mem w0 F wc [row k76 76 u9000_ l0_2, row k76 76 u9001_ l0_3, row (Kd.int .i64) 3 u9002_ l0_4, box 65 g [.int .i64 a0_0, .int .i64 a0_1, u9000_, u9001_, u9002_]])
 case first =>
  have H := HC2.out
  clear HC2
  replace H := IT H; rcases H with ⟨c5, H⟩ | ⟨c5, H⟩
  ·have c5b0 : decide (a0_1 ≤ (l0_2.length : Int)) = true := decide_eq_true c5
   clear c5
   have H' := Aside0.mk H
   clear H
   obtain ⟨z3_0, z3_1, z3_2, z3_3, z3_4, Z3_0, Z3_1, Z3_2, Z3_3, Z3_4⟩ := bk5 (HM.bx 3 rfl)
   obtain ⟨Xo4, ko4, eo4⟩ := HM.rd 0 rfl
   subst eo4
   go_wp2
   repeat (go_quiet (fail); try go_wp2_with (fail))
   go_meet
   case rel => exact ⟨_, (true), RS, H', ⟨by first | omega | exact Nat.le_refl _⟩, (MD HM).pick [0, 1, 2, 3]⟩
  ·have c5b0 : decide (a0_1 ≤ (l0_2.length : Int)) = false := decide_eq_false c5
   clear c5
   have H' := Aside0.mk H
   clear H
   obtain ⟨z3_0, z3_1, z3_2, z3_3, z3_4, Z3_0, Z3_1, Z3_2, Z3_3, Z3_4⟩ := bk5 (HM.bx 3 rfl)
   obtain ⟨Xo4, ko4, eo4⟩ := HM.rd 0 rfl
   subst eo4
   obtain ⟨Xo6, ko6, eo6⟩ := HM.rd 1 rfl
   subst eo6
   go_wp2
   repeat (go_quiet (fail); try go_wp2_with (fail))
   go_meet
   case rel => exact ⟨_, (((l0_3.length : Int) == 0)), RS, H', ⟨by first | omega | exact Nat.le_refl _⟩, (MD HM).pick [0, 1, 2, 3]⟩
 case rest =>
  clear HC2 HM
  obtain ⟨kq, x23_1, rfl, HA, HJ1, HM⟩ := hcut
  cases kq with
  | zero => exact absurd HA.out (by simp [impl_Three_evict.j0])
  | succ kj1 =>
   have H := HA.out
   clear HA
   simp only [impl_Three_evict.j0] at H
   go_upto_if 23 with (fail)
   repeat (go_quiet (fail); go_upto_if 23 with (fail))
   replace H := IB H
   rcases H with ⟨c7, H⟩ | ⟨c7, H⟩
   ·subst c7
    replace H := BN H; obtain ⟨⟨t973, t974, t975, t978, t981, t984, t985⟩, A8, H⟩ := H
    go_upto_if 29 with (first | ((with_reducible refine gC 127 rfl ?_); refine pC (some 26) rfl #[.pointer (some ⟨g, 0, none⟩)] rfl Try.func127 (impl_Three_evictSmall.calls kj1 g a0_0 a0_1 u9000_ l0_2 u9001_ l0_3 u9002_ l0_4 t973 t974 t975 t978 t981 t984 t985 _ _ _ (HM.focus [] [0, 1, 2, 3]) A8.out) ?_; rintro e w9 ⟨v976, v979, v982, rfl, hR⟩; refine ⟨_, rfl, ?_⟩; replace HM := nzM hR.unfocus; clear hR))
    repeat (go_quiet (first | ((with_reducible refine gC 127 rfl ?_); refine pC (some 26) rfl #[.pointer (some ⟨g, 0, none⟩)] rfl Try.func127 (impl_Three_evictSmall.calls kj1 g a0_0 a0_1 u9000_ l0_2 u9001_ l0_3 u9002_ l0_4 t973 t974 t975 t978 t981 t984 t985 _ _ _ (HM.focus [] [0, 1, 2, 3]) A8.out) ?_; rintro e w9 ⟨v976, v979, v982, rfl, hR⟩; refine ⟨_, rfl, ?_⟩; replace HM := nzM hR.unfocus; clear hR)); go_upto_if 29 with (first | ((with_reducible refine gC 127 rfl ?_); refine pC (some 26) rfl #[.pointer (some ⟨g, 0, none⟩)] rfl Try.func127 (impl_Three_evictSmall.calls kj1 g a0_0 a0_1 u9000_ l0_2 u9001_ l0_3 u9002_ l0_4 t973 t974 t975 t978 t981 t984 t985 _ _ _ (HM.focus [] [0, 1, 2, 3]) A8.out) ?_; rintro e w9 ⟨v976, v979, v982, rfl, hR⟩; refine ⟨_, rfl, ?_⟩; replace HM := nzM hR.unfocus; clear hR)))
    replace H := IB H
    rcases H with ⟨c10, H⟩ | ⟨c10, H⟩
    ·subst c10
     simp only [Option.some.injEq, Prod.mk.injEq] at H
     obtain ⟨rfl, rfl, rfl, rfl, rfl, rfl, rfl⟩ := H
     go_wp2
     repeat (go_quiet (fail); try go_wp2_with (fail))
     go_ret2
     first | exact ⟨_, _, _, ER, (MD HM).pick [0, 1, 2, 3]⟩ | exact ⟨ER, _, _, _, (MD HM).pick [0, 1, 2, 3]⟩
    ·subst c10
     replace H := BN H; obtain ⟨⟨t986, t987, t988, t991, t994, t997, t998⟩, A11, H⟩ := H
     simp only [Option.some.injEq, Prod.mk.injEq] at H
     obtain ⟨rfl, rfl, rfl, rfl, rfl, rfl, rfl⟩ := H
     go_wp2_with (first | ((with_reducible refine gC 128 rfl ?_); refine pC (some 32) rfl #[.pointer (some ⟨g, 0, none⟩)] rfl Try.func128 (impl_Three_evictMain.calls kj1 g t973 t974 v976 t975 v979 t978 v982 t981 t986 t987 t988 t991 t994 t997 t998 _ _ _ (HM.focus [] [0, 1, 2, 3]) A11.out) ?_; rintro e w12 ⟨v989, v992, v995, rfl, hR⟩; refine ⟨_, rfl, ?_⟩; replace HM := nzM hR.unfocus; clear hR))
     repeat (go_quiet (first | ((with_reducible refine gC 128 rfl ?_); refine pC (some 32) rfl #[.pointer (some ⟨g, 0, none⟩)] rfl Try.func128 (impl_Three_evictMain.calls kj1 g t973 t974 v976 t975 v979 t978 v982 t981 t986 t987 t988 t991 t994 t997 t998 _ _ _ (HM.focus [] [0, 1, 2, 3]) A11.out) ?_; rintro e w12 ⟨v989, v992, v995, rfl, hR⟩; refine ⟨_, rfl, ?_⟩; replace HM := nzM hR.unfocus; clear hR)); try go_wp2_with (first | ((with_reducible refine gC 128 rfl ?_); refine pC (some 32) rfl #[.pointer (some ⟨g, 0, none⟩)] rfl Try.func128 (impl_Three_evictMain.calls kj1 g t973 t974 v976 t975 v979 t978 v982 t981 t986 t987 t988 t991 t994 t997 t998 _ _ _ (HM.focus [] [0, 1, 2, 3]) A11.out) ?_; rintro e w12 ⟨v989, v992, v995, rfl, hR⟩; refine ⟨_, rfl, ?_⟩; replace HM := nzM hR.unfocus; clear hR)))
     go_ret2
     first | exact ⟨_, _, _, ER, (MD HM).pick [0, 1, 2, 3]⟩ | exact ⟨ER, _, _, _, (MD HM).pick [0, 1, 2, 3]⟩
   ·subst c7
    replace H := BN H; obtain ⟨⟨t999, t1000, t1001, t1004, t1007, t1010, t1011⟩, A13, H⟩ := H
    simp only [Option.some.injEq, Prod.mk.injEq] at H
    obtain ⟨rfl, rfl, rfl, rfl, rfl, rfl, rfl⟩ := H
    go_wp2_with (first | ((with_reducible refine gC 128 rfl ?_); refine pC (some 36) rfl #[.pointer (some ⟨g, 0, none⟩)] rfl Try.func128 (impl_Three_evictMain.calls kj1 g a0_0 a0_1 u9000_ l0_2 u9001_ l0_3 u9002_ l0_4 t999 t1000 t1001 t1004 t1007 t1010 t1011 _ _ _ (HM.focus [] [0, 1, 2, 3]) A13.out) ?_; rintro e w14 ⟨v1002, v1005, v1008, rfl, hR⟩; refine ⟨_, rfl, ?_⟩; replace HM := nzM hR.unfocus; clear hR))
    repeat (go_quiet (first | ((with_reducible refine gC 128 rfl ?_); refine pC (some 36) rfl #[.pointer (some ⟨g, 0, none⟩)] rfl Try.func128 (impl_Three_evictMain.calls kj1 g a0_0 a0_1 u9000_ l0_2 u9001_ l0_3 u9002_ l0_4 t999 t1000 t1001 t1004 t1007 t1010 t1011 _ _ _ (HM.focus [] [0, 1, 2, 3]) A13.out) ?_; rintro e w14 ⟨v1002, v1005, v1008, rfl, hR⟩; refine ⟨_, rfl, ?_⟩; replace HM := nzM hR.unfocus; clear hR)); try go_wp2_with (first | ((with_reducible refine gC 128 rfl ?_); refine pC (some 36) rfl #[.pointer (some ⟨g, 0, none⟩)] rfl Try.func128 (impl_Three_evictMain.calls kj1 g a0_0 a0_1 u9000_ l0_2 u9001_ l0_3 u9002_ l0_4 t999 t1000 t1001 t1004 t1007 t1010 t1011 _ _ _ (HM.focus [] [0, 1, 2, 3]) A13.out) ?_; rintro e w14 ⟨v1002, v1005, v1008, rfl, hR⟩; refine ⟨_, rfl, ?_⟩; replace HM := nzM hR.unfocus; clear hR)))
    go_ret2
    first | exact ⟨_, _, _, ER, (MD HM).pick [0, 1, 2, 3]⟩ | exact ⟨ER, _, _, _, (MD HM).pick [0, 1, 2, 3]⟩
theorem impl_Put.clo120 (B : Nat) (h : Int) : delInt.Clo 120 Try.f120 B h := by
 refine ⟨Try.func120, by kernel_rfl, by rfl, fun y W hb => ?_⟩
 have HB := Aside0.mk (Below.refl W.heap.size W)
 have hc : W.cell? ⟨B, 0, none⟩ = some (.int .i64 h) := (blk_cell hb 0).trans rfl
 clear hb
 go_enter Try.func120, Try.ntmps120
 go_wp2
 go_ret
 exact ⟨rfl, HB.out⟩
mutual
def impl_Put.j0 : Nat → ByteArray → ByteArray → Bool → Int → Int → List (S76) → List (S76) → List Int → Option (Int × Int × (List (S76)) × (List (S76)) × List Int × List ByteArray × Bool)
 | 0, _, _, _, _, _, _, _, _ => none
 | k + 1, x1, x2, x24, x1013000, x1013001, x1013002, x1013003, x1013004 => if x24 = true then (some (0, 0, ([] : List (S76)), ([] : List (S76)), ([] : List Int), ([] : List ByteArray), false)) else ((impl_copyThree.f x1013000 x1013001 x1013002 x1013003 x1013004).bind fun bt1016 => ((some (([] : List ByteArray) : List ByteArray)).bind fun y1028 => ((impl_Three_item.f bt1016.2.2.1 bt1016.2.2.2.1 x1).bind fun t1031 => (if t1031 ≥ 0 then (if t1031 < (bt1016.2.2.1.length : Int) then (if 0 ≤ t1031 then ((some (bt1016.2.2.1.set (t1031 : Int).toNat (⟨(rd_T76 bt1016.2.2.1 t1031).f0, x2, (rd_T76 bt1016.2.2.1 t1031).f2⟩ : S76) : List (S76))).bind fun y1032 => (some (bt1016.1, bt1016.2.1, (y1032.set (t1031 : Int).toNat (⟨(rd_T76 y1032 t1031).f0, (rd_T76 y1032 t1031).f1, mn 3 (wrap64 (((rd_T76 y1032 t1031).f2) + 1))⟩ : S76)), bt1016.2.2.2.1, bt1016.2.2.2.2, y1028, true))) else (none)) else (if 0 ≤ (wrap64 (t1031 - (bt1016.2.2.1.length : Int))) then (if (wrap64 (t1031 - (bt1016.2.2.1.length : Int))) < (bt1016.2.2.2.1.length : Int) then ((some (bt1016.2.2.2.1.set ((wrap64 (t1031 - (bt1016.2.2.1.length : Int))) : Int).toNat (⟨(rd_T76 bt1016.2.2.2.1 (wrap64 (t1031 - (bt1016.2.2.1.length : Int)))).f0, x2, (rd_T76 bt1016.2.2.2.1 (wrap64 (t1031 - (bt1016.2.2.1.length : Int)))).f2⟩ : S76) : List (S76))).bind fun y1034 => (some (bt1016.1, bt1016.2.1, bt1016.2.2.1, (y1034.set ((wrap64 (t1031 - (bt1016.2.2.1.length : Int))) : Int).toNat (⟨(rd_T76 y1034 (wrap64 (t1031 - (bt1016.2.2.1.length : Int)))).f0, (rd_T76 y1034 (wrap64 (t1031 - (bt1016.2.2.1.length : Int)))).f1, mn 3 (wrap64 (((rd_T76 y1034 (wrap64 (t1031 - (bt1016.2.2.1.length : Int)))).f2) + 1))⟩ : S76)), bt1016.2.2.2.2, y1028, true))) else (none)) else (none))) else (impl_Put.l0 k x1 x2 y1028 bt1016.1 bt1016.2.1 bt1016.2.2.1 bt1016.2.2.2.1 bt1016.2.2.2.2)))))
def impl_Put.l0 : Nat → ByteArray → ByteArray → List ByteArray → Int → Int → List (S76) → List (S76) → List Int → Option (Int × Int × (List (S76)) × (List (S76)) × List Int × List ByteArray × Bool)
 | 0, _, _, _, _, _, _, _, _ => none
 | k + 1, x1, x2, x10, x1028000, x1028001, x1028002, x1028003, x1028004 => if (wrap64 ((x1028002.length : Int) + (x1028003.length : Int))) ≥ x1028000 then ((impl_Three_evict.f k x1028000 x1028001 x1028002 x1028003 x1028004).bind fun bt1036 => (if x10.length < 8796093022208 then (impl_Put.l0 k x1 x2 (x10 ++ [bt1036.2.2.2.2.2.1]) bt1036.1 bt1036.2.1 bt1036.2.2.1 bt1036.2.2.2.1 bt1036.2.2.2.2.1) else (none))) else ((impl_Hash.f k x1).bind fun t1052 => ((slices_Contains_int_int.f k x1028004 t1052).bind fun t1054 => (if t1054 = true then ((slices_DeleteFunc_int_int.f x1028004 t1052).bind fun t1055 => (if x1028003.length < 3518437208883 then ((impl_copyThree.f x1028000 x1028001 x1028002 (x1028003 ++ [(⟨x1, x2, 0⟩ : S76)]) t1055).bind fun bt1061 => (some (bt1061.1, bt1061.2.1, bt1061.2.2.1, bt1061.2.2.2.1, bt1061.2.2.2.2, x10, true))) else (none))) else (if x1028002.length < 3518437208883 then ((impl_copyThree.f x1028000 x1028001 (x1028002 ++ [(⟨x1, x2, 0⟩ : S76)]) x1028003 x1028004).bind fun bt1075 => (some (bt1075.1, bt1075.2.1, bt1075.2.2.1, bt1075.2.2.2.1, bt1075.2.2.2.2, x10, true))) else (none)))))
end
def impl_Put.f (k : Nat) (a0_0 : Int) (a0_1 : Int) (l0_2 : List (S76)) (l0_3 : List (S76)) (l0_4 : List Int) (a1 : ByteArray) (a2 : ByteArray) : Option (Int × Int × (List (S76)) × (List (S76)) × List Int × List ByteArray × Bool) := (impl_ThreeOk.f k a0_0 a0_1 l0_2 l0_3 l0_4).bind fun t1014 => (if t1014 = true then ((impl_ItemOk.f k a1 a2 0).bind fun t1015 => (impl_Put.j0 k a1 a2 (!t1015) a0_0 a0_1 l0_2 l0_3 l0_4)) else (impl_Put.j0 k a1 a2 true a0_0 a0_1 l0_2 l0_3 l0_4))
set_option maxHeartbeats 8000000 in
set_option maxRecDepth 100000 in
theorem impl_Put.calls (k : Nat) (a0_0 : Int) (a0_1 : Int) (A0_2 : Option Addr) (c0_2 : Nat) (l0_2 : List (S76)) (A0_3 : Option Addr) (c0_3 : Nat) (l0_3 : List (S76)) (A0_4 : Option Addr) (c0_4 : Nat) (l0_4 : List Int) (a1 : ByteArray) (a2 : ByteArray) (r1 : Int) (r2 : Int) (r3 : List (S76)) (r4 : List (S76)) (r5 : List Int) (r6 : List ByteArray) (r7 : Bool) (w : World) (hr0_2 : Kd.C k76 w A0_2 l0_2.length l0_2) (hc0_2 : l0_2.length ≤ c0_2) (hr0_3 : Kd.C k76 w A0_3 l0_3.length l0_3) (hc0_3 : l0_3.length ≤ c0_3) (hr0_4 : Kd.C (Kd.int .i64) w A0_4 l0_4.length l0_4) (hc0_4 : l0_4.length ≤ c0_4) (h : impl_Put.f k a0_0 a0_1 l0_2 l0_3 l0_4 a1 a2 = some (r1, r2, r3, r4, r5, r6, r7)) :
  Calls Try.prog 99 #[.agg #[.int .i64 a0_0, .int .i64 a0_1, .slice A0_2 l0_2.length c0_2, .slice A0_3 l0_3.length c0_3, .slice A0_4 l0_4.length c0_4], .string a1, .string a2] w fun e w' => ∃ v2_ v3_ v4_ v5_ : Value, e = .returned (.tuple #[.agg #[.int .i64 r1, .int .i64 r2, v2_, v3_, v4_], v5_, .bool r7]) ∧ Mem w [] w' [rowR k76 76 v2_ r3, rowR k76 76 v3_ r4, rowR (Kd.int .i64) 3 v4_ r5, rowR Kd.string 9 v5_ r6] := by
 have hu65 := Try.underlying65
 have hu76 := Try.underlying76
 have HR0_2 := Aside0.mk hr0_2
 have HC0_2 := Aside0.mk hc0_2
 clear hr0_2 hc0_2
 have HR0_3 := Aside0.mk hr0_3
 have HC0_3 := Aside0.mk hc0_3
 clear hr0_3 hc0_3
 have HR0_4 := Aside0.mk hr0_4
 have HC0_4 := Aside0.mk hc0_4
 clear hr0_4 hc0_4
 have HM := Mem.nil w
 have H := h
 clear h
 unfold impl_Put.f at H
 go_enter Try.func99, Try.ntmps99
 have HC6 := Aside0.mk H
 clear H
 go_upto_region 1 with (first | ((with_reducible refine gN 3 rfl ?_); refine pB 3 65 [.int .i64 a0_0, .int .i64 a0_1, .slice A0_2 l0_2.length c0_2, .slice A0_3 l0_3.length c0_3, .slice A0_4 l0_4.length c0_4] HM rfl ?_; clear HM; intro gb1012 w4 HM) | ((with_reducible refine gN 6 rfl ?_); refine pB 6 65 [.int .i64 0, .int .i64 0, .slice none 0 0, .slice none 0 0, .slice none 0 0] HM rfl ?_; clear HM; intro gb1013 w5 HM))
 replace HM := nzM HM
 try simp only [Act.put, List.setIfInBounds_toArray, List.set_cons_zero, List.set_cons_succ]
 go_cut [24] (fun v24 wc => ∃ (kq : Nat) (x24_5 : Bool), v24 = .bool x24_5 ∧ Aside0 (impl_Put.j0 kq a1 a2 x24_5 a0_0 a0_1 l0_2 l0_3 l0_4 = some (r1, r2, r3, r4, r5, r6, r7)) ∧ Aside0 (kq ≤ k) ∧ Mem w [] wc [box 65 gb1012 [.int .i64 a0_0, .int .i64 a0_1, .slice A0_2 l0_2.length c0_2, .slice A0_3 l0_3.length c0_3, .slice A0_4 l0_4.length c0_4], box 65 gb1013 [.int .i64 0, .int .i64 0, .slice none 0 0, .slice none 0 0, .slice none 0 0]])
 case first =>
  have H := HC6.out
  clear HC6
  replace H := BN H; obtain ⟨t1014, A8, H⟩ := H
  replace H := IB H
  rcases H with ⟨c10, H⟩ | ⟨c10, H⟩
  ·subst c10
   replace H := BN H; obtain ⟨t1015, A11, H⟩ := H
   have H' := Aside0.mk H
   clear H
   obtain ⟨z7_0, z7_1, z7_2, z7_3, z7_4, Z7_0, Z7_1, Z7_2, Z7_3, Z7_4⟩ := bk5 (HM.bx 0 rfl)
   go_wp2_with (first | ((with_reducible refine gC 90 rfl ?_); refine pC (some 16) rfl #[.agg #[.int .i64 a0_0, .int .i64 a0_1, .slice A0_2 l0_2.length c0_2, .slice A0_3 l0_3.length c0_3, .slice A0_4 l0_4.length c0_4]] rfl Try.func90 (impl_ThreeOk.calls k a0_0 a0_1 _ _ l0_2 _ _ l0_3 _ _ l0_4 true _ (HM.came HR0_2.out) HC0_2.out (HM.came HR0_3.out) HC0_3.out (HM.came HR0_4.out) HC0_4.out A8.out) ?_; rintro e w9 ⟨rfl, hR⟩; refine ⟨_, rfl, ?_⟩; replace HM := HM.call hR; clear hR) | ((with_reducible refine gC 60 rfl ?_); refine pC (some 22) rfl #[.agg #[.string a1, .string a2, .int .i64 0]] rfl Try.func60 (impl_ItemOk.calls k a1 a2 0 t1015 _ A11.out) ?_; rintro e w12 ⟨rfl, hR⟩; refine ⟨_, rfl, ?_⟩; replace HM := HM.call hR; clear hR))
   go_meet
   case rel => exact ⟨_, (!t1015), RS, H', ⟨by first | omega | exact Nat.le_refl _⟩, (MD HM).pick [0, 1]⟩
  ·subst c10
   have H' := Aside0.mk H
   clear H
   obtain ⟨z7_0, z7_1, z7_2, z7_3, z7_4, Z7_0, Z7_1, Z7_2, Z7_3, Z7_4⟩ := bk5 (HM.bx 0 rfl)
   go_wp2_with (first | ((with_reducible refine gC 90 rfl ?_); refine pC (some 16) rfl #[.agg #[.int .i64 a0_0, .int .i64 a0_1, .slice A0_2 l0_2.length c0_2, .slice A0_3 l0_3.length c0_3, .slice A0_4 l0_4.length c0_4]] rfl Try.func90 (impl_ThreeOk.calls k a0_0 a0_1 _ _ l0_2 _ _ l0_3 _ _ l0_4 false _ (HM.came HR0_2.out) HC0_2.out (HM.came HR0_3.out) HC0_3.out (HM.came HR0_4.out) HC0_4.out A8.out) ?_; rintro e w9 ⟨rfl, hR⟩; refine ⟨_, rfl, ?_⟩; replace HM := HM.call hR; clear hR))
   go_meet
   case rel => exact ⟨_, (true), RS, H', ⟨by first | omega | exact Nat.le_refl _⟩, (MD HM).pick [0, 1]⟩
 case rest =>
  clear HC6 HM
  obtain ⟨kq, x24_5, rfl, HA, HJ5, HM⟩ := hcut
  cases kq with
  | zero => exact absurd HA.out (by simp [impl_Put.j0])
  | succ kj5 =>
   have H := HA.out
   clear HA
   simp only [impl_Put.j0] at H
   replace H := IB H
   rcases H with ⟨c13, H⟩ | ⟨c13, H⟩
   ·subst c13
    simp only [Option.some.injEq, Prod.mk.injEq] at H
    obtain ⟨rfl, rfl, rfl, rfl, rfl, rfl, rfl⟩ := H
    go_wp2_with (first | ((with_reducible refine gS 6 rfl ?_); refine pS 1 6 0 [.int .i64 0, .int .i64 0, .slice none 0 0, .slice none 0 0, .slice none 0 0] HM rfl rfl ?_; clear HM; intro w14 HM; replace HM := HM.nl k76 76; replace HM := HM.nl k76 76; replace HM := HM.nl (Kd.int .i64) 3; replace HM := HM.nl Kd.string 9))
    refine bodyPost_ret (results_ctt rfl _ _ gb1013 65 #[.int .i64 0, .int .i64 0, .slice none 0 0, .slice none 0 0, .slice none 0 0] (0, 0) _ rfl (HM.bx 1 rfl) Try.underlying65 rfl (by kernel_rfl)) rfl ?_
    exact ⟨_, _, _, _, ER, (MD HM).pick [2, 3, 4, 5]⟩
   ·subst c13
    replace H := BN H; obtain ⟨⟨t1016, t1017, t1018, t1021, t1024⟩, A16, H⟩ := H
    replace H := BLt H; obtain ⟨y1028, Ny1028, H⟩ := H
    replace Ny1028 := Aside0.mk Ny1028
    replace H := BN H; obtain ⟨t1031, A25, H⟩ := H
    replace H := IT H; rcases H with ⟨c27, H⟩ | ⟨c27, H⟩
    ·have c27b0 : decide (0 ≤ t1031) = true := decide_eq_true c27
     clear c27
     replace H := IT H; rcases H with ⟨c29, H⟩ | ⟨c29, H⟩
     ·have c29b0 : decide (t1031 < (t1018.length : Int)) = true := decide_eq_true c29
      clear c29
      replace H := GD H; obtain ⟨c30, H⟩ := H
      have c30b0 : decide (0 ≤ t1031) = true := decide_eq_true c30
      clear c30
      replace H := BLt H; obtain ⟨y1032, Ny1032, H⟩ := H
      replace Ny1032 := Aside0.mk Ny1032
      obtain ⟨ji35, hji35⟩ : ∃ j_ : Int, (mn 3 (wrap64 (((rd_T76 y1032 t1031).f2) + 1))) = j_ := ⟨_, rfl⟩
      (first | rw [hji35] at H | simp only [hji35] at H | skip)
      have hji35_ : (if (wrap64 (((rd_T76 y1032 t1031).f2) + 1)) < 3 then (wrap64 (((rd_T76 y1032 t1031).f2) + 1)) else 3) = ji35 := hji35
      (try (have hji35h : ji35 ≤ 3 := by (rw [← hji35]; unfold mn; (repeat' split) <;> omega)))
      simp only [Option.some.injEq, Prod.mk.injEq] at H
      obtain ⟨rfl, rfl, rfl, rfl, rfl, rfl, rfl⟩ := H
      obtain ⟨z15_0, z15_1, z15_2, z15_3, z15_4, Z15_0, Z15_1, Z15_2, Z15_3, Z15_4⟩ := bk5 (HM.bx 0 rfl)
      go_wp2_with (first | ((with_reducible refine gC 115 rfl ?_); refine pC (some 27) rfl #[.agg #[.int .i64 a0_0, .int .i64 a0_1, .slice A0_2 l0_2.length c0_2, .slice A0_3 l0_3.length c0_3, .slice A0_4 l0_4.length c0_4]] rfl Try.func115 (impl_copyThree.calls a0_0 a0_1 _ _ l0_2 _ _ l0_3 _ _ l0_4 t1016 t1017 t1018 t1021 t1024 _ (HM.came HR0_2.out) HC0_2.out (HM.came HR0_3.out) HC0_3.out (HM.came HR0_4.out) HC0_4.out A16.out) ?_; rintro e w17 ⟨v1019, v1022, v1025, rfl, hR⟩; refine ⟨_, rfl, ?_⟩; replace HM := HM.call hR; clear hR) | ((with_reducible refine gN 9 rfl ?_); refine pB 9 65 [.int .i64 0, .int .i64 0, .slice none 0 0, .slice none 0 0, .slice none 0 0] HM rfl ?_; clear HM; intro gb1027 w18 HM; obtain ⟨Xo19, ko19, eo19⟩ := HM.rdR 2 rfl; subst eo19; obtain ⟨Xo20, ko20, eo20⟩ := HM.rdR 3 rfl; subst eo20; obtain ⟨Xo21, ko21, eo21⟩ := HM.rdR 4 rfl; subst eo21) | ((with_reducible refine gS 9 rfl ?_); refine pS 5 9 0 [.int .i64 t1016, .int .i64 t1017, .slice Xo19 t1018.length ko19, .slice Xo20 t1021.length ko20, .slice Xo21 t1024.length ko21] HM rfl rfl ?_; clear HM; intro w22 HM) | ((with_reducible refine gN 28 rfl ?_); refine pL 28 Kd.string 9 ([] : List ByteArray) [] (Reps.none _ _) HM rfl ?_; clear HM; intro v1029 w23 HM; replace HM := HM.nm 6 rfl Ny1028.out; obtain ⟨z24_0, z24_1, z24_2, z24_3, z24_4, Z24_0, Z24_1, Z24_2, Z24_3, Z24_4⟩ := bk5 (HM.bx 5 rfl)) | ((with_reducible refine gC 116 rfl ?_); refine pC (some 30) rfl #[.pointer (some ⟨gb1027, 0, none⟩), .string a1] rfl Try.func116 (impl_Three_item.calls gb1027 t1016 t1017 (.slice Xo21 t1024.length ko21) Xo19 ko19 t1018 Xo20 ko20 t1021 a1 t1031 _ (HM.CR 2 rfl).2.2 (HM.CR 2 rfl).2.1 (HM.CR 3 rfl).2.2 (HM.CR 3 rfl).2.1 (HM.bx 5 rfl) A25.out) ?_; rintro e w26 ⟨rfl, hb⟩; refine ⟨_, rfl, ?_⟩; replace HM := HM.below hb; clear hb; have pf32 : 0 ≤ (t1031 : Int) := of_decide_eq_true AS; have qf32 : (t1031 : Int) < ((t1018.length : Int) : Int) := of_decide_eq_true AS; obtain ⟨gof32, eff32⟩ := HM.form 2 rfl (by have h_ := (HM.CR 2 rfl).1; omega); subst eff32; clear pf32 qf32; (first | rw [impl_Three_item.ptr_nil (by assumption)] | rw [impl_Three_item.ptr_small (by assumption) (by assumption)] | rw [impl_Three_item.ptr_main (by assumption) (by assumption)] | rw [impl_Three_item.ptr_nil' (by assumption)] | rw [impl_Three_item.ptr_small' (by assumption) (by assumption)] | rw [impl_Three_item.ptr_main' (by assumption) (by assumption)]); obtain ⟨z28_0, z28_1, z28_2, z28_3, z28_4, Z28_0, Z28_1, Z28_2, Z28_3, Z28_4⟩ := bk5 (HM.bx 5 rfl); have p31 : 0 ≤ (t1031 : Int) := of_decide_eq_true AS; have q31 : (t1031 : Int) < ((t1018.length : Int) : Int) := of_decide_eq_true AS; obtain ⟨hx31_0, hx31_1, hx31_2, hf31_0, hf31_1, hf31_2⟩ := HM.el3 2 rfl z76 (t1031 : Int) p31 (by have h_ := (HM.CR 2 rfl).1; omega) (.string ((rd_T76 t1018 t1031).f0)) (.string ((rd_T76 t1018 t1031).f1)) (.int .i64 ((rd_T76 t1018 t1031).f2)) (fun _ _ h => k76_openM h); replace p31 := eq_true p31; replace q31 := eq_true q31) | ((with_reducible refine gS 36 rfl ?_); refine pPR 2 36 (t1031 : Int) 1 [.string a2] k76 76 t1018 (⟨(rd_T76 t1018 t1031).f0, a2, (rd_T76 t1018 t1031).f2⟩ : S76) z76 [.string ((rd_T76 t1018 t1031).f0), .string ((rd_T76 t1018 t1031).f1), .int .i64 ((rd_T76 t1018 t1031).f2)] HM rfl rfl (of_decide_eq_true AS) (by have h_ : (t1031 : Int) < ((t1018.length : Int) : Int) := of_decide_eq_true AS; have e_ := (HM.CR 2 rfl).1; omega) (fun _ _ h => k76_openM h) (k76_mkM _ _ _ (⟨(rd_T76 t1018 t1031).f0, a2, (rd_T76 t1018 t1031).f2⟩ : S76)) ?_; clear HM; intro w33 HM; replace HM := HM.nm 2 rfl Ny1032.out; have p34 : 0 ≤ (t1031 : Int) := of_decide_eq_true AS; have q34 : (t1031 : Int) < ((t1018.length : Int) : Int) := of_decide_eq_true AS; obtain ⟨hx34_0, hx34_1, hx34_2, hf34_0, hf34_1, hf34_2⟩ := HM.el3 2 rfl z76 (t1031 : Int) p34 (by have h_ := (HM.CR 2 rfl).1; omega) (.string ((rd_T76 y1032 t1031).f0)) (.string ((rd_T76 y1032 t1031).f1)) (.int .i64 ((rd_T76 y1032 t1031).f2)) (fun _ _ h => k76_openM h); replace p34 := eq_true p34; replace q34 := eq_true q34) | ((with_reducible refine gS 45 rfl ?_); refine pPR 2 45 (t1031 : Int) 2 [.int .i64 ji35] k76 76 y1032 (⟨(rd_T76 y1032 t1031).f0, (rd_T76 y1032 t1031).f1, ji35⟩ : S76) z76 [.string ((rd_T76 y1032 t1031).f0), .string ((rd_T76 y1032 t1031).f1), .int .i64 ((rd_T76 y1032 t1031).f2)] HM rfl rfl (of_decide_eq_true AS) (by have h_ : (t1031 : Int) < ((t1018.length : Int) : Int) := of_decide_eq_true AS; have e_ := (HM.CR 2 rfl).1; omega) (fun _ _ h => k76_openM h) (k76_mkM _ _ _ (⟨(rd_T76 y1032 t1031).f0, (rd_T76 y1032 t1031).f1, ji35⟩ : S76)) ?_; clear HM; intro w36 HM; have p37 : 0 ≤ (t1031 : Int) := of_decide_eq_true AS; have q37 : (t1031 : Int) < ((t1018.length : Int) : Int) := of_decide_eq_true AS; obtain ⟨hx37_0, hx37_1, hx37_2, hf37_0, hf37_1, hf37_2⟩ := HM.el3 2 rfl z76 (t1031 : Int) p37 (by have h_ := (HM.CR 2 rfl).1; omega) (.string ((rd_T76 (y1032.set (t1031 : Int).toNat (⟨(rd_T76 y1032 t1031).f0, (rd_T76 y1032 t1031).f1, ji35⟩ : S76)) t1031).f0)) (.string ((rd_T76 (y1032.set (t1031 : Int).toNat (⟨(rd_T76 y1032 t1031).f0, (rd_T76 y1032 t1031).f1, ji35⟩ : S76)) t1031).f1)) (.int .i64 ((rd_T76 (y1032.set (t1031 : Int).toNat (⟨(rd_T76 y1032 t1031).f0, (rd_T76 y1032 t1031).f1, ji35⟩ : S76)) t1031).f2)) (fun _ _ h => k76_openM h); replace p37 := eq_true p37; replace q37 := eq_true q37; obtain ⟨z38_0, z38_1, z38_2, z38_3, z38_4, Z38_0, Z38_1, Z38_2, Z38_3, Z38_4⟩ := bk5 (HM.bx 5 rfl)) | ((with_reducible refine gS 6 rfl ?_); refine pS 1 6 0 [.int .i64 t1016, .int .i64 t1017, .slice (some ⟨gof32, 0, none⟩) t1018.length ko19, .slice Xo20 t1021.length ko20, .slice Xo21 t1024.length ko21] HM rfl rfl ?_; clear HM; intro w39 HM))
      refine bodyPost_ret (results_ctt rfl _ _ gb1013 65 #[.int .i64 t1016, .int .i64 t1017, .slice (some ⟨gof32, 0, none⟩) t1018.length ko19, .slice Xo20 t1021.length ko20, .slice Xo21 t1024.length ko21] (0, 0) _ rfl (HM.bx 1 rfl) Try.underlying65 rfl (by kernel_rfl)) rfl ?_
      exact ⟨_, _, _, _, ER, (MD HM).pick [2, 3, 4, 6]⟩
     ·have c29b0 : decide (t1031 < (t1018.length : Int)) = false := decide_eq_false c29
      clear c29
      replace H := GD H; obtain ⟨c40, H⟩ := H
      have c40b0 : decide (0 ≤ (wrap64 (t1031 - (t1018.length : Int)))) = true := decide_eq_true c40
      clear c40
      replace H := GD H; obtain ⟨c41, H⟩ := H
      have c41b0 : decide ((wrap64 (t1031 - (t1018.length : Int))) < (t1021.length : Int)) = true := decide_eq_true c41
      clear c41
      replace H := BLt H; obtain ⟨y1034, Ny1034, H⟩ := H
      replace Ny1034 := Aside0.mk Ny1034
      obtain ⟨ji46, hji46⟩ : ∃ j_ : Int, (mn 3 (wrap64 (((rd_T76 y1034 (wrap64 (t1031 - (t1018.length : Int)))).f2) + 1))) = j_ := ⟨_, rfl⟩
      (first | rw [hji46] at H | simp only [hji46] at H | skip)
      have hji46_ : (if (wrap64 (((rd_T76 y1034 (wrap64 (t1031 - (t1018.length : Int)))).f2) + 1)) < 3 then (wrap64 (((rd_T76 y1034 (wrap64 (t1031 - (t1018.length : Int)))).f2) + 1)) else 3) = ji46 := hji46
      (try (have hji46h : ji46 ≤ 3 := by (rw [← hji46]; unfold mn; (repeat' split) <;> omega)))
      simp only [Option.some.injEq, Prod.mk.injEq] at H
      obtain ⟨rfl, rfl, rfl, rfl, rfl, rfl, rfl⟩ := H
      obtain ⟨z15_0, z15_1, z15_2, z15_3, z15_4, Z15_0, Z15_1, Z15_2, Z15_3, Z15_4⟩ := bk5 (HM.bx 0 rfl)
      go_wp2_with (first | ((with_reducible refine gC 115 rfl ?_); refine pC (some 27) rfl #[.agg #[.int .i64 a0_0, .int .i64 a0_1, .slice A0_2 l0_2.length c0_2, .slice A0_3 l0_3.length c0_3, .slice A0_4 l0_4.length c0_4]] rfl Try.func115 (impl_copyThree.calls a0_0 a0_1 _ _ l0_2 _ _ l0_3 _ _ l0_4 t1016 t1017 t1018 t1021 t1024 _ (HM.came HR0_2.out) HC0_2.out (HM.came HR0_3.out) HC0_3.out (HM.came HR0_4.out) HC0_4.out A16.out) ?_; rintro e w17 ⟨v1019, v1022, v1025, rfl, hR⟩; refine ⟨_, rfl, ?_⟩; replace HM := HM.call hR; clear hR) | ((with_reducible refine gN 9 rfl ?_); refine pB 9 65 [.int .i64 0, .int .i64 0, .slice none 0 0, .slice none 0 0, .slice none 0 0] HM rfl ?_; clear HM; intro gb1027 w18 HM; obtain ⟨Xo19, ko19, eo19⟩ := HM.rdR 2 rfl; subst eo19; obtain ⟨Xo20, ko20, eo20⟩ := HM.rdR 3 rfl; subst eo20; obtain ⟨Xo21, ko21, eo21⟩ := HM.rdR 4 rfl; subst eo21) | ((with_reducible refine gS 9 rfl ?_); refine pS 5 9 0 [.int .i64 t1016, .int .i64 t1017, .slice Xo19 t1018.length ko19, .slice Xo20 t1021.length ko20, .slice Xo21 t1024.length ko21] HM rfl rfl ?_; clear HM; intro w22 HM) | ((with_reducible refine gN 28 rfl ?_); refine pL 28 Kd.string 9 ([] : List ByteArray) [] (Reps.none _ _) HM rfl ?_; clear HM; intro v1029 w23 HM; replace HM := HM.nm 6 rfl Ny1028.out; obtain ⟨z24_0, z24_1, z24_2, z24_3, z24_4, Z24_0, Z24_1, Z24_2, Z24_3, Z24_4⟩ := bk5 (HM.bx 5 rfl)) | ((with_reducible refine gC 116 rfl ?_); refine pC (some 30) rfl #[.pointer (some ⟨gb1027, 0, none⟩), .string a1] rfl Try.func116 (impl_Three_item.calls gb1027 t1016 t1017 (.slice Xo21 t1024.length ko21) Xo19 ko19 t1018 Xo20 ko20 t1021 a1 t1031 _ (HM.CR 2 rfl).2.2 (HM.CR 2 rfl).2.1 (HM.CR 3 rfl).2.2 (HM.CR 3 rfl).2.1 (HM.bx 5 rfl) A25.out) ?_; rintro e w26 ⟨rfl, hb⟩; refine ⟨_, rfl, ?_⟩; replace HM := HM.below hb; clear hb; have pf43 : 0 ≤ ((wrap64 (t1031 - (t1018.length : Int))) : Int) := of_decide_eq_true AS; have qf43 : ((wrap64 (t1031 - (t1018.length : Int))) : Int) < ((t1021.length : Int) : Int) := of_decide_eq_true AS; obtain ⟨gof43, eff43⟩ := HM.form 3 rfl (by have h_ := (HM.CR 3 rfl).1; omega); subst eff43; clear pf43 qf43; (first | rw [impl_Three_item.ptr_nil (by assumption)] | rw [impl_Three_item.ptr_small (by assumption) (by assumption)] | rw [impl_Three_item.ptr_main (by assumption) (by assumption)] | rw [impl_Three_item.ptr_nil' (by assumption)] | rw [impl_Three_item.ptr_small' (by assumption) (by assumption)] | rw [impl_Three_item.ptr_main' (by assumption) (by assumption)]); obtain ⟨z28_0, z28_1, z28_2, z28_3, z28_4, Z28_0, Z28_1, Z28_2, Z28_3, Z28_4⟩ := bk5 (HM.bx 5 rfl); have p42 : 0 ≤ ((wrap64 (t1031 - (t1018.length : Int))) : Int) := of_decide_eq_true AS; have q42 : ((wrap64 (t1031 - (t1018.length : Int))) : Int) < ((t1021.length : Int) : Int) := of_decide_eq_true AS; obtain ⟨hx42_0, hx42_1, hx42_2, hf42_0, hf42_1, hf42_2⟩ := HM.el3 3 rfl z76 ((wrap64 (t1031 - (t1018.length : Int))) : Int) p42 (by have h_ := (HM.CR 3 rfl).1; omega) (.string ((rd_T76 t1021 (wrap64 (t1031 - (t1018.length : Int)))).f0)) (.string ((rd_T76 t1021 (wrap64 (t1031 - (t1018.length : Int)))).f1)) (.int .i64 ((rd_T76 t1021 (wrap64 (t1031 - (t1018.length : Int)))).f2)) (fun _ _ h => k76_openM h); replace p42 := eq_true p42; replace q42 := eq_true q42) | ((with_reducible refine gS 36 rfl ?_); refine pPR 3 36 ((wrap64 (t1031 - (t1018.length : Int))) : Int) 1 [.string a2] k76 76 t1021 (⟨(rd_T76 t1021 (wrap64 (t1031 - (t1018.length : Int)))).f0, a2, (rd_T76 t1021 (wrap64 (t1031 - (t1018.length : Int)))).f2⟩ : S76) z76 [.string ((rd_T76 t1021 (wrap64 (t1031 - (t1018.length : Int)))).f0), .string ((rd_T76 t1021 (wrap64 (t1031 - (t1018.length : Int)))).f1), .int .i64 ((rd_T76 t1021 (wrap64 (t1031 - (t1018.length : Int)))).f2)] HM rfl rfl (of_decide_eq_true AS) (by have h_ : ((wrap64 (t1031 - (t1018.length : Int))) : Int) < ((t1021.length : Int) : Int) := of_decide_eq_true AS; have e_ := (HM.CR 3 rfl).1; omega) (fun _ _ h => k76_openM h) (k76_mkM _ _ _ (⟨(rd_T76 t1021 (wrap64 (t1031 - (t1018.length : Int)))).f0, a2, (rd_T76 t1021 (wrap64 (t1031 - (t1018.length : Int)))).f2⟩ : S76)) ?_; clear HM; intro w44 HM; replace HM := HM.nm 3 rfl Ny1034.out; have p45 : 0 ≤ ((wrap64 (t1031 - (t1018.length : Int))) : Int) := of_decide_eq_true AS; have q45 : ((wrap64 (t1031 - (t1018.length : Int))) : Int) < ((t1021.length : Int) : Int) := of_decide_eq_true AS; obtain ⟨hx45_0, hx45_1, hx45_2, hf45_0, hf45_1, hf45_2⟩ := HM.el3 3 rfl z76 ((wrap64 (t1031 - (t1018.length : Int))) : Int) p45 (by have h_ := (HM.CR 3 rfl).1; omega) (.string ((rd_T76 y1034 (wrap64 (t1031 - (t1018.length : Int)))).f0)) (.string ((rd_T76 y1034 (wrap64 (t1031 - (t1018.length : Int)))).f1)) (.int .i64 ((rd_T76 y1034 (wrap64 (t1031 - (t1018.length : Int)))).f2)) (fun _ _ h => k76_openM h); replace p45 := eq_true p45; replace q45 := eq_true q45) | ((with_reducible refine gS 45 rfl ?_); refine pPR 3 45 ((wrap64 (t1031 - (t1018.length : Int))) : Int) 2 [.int .i64 ji46] k76 76 y1034 (⟨(rd_T76 y1034 (wrap64 (t1031 - (t1018.length : Int)))).f0, (rd_T76 y1034 (wrap64 (t1031 - (t1018.length : Int)))).f1, ji46⟩ : S76) z76 [.string ((rd_T76 y1034 (wrap64 (t1031 - (t1018.length : Int)))).f0), .string ((rd_T76 y1034 (wrap64 (t1031 - (t1018.length : Int)))).f1), .int .i64 ((rd_T76 y1034 (wrap64 (t1031 - (t1018.length : Int)))).f2)] HM rfl rfl (of_decide_eq_true AS) (by have h_ : ((wrap64 (t1031 - (t1018.length : Int))) : Int) < ((t1021.length : Int) : Int) := of_decide_eq_true AS; have e_ := (HM.CR 3 rfl).1; omega) (fun _ _ h => k76_openM h) (k76_mkM _ _ _ (⟨(rd_T76 y1034 (wrap64 (t1031 - (t1018.length : Int)))).f0, (rd_T76 y1034 (wrap64 (t1031 - (t1018.length : Int)))).f1, ji46⟩ : S76)) ?_; clear HM; intro w47 HM; have p48 : 0 ≤ ((wrap64 (t1031 - (t1018.length : Int))) : Int) := of_decide_eq_true AS; have q48 : ((wrap64 (t1031 - (t1018.length : Int))) : Int) < ((t1021.length : Int) : Int) := of_decide_eq_true AS; obtain ⟨hx48_0, hx48_1, hx48_2, hf48_0, hf48_1, hf48_2⟩ := HM.el3 3 rfl z76 ((wrap64 (t1031 - (t1018.length : Int))) : Int) p48 (by have h_ := (HM.CR 3 rfl).1; omega) (.string ((rd_T76 (y1034.set ((wrap64 (t1031 - (t1018.length : Int))) : Int).toNat (⟨(rd_T76 y1034 (wrap64 (t1031 - (t1018.length : Int)))).f0, (rd_T76 y1034 (wrap64 (t1031 - (t1018.length : Int)))).f1, ji46⟩ : S76)) (wrap64 (t1031 - (t1018.length : Int)))).f0)) (.string ((rd_T76 (y1034.set ((wrap64 (t1031 - (t1018.length : Int))) : Int).toNat (⟨(rd_T76 y1034 (wrap64 (t1031 - (t1018.length : Int)))).f0, (rd_T76 y1034 (wrap64 (t1031 - (t1018.length : Int)))).f1, ji46⟩ : S76)) (wrap64 (t1031 - (t1018.length : Int)))).f1)) (.int .i64 ((rd_T76 (y1034.set ((wrap64 (t1031 - (t1018.length : Int))) : Int).toNat (⟨(rd_T76 y1034 (wrap64 (t1031 - (t1018.length : Int)))).f0, (rd_T76 y1034 (wrap64 (t1031 - (t1018.length : Int)))).f1, ji46⟩ : S76)) (wrap64 (t1031 - (t1018.length : Int)))).f2)) (fun _ _ h => k76_openM h); replace p48 := eq_true p48; replace q48 := eq_true q48; obtain ⟨z49_0, z49_1, z49_2, z49_3, z49_4, Z49_0, Z49_1, Z49_2, Z49_3, Z49_4⟩ := bk5 (HM.bx 5 rfl)) | ((with_reducible refine gS 6 rfl ?_); refine pS 1 6 0 [.int .i64 t1016, .int .i64 t1017, .slice Xo19 t1018.length ko19, .slice (some ⟨gof43, 0, none⟩) t1021.length ko20, .slice Xo21 t1024.length ko21] HM rfl rfl ?_; clear HM; intro w50 HM))
      refine bodyPost_ret (results_ctt rfl _ _ gb1013 65 #[.int .i64 t1016, .int .i64 t1017, .slice Xo19 t1018.length ko19, .slice (some ⟨gof43, 0, none⟩) t1021.length ko20, .slice Xo21 t1024.length ko21] (0, 0) _ rfl (HM.bx 1 rfl) Try.underlying65 rfl (by kernel_rfl)) rfl ?_
      exact ⟨_, _, _, _, ER, (MD HM).pick [2, 3, 4, 6]⟩
    ·have c27b0 : decide (0 ≤ t1031) = false := decide_eq_false c27
     clear c27
     have H' := Aside0.mk H
     clear H
     obtain ⟨z15_0, z15_1, z15_2, z15_3, z15_4, Z15_0, Z15_1, Z15_2, Z15_3, Z15_4⟩ := bk5 (HM.bx 0 rfl)
     go_wp2_with (first | ((with_reducible refine gC 115 rfl ?_); refine pC (some 27) rfl #[.agg #[.int .i64 a0_0, .int .i64 a0_1, .slice A0_2 l0_2.length c0_2, .slice A0_3 l0_3.length c0_3, .slice A0_4 l0_4.length c0_4]] rfl Try.func115 (impl_copyThree.calls a0_0 a0_1 _ _ l0_2 _ _ l0_3 _ _ l0_4 t1016 t1017 t1018 t1021 t1024 _ (HM.came HR0_2.out) HC0_2.out (HM.came HR0_3.out) HC0_3.out (HM.came HR0_4.out) HC0_4.out A16.out) ?_; rintro e w17 ⟨v1019, v1022, v1025, rfl, hR⟩; refine ⟨_, rfl, ?_⟩; replace HM := HM.call hR; clear hR) | ((with_reducible refine gN 9 rfl ?_); refine pB 9 65 [.int .i64 0, .int .i64 0, .slice none 0 0, .slice none 0 0, .slice none 0 0] HM rfl ?_; clear HM; intro gb1027 w18 HM; obtain ⟨Xo19, ko19, eo19⟩ := HM.rdR 2 rfl; subst eo19; obtain ⟨Xo20, ko20, eo20⟩ := HM.rdR 3 rfl; subst eo20; obtain ⟨Xo21, ko21, eo21⟩ := HM.rdR 4 rfl; subst eo21) | ((with_reducible refine gS 9 rfl ?_); refine pS 5 9 0 [.int .i64 t1016, .int .i64 t1017, .slice Xo19 t1018.length ko19, .slice Xo20 t1021.length ko20, .slice Xo21 t1024.length ko21] HM rfl rfl ?_; clear HM; intro w22 HM) | ((with_reducible refine gN 28 rfl ?_); refine pL 28 Kd.string 9 ([] : List ByteArray) [] (Reps.none _ _) HM rfl ?_; clear HM; intro v1029 w23 HM; replace HM := HM.nm 6 rfl Ny1028.out; obtain ⟨z24_0, z24_1, z24_2, z24_3, z24_4, Z24_0, Z24_1, Z24_2, Z24_3, Z24_4⟩ := bk5 (HM.bx 5 rfl)) | ((with_reducible refine gC 116 rfl ?_); refine pC (some 30) rfl #[.pointer (some ⟨gb1027, 0, none⟩), .string a1] rfl Try.func116 (impl_Three_item.calls gb1027 t1016 t1017 (.slice Xo21 t1024.length ko21) Xo19 ko19 t1018 Xo20 ko20 t1021 a1 t1031 _ (HM.CR 2 rfl).2.2 (HM.CR 2 rfl).2.1 (HM.CR 3 rfl).2.2 (HM.CR 3 rfl).2.1 (HM.bx 5 rfl) A25.out) ?_; rintro e w26 ⟨rfl, hb⟩; refine ⟨_, rfl, ?_⟩; replace HM := HM.below hb; clear hb; (first | rw [impl_Three_item.ptr_nil (by assumption)] | rw [impl_Three_item.ptr_small (by assumption) (by assumption)] | rw [impl_Three_item.ptr_main (by assumption) (by assumption)] | rw [impl_Three_item.ptr_nil' (by assumption)] | rw [impl_Three_item.ptr_small' (by assumption) (by assumption)] | rw [impl_Three_item.ptr_main' (by assumption) (by assumption)]); replace HM := HM.toQ 2 rfl; replace HM := HM.toQ 3 rfl; replace HM := HM.toQ 4 rfl))
     go_loopg [10] kj5 (fun kq v10 w' => ∃ (x10_2 : List ByteArray) (x1028000_2 : Int) (x1028001_2 : Int) (x1028002_2 : List (S76)) (x1028003_2 : List (S76)) (x1028004_2 : List Int) (u1028002 : Value) (u1028003 : Value) (u1028004 : Value), Aside0 (impl_Put.l0 kq a1 a2 x10_2 x1028000_2 x1028001_2 x1028002_2 x1028003_2 x1028004_2 = some (r1, r2, r3, r4, r5, r6, r7)) ∧ Aside0 (kq ≤ kj5) ∧ Mem w [] w' [rowR Kd.string 9 v10 x10_2, row k76 76 u1028002 x1028002_2, row k76 76 u1028003 x1028003_2, row (Kd.int .i64) 3 u1028004 x1028004_2, box 65 gb1012 [.int .i64 a0_0, .int .i64 a0_1, .slice A0_2 l0_2.length c0_2, .slice A0_3 l0_3.length c0_3, .slice A0_4 l0_4.length c0_4], box 65 gb1013 [.int .i64 0, .int .i64 0, .slice none 0 0, .slice none 0 0, .slice none 0 0], box 65 gb1027 [.int .i64 x1028000_2, .int .i64 x1028001_2, u1028002, u1028003, u1028004]])
     case atStart => exact ⟨(y1028), (t1016), (t1017), (t1018), (t1021), (t1024), (.slice Xo19 t1018.length ko19), (.slice Xo20 t1021.length ko20), (.slice Xo21 t1024.length ko21), H', ⟨Nat.le_refl _⟩, (MD HM).pick [6, 2, 3, 4, 0, 1, 5]⟩
     case round =>
      clear H' HM
      obtain ⟨x10_2, x1028000_2, x1028001_2, x1028002_2, x1028003_2, x1028004_2, u1028002, u1028003, u1028004, HA, HK2, HM⟩ := hrel
      cases gk with
      | zero => exact absurd HA.out (by simp [impl_Put.l0])
      | succ k2 =>
       have H := HA.out
       clear HA
       simp only [impl_Put.l0] at H
       replace H := IT H; rcases H with ⟨c54, H⟩ | ⟨c54, H⟩
       ·have c54b0 : decide (x1028000_2 ≤ (wrap64 ((x1028002_2.length : Int) + (x1028003_2.length : Int)))) = true := decide_eq_true c54
        clear c54
        replace H := BN H; obtain ⟨⟨t1036, t1037, t1038, t1041, t1044, t1047, t1048⟩, A55, H⟩ := H
        replace H := GD H; obtain ⟨c57, H⟩ := H
        have LMc57 := Aside0.mk c57
        clear c57
        have H' := Aside0.mk H
        clear H
        obtain ⟨z51_0, z51_1, z51_2, z51_3, z51_4, Z51_0, Z51_1, Z51_2, Z51_3, Z51_4⟩ := bk5 (HM.bx 6 rfl)
        obtain ⟨Xo52, ko52, eo52⟩ := HM.rd 1 rfl
        subst eo52
        obtain ⟨Xo53, ko53, eo53⟩ := HM.rd 2 rfl
        subst eo53
        go_wp2_with (first | ((with_reducible refine gC 117 rfl ?_); refine pC (some 59) rfl #[.pointer (some ⟨gb1027, 0, none⟩)] rfl Try.func117 (impl_Three_evict.calls k2 gb1027 x1028000_2 x1028001_2 (.slice Xo52 x1028002_2.length ko52) x1028002_2 (.slice Xo53 x1028003_2.length ko53) x1028003_2 u1028004 x1028004_2 t1036 t1037 t1038 t1041 t1044 t1047 t1048 _ _ _ (HM.focus [0, 4, 5] [1, 2, 3, 6]) A55.out) ?_; rintro e w56 ⟨v1039, v1042, v1045, rfl, hR⟩; refine ⟨_, rfl, ?_⟩; replace HM := nzM hR.unfocus; clear hR) | ((with_reducible refine gN 64 rfl ?_); refine pL 64 Kd.string 9 [t1047] [.string t1047] (Reps.one (show Kd.M Kd.string _ _ _ t1047 [.string t1047] from rfl) (Reps.none _ _)) HM rfl ?_; clear HM; intro v59 w58 HM; obtain ⟨Xv59, kv59, ev59⟩ := HM.rdR 7 rfl; subst ev59) | ((with_reducible refine gate_builtin (b := .append) (xs := #[.tmp 62, .tmp 64]) rfl ?_); refine pA 0 (.tmp 62) (.tmp 64) 24 9 Kd.string u10 x10_2 [t1047] Xv59 ([t1047].length) kv59 HM rfl Try.underlying24 info9 rfl (HM.CR 7 rfl).2.2 (by have h_ := LMc57.out; simp only [List.length_singleton]; omega) ?_; clear HM; intro v1050 w60 HM))
        go_roundg k2
        case measure => have := HJ5.out; have := HK2.out; omega
        case rel => exact ⟨((x10_2 ++ [t1047])), (t1036), (t1037), (t1038), (t1041), (t1044), (v1039), (v1042), (v1045), H', ⟨by have := HJ5.out; have := HK2.out; omega⟩, (MD HM).pick [0, 3, 4, 5, 1, 2, 6]⟩
       ·have c54b0 : decide (x1028000_2 ≤ (wrap64 ((x1028002_2.length : Int) + (x1028003_2.length : Int)))) = false := decide_eq_false c54
        clear c54
        replace H := BN H; obtain ⟨t1052, A61, H⟩ := H
        replace H := BN H; obtain ⟨t1054, A67, H⟩ := H
        replace H := IB H
        rcases H with ⟨c70, H⟩ | ⟨c70, H⟩
        ·subst c70
         replace H := BN H; obtain ⟨t1055, A72, H⟩ := H
         replace H := GD H; obtain ⟨c77, H⟩ := H
         have LMc77 := Aside0.mk c77
         clear c77
         replace H := BN H; obtain ⟨⟨t1061, t1062, t1063, t1066, t1069⟩, A84, H⟩ := H
         simp only [Option.some.injEq, Prod.mk.injEq] at H
         obtain ⟨rfl, rfl, rfl, rfl, rfl, rfl, rfl⟩ := H
         obtain ⟨z51_0, z51_1, z51_2, z51_3, z51_4, Z51_0, Z51_1, Z51_2, Z51_3, Z51_4⟩ := bk5 (HM.bx 6 rfl)
         obtain ⟨Xo52, ko52, eo52⟩ := HM.rd 1 rfl
         subst eo52
         obtain ⟨Xo53, ko53, eo53⟩ := HM.rd 2 rfl
         subst eo53
         go_wp2_with (first | ((with_reducible refine gC 118 rfl ?_); refine pC (some 67) rfl #[.string a1] rfl Try.func118 (impl_Hash.calls k2 a1 t1052 _ A61.out) ?_; rintro e w62 ⟨rfl, hd⟩; refine ⟨_, rfl, ?_⟩; replace HM := HM.drawn hd; clear hd) | ((with_reducible refine gN 14 rfl ?_); refine pB 14 3 [.int .i64 0] HM rfl ?_; clear HM; intro gb1053 w63 HM) | ((with_reducible refine gS 14 rfl ?_); refine pS 7 14 0 [.int .i64 t1052] HM rfl rfl ?_; clear HM; intro w64 HM; obtain ⟨z65_0, z65_1, z65_2, z65_3, z65_4, Z65_0, Z65_1, Z65_2, Z65_3, Z65_4⟩ := bk5 (HM.bx 6 rfl); obtain ⟨z66_0, Z66_0⟩ := bk1 (HM.bx 7 rfl); obtain ⟨Xo69, ko69, eo69⟩ := HM.rd 3 rfl; subst eo69) | ((with_reducible refine gC 104 rfl ?_); refine pC (some 71) rfl #[.slice Xo69 x1028004_2.length ko69, .int .i64 t1052] rfl Try.func104 (slices_Contains_int_int.calls k2 _ _ x1028004_2 t1052 true _ (HM.C 3 rfl).2.2 (HM.C 3 rfl).2.1 A67.out) ?_; rintro e w68 ⟨rfl, hd⟩; refine ⟨_, rfl, ?_⟩; replace HM := HM.drawn hd; clear hd; obtain ⟨z71_0, z71_1, z71_2, z71_3, z71_4, Z71_0, Z71_1, Z71_2, Z71_3, Z71_4⟩ := bk5 (HM.bx 6 rfl); obtain ⟨P_, hq_, hn_, fin_⟩ := HM.man 3 7 rfl rfl) | ((with_reducible refine gC 119 rfl ?_); refine pC (some 75) rfl #[.slice Xo69 x1028004_2.length ko69, .func (.func 120) #[] #[.pointer (some ⟨gb1053, 0, none⟩)]] rfl Try.func119 (slices_DeleteFunc_int_int.calls P_ (.slice Xo69 x1028004_2.length ko69) x1028004_2 120 Try.f120 gb1053 t1052 t1055 (bare _) _ (bare_below _) hq_ (impl_Put.clo120 _ _) (HM.bx 7 rfl) hn_ A72.out) ?_; rintro e w73 ⟨v1056, rfl, hQ_, hB_, hK_⟩; refine ⟨_, rfl, ?_⟩; replace HM := fin_ _ _ _ hQ_ hB_ hK_; clear hQ_ hB_ hK_ hq_ hn_ fin_ P_; obtain ⟨Xo74, ko74, eo74⟩ := HM.rd 3 rfl; subst eo74) | ((with_reducible refine gS 76 rfl ?_); refine pS 6 76 4 [.slice Xo74 t1055.length ko74] HM rfl rfl ?_; clear HM; intro w75 HM; obtain ⟨z76_0, z76_1, z76_2, z76_3, z76_4, Z76_0, Z76_1, Z76_2, Z76_3, Z76_4⟩ := bk5 (HM.bx 6 rfl)) | ((with_reducible refine gN 82 rfl ?_); refine pL 82 k76 76 [(⟨a1, a2, 0⟩ : S76)] [.string a1, .string a2, .int .i64 0] (Reps.c3 (show Kd.M k76 _ _ _ (⟨a1, a2, 0⟩ : S76) [.string a1, .string a2, .int .i64 0] from (k76_mkM _ _ _ (⟨a1, a2, 0⟩ : S76))) (Reps.none _ _)) HM rfl ?_; clear HM; intro v79 w78 HM; obtain ⟨Xv79, kv79, ev79⟩ := HM.rdR 8 rfl; subst ev79) | ((with_reducible refine gate_builtin (b := .append) (xs := #[.tmp 78, .tmp 82]) rfl ?_); refine pAq 2 (.tmp 78) (.tmp 82) 44 76 k76 (.slice Xo53 x1028003_2.length ko53) x1028003_2 [(⟨a1, a2, 0⟩ : S76)] Xv79 ([(⟨a1, a2, 0⟩ : S76)].length) kv79 HM rfl Try.underlying44 info76 rfl (HM.CR 8 rfl).2.2 (by have h_ := LMc77.out; simp only [List.length_singleton]; omega) (by simp) ?_; clear HM; intro v1059 w80 HM; obtain ⟨Xo81, ko81, eo81⟩ := HM.rd 2 rfl; subst eo81) | ((with_reducible refine gS 84 rfl ?_); refine pS 6 84 3 [.slice Xo81 (x1028003_2 ++ [(⟨a1, a2, 0⟩ : S76)]).length ko81] HM rfl rfl ?_; clear HM; intro w82 HM; obtain ⟨z83_0, z83_1, z83_2, z83_3, z83_4, Z83_0, Z83_1, Z83_2, Z83_3, Z83_4⟩ := bk5 (HM.bx 6 rfl)) | ((with_reducible refine gC 115 rfl ?_); refine pC (some 94) rfl #[.agg #[.int .i64 x1028000_2, .int .i64 x1028001_2, .slice Xo52 x1028002_2.length ko52, .slice Xo81 (x1028003_2 ++ [(⟨a1, a2, 0⟩ : S76)]).length ko81, .slice Xo74 t1055.length ko74]] rfl Try.func115 (impl_copyThree.calls x1028000_2 x1028001_2 _ _ x1028002_2 _ _ (x1028003_2 ++ [(⟨a1, a2, 0⟩ : S76)]) _ _ t1055 t1061 t1062 t1063 t1066 t1069 _ (HM.C 1 rfl).2.2 (HM.C 1 rfl).2.1 (HM.C 2 rfl).2.2 (HM.C 2 rfl).2.1 (HM.C 3 rfl).2.2 (HM.C 3 rfl).2.1 A84.out) ?_; rintro e w85 ⟨v1064, v1067, v1070, rfl, hR⟩; refine ⟨_, rfl, ?_⟩; replace HM := HM.call hR; clear hR; obtain ⟨Xo86, ko86, eo86⟩ := HM.rdR 9 rfl; subst eo86; obtain ⟨Xo87, ko87, eo87⟩ := HM.rdR 10 rfl; subst eo87; obtain ⟨Xo88, ko88, eo88⟩ := HM.rdR 11 rfl; subst eo88) | ((with_reducible refine gS 6 rfl ?_); refine pS 5 6 0 [.int .i64 t1061, .int .i64 t1062, .slice Xo86 t1063.length ko86, .slice Xo87 t1066.length ko87, .slice Xo88 t1069.length ko88] HM rfl rfl ?_; clear HM; intro w89 HM))
         refine bodyPost_ret (results_ctt rfl _ _ gb1013 65 #[.int .i64 t1061, .int .i64 t1062, .slice Xo86 t1063.length ko86, .slice Xo87 t1066.length ko87, .slice Xo88 t1069.length ko88] (0, 0) _ rfl (HM.bx 5 rfl) Try.underlying65 rfl (by kernel_rfl)) rfl ?_
         exact ⟨_, _, _, _, ER, (MD HM).pick [9, 10, 11, 0]⟩
        ·subst c70
         replace H := GD H; obtain ⟨c91, H⟩ := H
         have LMc91 := Aside0.mk c91
         clear c91
         replace H := BN H; obtain ⟨⟨t1075, t1076, t1077, t1080, t1083⟩, A98, H⟩ := H
         simp only [Option.some.injEq, Prod.mk.injEq] at H
         obtain ⟨rfl, rfl, rfl, rfl, rfl, rfl, rfl⟩ := H
         obtain ⟨z51_0, z51_1, z51_2, z51_3, z51_4, Z51_0, Z51_1, Z51_2, Z51_3, Z51_4⟩ := bk5 (HM.bx 6 rfl)
         obtain ⟨Xo52, ko52, eo52⟩ := HM.rd 1 rfl
         subst eo52
         obtain ⟨Xo53, ko53, eo53⟩ := HM.rd 2 rfl
         subst eo53
         go_wp2_with (first | ((with_reducible refine gC 118 rfl ?_); refine pC (some 67) rfl #[.string a1] rfl Try.func118 (impl_Hash.calls k2 a1 t1052 _ A61.out) ?_; rintro e w62 ⟨rfl, hd⟩; refine ⟨_, rfl, ?_⟩; replace HM := HM.drawn hd; clear hd) | ((with_reducible refine gN 14 rfl ?_); refine pB 14 3 [.int .i64 0] HM rfl ?_; clear HM; intro gb1053 w63 HM) | ((with_reducible refine gS 14 rfl ?_); refine pS 7 14 0 [.int .i64 t1052] HM rfl rfl ?_; clear HM; intro w64 HM; obtain ⟨z65_0, z65_1, z65_2, z65_3, z65_4, Z65_0, Z65_1, Z65_2, Z65_3, Z65_4⟩ := bk5 (HM.bx 6 rfl); obtain ⟨z66_0, Z66_0⟩ := bk1 (HM.bx 7 rfl); obtain ⟨Xo69, ko69, eo69⟩ := HM.rd 3 rfl; subst eo69) | ((with_reducible refine gC 104 rfl ?_); refine pC (some 71) rfl #[.slice Xo69 x1028004_2.length ko69, .int .i64 t1052] rfl Try.func104 (slices_Contains_int_int.calls k2 _ _ x1028004_2 t1052 false _ (HM.C 3 rfl).2.2 (HM.C 3 rfl).2.1 A67.out) ?_; rintro e w68 ⟨rfl, hd⟩; refine ⟨_, rfl, ?_⟩; replace HM := HM.drawn hd; clear hd; obtain ⟨z90_0, z90_1, z90_2, z90_3, z90_4, Z90_0, Z90_1, Z90_2, Z90_3, Z90_4⟩ := bk5 (HM.bx 6 rfl)) | ((with_reducible refine gN 90 rfl ?_); refine pL 90 k76 76 [(⟨a1, a2, 0⟩ : S76)] [.string a1, .string a2, .int .i64 0] (Reps.c3 (show Kd.M k76 _ _ _ (⟨a1, a2, 0⟩ : S76) [.string a1, .string a2, .int .i64 0] from (k76_mkM _ _ _ (⟨a1, a2, 0⟩ : S76))) (Reps.none _ _)) HM rfl ?_; clear HM; intro v93 w92 HM; obtain ⟨Xv93, kv93, ev93⟩ := HM.rdR 8 rfl; subst ev93) | ((with_reducible refine gate_builtin (b := .append) (xs := #[.tmp 86, .tmp 90]) rfl ?_); refine pAq 1 (.tmp 86) (.tmp 90) 44 76 k76 (.slice Xo52 x1028002_2.length ko52) x1028002_2 [(⟨a1, a2, 0⟩ : S76)] Xv93 ([(⟨a1, a2, 0⟩ : S76)].length) kv93 HM rfl Try.underlying44 info76 rfl (HM.CR 8 rfl).2.2 (by have h_ := LMc91.out; simp only [List.length_singleton]; omega) (by simp) ?_; clear HM; intro v1073 w94 HM; obtain ⟨Xo95, ko95, eo95⟩ := HM.rd 1 rfl; subst eo95) | ((with_reducible refine gS 92 rfl ?_); refine pS 6 92 2 [.slice Xo95 (x1028002_2 ++ [(⟨a1, a2, 0⟩ : S76)]).length ko95] HM rfl rfl ?_; clear HM; intro w96 HM; obtain ⟨z97_0, z97_1, z97_2, z97_3, z97_4, Z97_0, Z97_1, Z97_2, Z97_3, Z97_4⟩ := bk5 (HM.bx 6 rfl)) | ((with_reducible refine gC 115 rfl ?_); refine pC (some 94) rfl #[.agg #[.int .i64 x1028000_2, .int .i64 x1028001_2, .slice Xo95 (x1028002_2 ++ [(⟨a1, a2, 0⟩ : S76)]).length ko95, .slice Xo53 x1028003_2.length ko53, .slice Xo69 x1028004_2.length ko69]] rfl Try.func115 (impl_copyThree.calls x1028000_2 x1028001_2 _ _ (x1028002_2 ++ [(⟨a1, a2, 0⟩ : S76)]) _ _ x1028003_2 _ _ x1028004_2 t1075 t1076 t1077 t1080 t1083 _ (HM.C 1 rfl).2.2 (HM.C 1 rfl).2.1 (HM.C 2 rfl).2.2 (HM.C 2 rfl).2.1 (HM.C 3 rfl).2.2 (HM.C 3 rfl).2.1 A98.out) ?_; rintro e w99 ⟨v1078, v1081, v1084, rfl, hR⟩; refine ⟨_, rfl, ?_⟩; replace HM := HM.call hR; clear hR; obtain ⟨Xo100, ko100, eo100⟩ := HM.rdR 9 rfl; subst eo100; obtain ⟨Xo101, ko101, eo101⟩ := HM.rdR 10 rfl; subst eo101; obtain ⟨Xo102, ko102, eo102⟩ := HM.rdR 11 rfl; subst eo102) | ((with_reducible refine gS 6 rfl ?_); refine pS 5 6 0 [.int .i64 t1075, .int .i64 t1076, .slice Xo100 t1077.length ko100, .slice Xo101 t1080.length ko101, .slice Xo102 t1083.length ko102] HM rfl rfl ?_; clear HM; intro w103 HM))
         refine bodyPost_ret (results_ctt rfl _ _ gb1013 65 #[.int .i64 t1075, .int .i64 t1076, .slice Xo100 t1077.length ko100, .slice Xo101 t1080.length ko101, .slice Xo102 t1083.length ko102] (0, 0) _ rfl (HM.bx 5 rfl) Try.underlying65 rfl (by kernel_rfl)) rfl ?_
         exact ⟨_, _, _, _, ER, (MD HM).pick [9, 10, 11, 0]⟩
def impl_cache_ask.f (k : Nat) (a0_0 : Int) (a0_1 : Int) (l0_2 : List (S76)) (a0_3 : Int) (a0_4 : Int) (l0_5 : List (S76)) (l0_6 : List (S76)) (l0_7 : List Int) (a1 : ByteArray) : Option (Int × Int × (List (S76)) × Int × Int × (List (S76)) × (List (S76)) × List Int × Bool × Int) := if a0_3 > 0 then ((impl_Get.f k a0_3 a0_4 l0_5 l0_6 l0_7 a1).bind fun bt1091 => (if bt1091.2.2.2.2.2.2 = true then (some (a0_0, a0_1, l0_2, bt1091.1, bt1091.2.1, bt1091.2.2.1, bt1091.2.2.2.1, bt1091.2.2.2.2.1, bt1091.2.2.2.2.2.2, ((([] : List ByteArray)).length : Int))) else ((impl_Put.f k a0_3 a0_4 l0_5 l0_6 l0_7 a1 (⟨#[]⟩ : ByteArray)).bind fun bt1108 => (some (a0_0, a0_1, l0_2, bt1108.1, bt1108.2.1, bt1108.2.2.1, bt1108.2.2.2.1, bt1108.2.2.2.2.1, bt1091.2.2.2.2.2.2, (bt1108.2.2.2.2.2.1.length : Int)))))) else ((impl_RowGet.f k a0_0 a0_1 l0_2 a1).bind fun bt1123 => (if bt1123.2.2.2.2 = true then (some (bt1123.1, bt1123.2.1, bt1123.2.2.1, a0_3, a0_4, l0_5, l0_6, l0_7, bt1123.2.2.2.2, ((([] : List ByteArray)).length : Int))) else ((impl_RowPut.f k a0_0 a0_1 l0_2 a1 (⟨#[]⟩ : ByteArray)).bind fun bt1134 => (some (bt1134.1, bt1134.2.1, bt1134.2.2.1, a0_3, a0_4, l0_5, l0_6, l0_7, bt1123.2.2.2.2, (bt1134.2.2.2.1.length : Int))))))
set_option maxHeartbeats 8000000 in
set_option maxRecDepth 100000 in
theorem impl_cache_ask.calls (k : Nat) (g : Nat) (a0_0 : Int) (a0_1 : Int) (u9000_ : Value) (l0_2 : List (S76)) (a0_3 : Int) (a0_4 : Int) (u9001_ : Value) (l0_5 : List (S76)) (u9002_ : Value) (l0_6 : List (S76)) (u9003_ : Value) (l0_7 : List Int) (a1 : ByteArray) (r1 : Int) (r2 : Int) (r3 : List (S76)) (r4 : Int) (r5 : Int) (r6 : List (S76)) (r7 : List (S76)) (r8 : List Int) (r9 : Bool) (r10 : Int) (w0 w : World) (F : List SP)  (hM : Mem w0 F w [rowR k76 76 u9000_ l0_2, rowR k76 76 u9001_ l0_5, rowR k76 76 u9002_ l0_6, rowR (Kd.int .i64) 3 u9003_ l0_7, box 101 g [.int .i64 a0_0, .int .i64 a0_1, u9000_, .int .i64 a0_3, .int .i64 a0_4, u9001_, u9002_, u9003_]]) (h : impl_cache_ask.f k a0_0 a0_1 l0_2 a0_3 a0_4 l0_5 l0_6 l0_7 a1 = some (r1, r2, r3, r4, r5, r6, r7, r8, r9, r10)) :
  Calls Try.prog 76 #[.pointer (some ⟨g, 0, none⟩), .string a1] w fun e w' => ∃ v2_ v5_ v6_ v7_ : Value, e = .returned (.tuple #[.bool r9, .int .i64 r10]) ∧ Mem w0 F w' [rowR k76 76 v2_ r3, rowR k76 76 v5_ r6, rowR k76 76 v6_ r7, rowR (Kd.int .i64) 3 v7_ r8, box 101 g [.int .i64 r1, .int .i64 r2, v2_, .int .i64 r4, .int .i64 r5, v5_, v6_, v7_]] := by
 have hu65 := Try.underlying65
 have hu46 := Try.underlying46
 have HM := hM
 clear hM
 have H := h
 clear h
 unfold impl_cache_ask.f at H
 go_enter Try.func76, Try.ntmps76
 obtain ⟨z3_0, z3_1, z3_2, z3_3, z3_4, z3_5, z3_6, z3_7, Z3_0, Z3_1, Z3_2, Z3_3, Z3_4, Z3_5, Z3_6, Z3_7⟩ := bk8 (HM.bx 4 rfl)
 go_upto_if 19 with (fail)
 replace H := IT H; rcases H with ⟨c4, H⟩ | ⟨c4, H⟩
 ·have c4b0 : decide (0 < a0_3) = true := decide_eq_true c4
  clear c4
  (first | rw [c4b0] | (simp only [i64_w, i32_w]; rw [c4b0]) | skip)
  replace H := BN H; obtain ⟨⟨t1091, t1092, t1093, t1096, t1099, t1102, t1103⟩, A5, H⟩ := H
  obtain ⟨Xo7, ko7, eo7⟩ := HM.rdR 1 rfl
  subst eo7
  obtain ⟨Xo8, ko8, eo8⟩ := HM.rdR 2 rfl
  subst eo8
  obtain ⟨Xo9, ko9, eo9⟩ := HM.rdR 3 rfl
  subst eo9
  go_upto_if 32 with (first | ((with_reducible refine gC 98 rfl ?_); refine pC (some 26) rfl #[.agg #[.int .i64 a0_3, .int .i64 a0_4, .slice Xo7 l0_5.length ko7, .slice Xo8 l0_6.length ko8, .slice Xo9 l0_7.length ko9], .string a1] rfl Try.func98 (impl_Get.calls k a0_3 a0_4 _ _ l0_5 _ _ l0_6 _ _ l0_7 a1 t1091 t1092 t1093 t1096 t1099 t1102 t1103 _ (HM.CR 1 rfl).2.2 (HM.CR 1 rfl).2.1 (HM.CR 2 rfl).2.2 (HM.CR 2 rfl).2.1 (HM.CR 3 rfl).2.2 (HM.CR 3 rfl).2.1 A5.out) ?_; rintro e w6 ⟨v1094, v1097, v1100, rfl, hR⟩; refine ⟨_, rfl, ?_⟩; replace HM := HM.call hR; clear hR) | ((with_reducible refine gN 6 rfl ?_); refine pB 6 65 [.int .i64 0, .int .i64 0, .slice none 0 0, .slice none 0 0, .slice none 0 0] HM rfl ?_; clear HM; intro gb1104 w10 HM; obtain ⟨Xo11, ko11, eo11⟩ := HM.rdR 5 rfl; subst eo11; obtain ⟨Xo12, ko12, eo12⟩ := HM.rdR 6 rfl; subst eo12; obtain ⟨Xo13, ko13, eo13⟩ := HM.rdR 7 rfl; subst eo13) | ((with_reducible refine gS 6 rfl ?_); refine pS 8 6 0 [.int .i64 t1091, .int .i64 t1092, .slice Xo11 t1093.length ko11, .slice Xo12 t1096.length ko12, .slice Xo13 t1099.length ko13] HM rfl rfl ?_; clear HM; intro w14 HM) | ((with_reducible refine gN 30 rfl ?_); refine pL 30 Kd.string 9 ([] : List ByteArray) [] (Reps.none _ _) HM rfl ?_; clear HM; intro v1106 w15 HM))
  replace HM := nzM HM
  replace H := IB H
  rcases H with ⟨c16, H⟩ | ⟨c16, H⟩
  ·subst c16
   simp only [Option.some.injEq, Prod.mk.injEq] at H
   obtain ⟨rfl, rfl, rfl, rfl, rfl, rfl, rfl, rfl, rfl, rfl⟩ := H
   obtain ⟨z17_0, z17_1, z17_2, z17_3, z17_4, Z17_0, Z17_1, Z17_2, Z17_3, Z17_4⟩ := bk5 (HM.bx 8 rfl)
   go_wp2_with (first | ((with_reducible refine gS 46 rfl ?_); refine pS 4 46 3 [.int .i64 t1091, .int .i64 t1092, .slice Xo11 t1093.length ko11, .slice Xo12 t1096.length ko12, .slice Xo13 t1099.length ko13] HM rfl rfl ?_; clear HM; intro w18 HM; obtain ⟨Xo19, ko19, eo19⟩ := HM.rdR 9 rfl; subst eo19))
   go_ret2
   exact ⟨_, _, _, _, ER, (MD HM).pick [0, 5, 6, 7, 4]⟩
  ·subst c16
   replace H := BN H; obtain ⟨⟨t1108, t1109, t1110, t1113, t1116, t1119, t1122⟩, A21, H⟩ := H
   simp only [Option.some.injEq, Prod.mk.injEq] at H
   obtain ⟨rfl, rfl, rfl, rfl, rfl, rfl, rfl, rfl, rfl, rfl⟩ := H
   obtain ⟨z20_0, z20_1, z20_2, z20_3, z20_4, z20_5, z20_6, z20_7, Z20_0, Z20_1, Z20_2, Z20_3, Z20_4, Z20_5, Z20_6, Z20_7⟩ := bk8 (HM.bx 4 rfl)
   go_wp2_with (first | ((with_reducible refine gC 99 rfl ?_); refine pC (some 39) rfl #[.agg #[.int .i64 a0_3, .int .i64 a0_4, .slice Xo7 l0_5.length ko7, .slice Xo8 l0_6.length ko8, .slice Xo9 l0_7.length ko9], .string a1, .string (⟨#[]⟩ : ByteArray)] rfl Try.func99 (impl_Put.calls k a0_3 a0_4 _ _ l0_5 _ _ l0_6 _ _ l0_7 a1 (⟨#[]⟩ : ByteArray) t1108 t1109 t1110 t1113 t1116 t1119 t1122 _ (HM.CR 1 rfl).2.2 (HM.CR 1 rfl).2.1 (HM.CR 2 rfl).2.2 (HM.CR 2 rfl).2.1 (HM.CR 3 rfl).2.2 (HM.CR 3 rfl).2.1 A21.out) ?_; rintro e w22 ⟨v1111, v1114, v1117, v1120, rfl, hR⟩; refine ⟨_, rfl, ?_⟩; replace HM := HM.call hR; clear hR; obtain ⟨Xo23, ko23, eo23⟩ := HM.rdR 10 rfl; subst eo23; obtain ⟨Xo24, ko24, eo24⟩ := HM.rdR 11 rfl; subst eo24; obtain ⟨Xo25, ko25, eo25⟩ := HM.rdR 12 rfl; subst eo25) | ((with_reducible refine gS 6 rfl ?_); refine pS 8 6 0 [.int .i64 t1108, .int .i64 t1109, .slice Xo23 t1110.length ko23, .slice Xo24 t1113.length ko24, .slice Xo25 t1116.length ko25] HM rfl rfl ?_; clear HM; intro w26 HM; obtain ⟨z27_0, z27_1, z27_2, z27_3, z27_4, Z27_0, Z27_1, Z27_2, Z27_3, Z27_4⟩ := bk5 (HM.bx 8 rfl)) | ((with_reducible refine gS 46 rfl ?_); refine pS 4 46 3 [.int .i64 t1108, .int .i64 t1109, .slice Xo23 t1110.length ko23, .slice Xo24 t1113.length ko24, .slice Xo25 t1116.length ko25] HM rfl rfl ?_; clear HM; intro w28 HM; obtain ⟨Xo29, ko29, eo29⟩ := HM.rdR 13 rfl; subst eo29))
   go_ret2
   exact ⟨_, _, _, _, ER, (MD HM).pick [0, 10, 11, 12, 4]⟩
 ·have c4b0 : decide (0 < a0_3) = false := decide_eq_false c4
  clear c4
  (first | rw [c4b0] | (simp only [i64_w, i32_w]; rw [c4b0]) | skip)
  replace H := BN H; obtain ⟨⟨t1123, t1124, t1125, t1128, t1129⟩, A30, H⟩ := H
  obtain ⟨Xo32, ko32, eo32⟩ := HM.rdR 0 rfl
  subst eo32
  go_upto_if 62 with (first | ((with_reducible refine gC 34 rfl ?_); refine pC (some 56) rfl #[.agg #[.int .i64 a0_0, .int .i64 a0_1, .slice Xo32 l0_2.length ko32], .string a1] rfl Try.func34 (impl_RowGet.calls k a0_0 a0_1 _ _ l0_2 a1 t1123 t1124 t1125 t1128 t1129 _ (HM.CR 0 rfl).2.2 (HM.CR 0 rfl).2.1 A30.out) ?_; rintro e w31 ⟨v1126, rfl, hR⟩; refine ⟨_, rfl, ?_⟩; replace HM := HM.call hR; clear hR) | ((with_reducible refine gN 10 rfl ?_); refine pB 10 46 [.int .i64 0, .int .i64 0, .slice none 0 0] HM rfl ?_; clear HM; intro gb1130 w33 HM; obtain ⟨Xo34, ko34, eo34⟩ := HM.rdR 5 rfl; subst eo34) | ((with_reducible refine gS 10 rfl ?_); refine pS 6 10 0 [.int .i64 t1123, .int .i64 t1124, .slice Xo34 t1125.length ko34] HM rfl rfl ?_; clear HM; intro w35 HM) | ((with_reducible refine gN 60 rfl ?_); refine pL 60 Kd.string 9 ([] : List ByteArray) [] (Reps.none _ _) HM rfl ?_; clear HM; intro v1132 w36 HM))
  replace HM := nzM HM
  replace H := IB H
  rcases H with ⟨c37, H⟩ | ⟨c37, H⟩
  ·subst c37
   simp only [Option.some.injEq, Prod.mk.injEq] at H
   obtain ⟨rfl, rfl, rfl, rfl, rfl, rfl, rfl, rfl, rfl, rfl⟩ := H
   obtain ⟨z38_0, z38_1, z38_2, Z38_0, Z38_1, Z38_2⟩ := bk3 (HM.bx 6 rfl)
   go_wp2_with (first | ((with_reducible refine gS 76 rfl ?_); refine pS 4 76 0 [.int .i64 t1123, .int .i64 t1124, .slice Xo34 t1125.length ko34] HM rfl rfl ?_; clear HM; intro w39 HM; obtain ⟨Xo40, ko40, eo40⟩ := HM.rdR 7 rfl; subst eo40))
   go_ret2
   exact ⟨_, _, _, _, ER, (MD HM).pick [5, 1, 2, 3, 4]⟩
  ·subst c37
   replace H := BN H; obtain ⟨⟨t1134, t1135, t1136, t1139, t1142⟩, A42, H⟩ := H
   simp only [Option.some.injEq, Prod.mk.injEq] at H
   obtain ⟨rfl, rfl, rfl, rfl, rfl, rfl, rfl, rfl, rfl, rfl⟩ := H
   obtain ⟨z41_0, z41_1, z41_2, z41_3, z41_4, z41_5, z41_6, z41_7, Z41_0, Z41_1, Z41_2, Z41_3, Z41_4, Z41_5, Z41_6, Z41_7⟩ := bk8 (HM.bx 4 rfl)
   go_wp2_with (first | ((with_reducible refine gC 33 rfl ?_); refine pC (some 69) rfl #[.agg #[.int .i64 a0_0, .int .i64 a0_1, .slice Xo32 l0_2.length ko32], .string a1, .string (⟨#[]⟩ : ByteArray)] rfl Try.func33 (impl_RowPut.calls k a0_0 a0_1 _ _ l0_2 a1 (⟨#[]⟩ : ByteArray) t1134 t1135 t1136 t1139 t1142 _ (HM.CR 0 rfl).2.2 (HM.CR 0 rfl).2.1 A42.out) ?_; rintro e w43 ⟨v1137, v1140, rfl, hR⟩; refine ⟨_, rfl, ?_⟩; replace HM := HM.call hR; clear hR; obtain ⟨Xo44, ko44, eo44⟩ := HM.rdR 8 rfl; subst eo44) | ((with_reducible refine gS 10 rfl ?_); refine pS 6 10 0 [.int .i64 t1134, .int .i64 t1135, .slice Xo44 t1136.length ko44] HM rfl rfl ?_; clear HM; intro w45 HM; obtain ⟨z46_0, z46_1, z46_2, Z46_0, Z46_1, Z46_2⟩ := bk3 (HM.bx 6 rfl)) | ((with_reducible refine gS 76 rfl ?_); refine pS 4 76 0 [.int .i64 t1134, .int .i64 t1135, .slice Xo44 t1136.length ko44] HM rfl rfl ?_; clear HM; intro w47 HM; obtain ⟨Xo48, ko48, eo48⟩ := HM.rdR 9 rfl; subst eo48))
   go_ret2
   exact ⟨_, _, _, _, ER, (MD HM).pick [8, 1, 2, 3, 4]⟩
def impl_asked.l0 : Nat → List Bool → Int → List ByteArray → Int → Int → Int → Int → List (S76) → Int → Int → List (S76) → List (S76) → List Int → Option (Int × Int × (List (S76)) × Int × Int × (List (S76)) × (List (S76)) × List Int × List Bool × Int)
 | 0, _, _, _, _, _, _, _, _, _, _, _, _, _ => none
 | k + 1, x8, x9, x17, x18, x19, x1161000, x1161001, x1161002, x1161003, x1161004, x1161005, x1161006, x1161007 => if x19 < x18 then (if 0 ≤ x19 then (if x19 < (x17.length : Int) then ((impl_cache_ask.f k x1161000 x1161001 x1161002 x1161003 x1161004 x1161005 x1161006 x1161007 (rdOf ByteArray.empty x17 x19)).bind fun bt1165 => (if x8.length < 140737488355328 then (impl_asked.l0 k (x8 ++ [bt1165.2.2.2.2.2.2.2.2.1]) (wrap64 (x9 + bt1165.2.2.2.2.2.2.2.2.2)) x17 x18 (wrap64 (x19 + 1)) bt1165.1 bt1165.2.1 bt1165.2.2.1 bt1165.2.2.2.1 bt1165.2.2.2.2.1 bt1165.2.2.2.2.2.1 bt1165.2.2.2.2.2.2.1 bt1165.2.2.2.2.2.2.2.1) else (none))) else (none)) else (none)) else (some (x1161000, x1161001, x1161002, x1161003, x1161004, x1161005, x1161006, x1161007, x8, x9))
def impl_asked.f (k : Nat) (a0_0 : Int) (a0_1 : Int) (a0_2 : Int) (l1 : List ByteArray) : Option (Int × Int × (List (S76)) × Int × Int × (List (S76)) × (List (S76)) × List Int × List Bool × Int) := (impl_cacheOf.f k a0_0 a0_1 a0_2).bind fun bt1144 => (impl_asked.l0 k (([] : List Bool)) 0 l1 (l1.length : Int) 0 bt1144.1 bt1144.2.1 bt1144.2.2.1 bt1144.2.2.2.1 bt1144.2.2.2.2.1 bt1144.2.2.2.2.2.1 bt1144.2.2.2.2.2.2.1 bt1144.2.2.2.2.2.2.2)
set_option maxHeartbeats 8000000 in
set_option maxRecDepth 100000 in
theorem impl_asked.calls (k : Nat) (a0_0 : Int) (a0_1 : Int) (a0_2 : Int) (A1 : Option Addr) (c1 : Nat) (l1 : List ByteArray) (r1 : Int) (r2 : Int) (r3 : List (S76)) (r4 : Int) (r5 : Int) (r6 : List (S76)) (r7 : List (S76)) (r8 : List Int) (r9 : List Bool) (r10 : Int) (w : World) (hr1 : Kd.C Kd.string w A1 l1.length l1) (hc1 : l1.length ≤ c1) (h : impl_asked.f k a0_0 a0_1 a0_2 l1 = some (r1, r2, r3, r4, r5, r6, r7, r8, r9, r10)) :
  Calls Try.prog 50 #[.agg #[.int .i64 a0_0, .int .i64 a0_1, .int .i64 a0_2], .slice A1 l1.length c1] w fun e w' => ∃ v2_ v5_ v6_ v7_ v8_ : Value, ∃ g_ : Nat, e = .returned (.tuple #[.pointer (some ⟨g_, 0, none⟩), v8_, .int .i64 r10]) ∧ Mem w [] w' [rowR k76 76 v2_ r3, rowR k76 76 v5_ r6, rowR k76 76 v6_ r7, rowR (Kd.int .i64) 3 v7_ r8, rowR Kd.bool 4 v8_ r9, box 101 g_ [.int .i64 r1, .int .i64 r2, v2_, .int .i64 r4, .int .i64 r5, v5_, v6_, v7_]] := by
 have hu28 := Try.underlying28
 have HR1 := Aside0.mk hr1
 have HC1 := Aside0.mk hc1
 clear hr1 hc1
 have HM := Mem.nil w
 have H := h
 clear h
 unfold impl_asked.f at H
 go_enter Try.func50, Try.ntmps50
 replace H := BN H; obtain ⟨⟨t1144, t1145, t1146, t1149, t1150, t1151, t1154, t1157⟩, A5, H⟩ := H
 have H' := Aside0.mk H
 clear H
 go_wp2_with (first | ((with_reducible refine gN 2 rfl ?_); refine pB 2 28 [.int .i64 a0_0, .int .i64 a0_1, .int .i64 a0_2] HM rfl ?_; clear HM; intro gb1143 w3 HM; obtain ⟨z4_0, z4_1, z4_2, Z4_0, Z4_1, Z4_2⟩ := bk3 (HM.bx 0 rfl)) | ((with_reducible refine gC 75 rfl ?_); refine pC (some 15) rfl #[.agg #[.int .i64 a0_0, .int .i64 a0_1, .int .i64 a0_2]] rfl Try.func75 (impl_cacheOf.calls k a0_0 a0_1 a0_2 t1144 t1145 t1146 t1149 t1150 t1151 t1154 t1157 _ A5.out) ?_; rintro e w6 ⟨v1147, v1152, v1155, v1158, gb1160, rfl, hR⟩; refine ⟨_, rfl, ?_⟩; replace HM := HM.call hR; clear hR) | ((with_reducible refine gN 16 rfl ?_); refine pL 16 Kd.bool 4 ([] : List Bool) [] (Reps.none _ _) HM rfl ?_; clear HM; intro v1162 w7 HM))
 go_loopg [8, 9, 19] k (fun kq v8 v9 v19 w' => ∃ (x8_1 : List Bool) (x9_1 : Int) (x19_1 : Int) (x1161000_1 : Int) (x1161001_1 : Int) (x1161002_1 : List (S76)) (x1161003_1 : Int) (x1161004_1 : Int) (x1161005_1 : List (S76)) (x1161006_1 : List (S76)) (x1161007_1 : List Int) (u1161002 : Value) (u1161005 : Value) (u1161006 : Value) (u1161007 : Value), v9 = .int .i64 x9_1 ∧ v19 = .int .i64 x19_1 ∧ Aside0 (impl_asked.l0 kq x8_1 x9_1 l1 (l1.length : Int) x19_1 x1161000_1 x1161001_1 x1161002_1 x1161003_1 x1161004_1 x1161005_1 x1161006_1 x1161007_1 = some (r1, r2, r3, r4, r5, r6, r7, r8, r9, r10)) ∧ Aside0 (kq ≤ k) ∧ Mem w [] w' [rowR Kd.bool 4 v8 x8_1, rowR k76 76 u1161002 x1161002_1, rowR k76 76 u1161005 x1161005_1, rowR k76 76 u1161006 x1161006_1, rowR (Kd.int .i64) 3 u1161007 x1161007_1, box 28 gb1143 [.int .i64 a0_0, .int .i64 a0_1, .int .i64 a0_2], box 101 gb1160 [.int .i64 x1161000_1, .int .i64 x1161001_1, u1161002, .int .i64 x1161003_1, .int .i64 x1161004_1, u1161005, u1161006, u1161007]])
 case atStart => exact ⟨((([] : List Bool))), (0), (0), (t1144), (t1145), (t1146), (t1149), (t1150), (t1151), (t1154), (t1157), (v1147), (v1152), (v1155), (v1158), RS, RS, H', ⟨Nat.le_refl _⟩, (MD HM).pick [6, 1, 2, 3, 4, 0, 5]⟩
 case round =>
  clear H' HM
  obtain ⟨x8_1, x9_1, x19_1, x1161000_1, x1161001_1, x1161002_1, x1161003_1, x1161004_1, x1161005_1, x1161006_1, x1161007_1, u1161002, u1161005, u1161006, u1161007, rfl, rfl, HA, HK1, HM⟩ := hrel
  cases gk with
  | zero => exact absurd HA.out (by simp [impl_asked.l0])
  | succ k1 =>
   have H := HA.out
   clear HA
   simp only [impl_asked.l0] at H
   go_upto_if 20 with (fail)
   replace H := IT H; rcases H with ⟨c8, H⟩ | ⟨c8, H⟩
   ·have c8b0 : decide (x19_1 < (l1.length : Int)) = true := decide_eq_true c8
    clear c8
    (first | rw [c8b0] | (simp only [i64_w, i32_w]; rw [c8b0]) | skip)
    replace H := GD H; obtain ⟨c9, H⟩ := H
    have c9b0 : decide (0 ≤ x19_1) = true := decide_eq_true c9
    clear c9
    replace H := GD H; obtain ⟨c10, H⟩ := H
    have c10b0 : decide (x19_1 < (l1.length : Int)) = true := decide_eq_true c10
    clear c10
    replace H := BN H; obtain ⟨⟨t1165, t1166, t1167, t1170, t1171, t1172, t1175, t1178, t1181, t1182⟩, A11, H⟩ := H
    replace H := GD H; obtain ⟨c13, H⟩ := H
    have LMc13 := Aside0.mk c13
    clear c13
    have H' := Aside0.mk H
    clear H
    have p1164 : 0 ≤ (x19_1 : Int) := of_decide_eq_true AS
    have q1164 : (x19_1 : Int) < (l1.length : Int) := of_decide_eq_true AS
    obtain ⟨ad1164, e1164, hx1164_0⟩ := Kd.at_string (HM.came HR1.out) x19_1 p1164 q1164
    cases e1164
    replace p1164 := eq_true p1164
    replace q1164 := eq_true q1164
    go_wp2_with (first | ((with_reducible refine gC 76 rfl ?_); refine pC (some 26) rfl #[.pointer (some ⟨gb1160, 0, none⟩), .string (rdOf ByteArray.empty l1 x19_1)] rfl Try.func76 (impl_cache_ask.calls k1 gb1160 x1161000_1 x1161001_1 u1161002 x1161002_1 x1161003_1 x1161004_1 u1161005 x1161005_1 u1161006 x1161006_1 u1161007 x1161007_1 (rdOf ByteArray.empty l1 x19_1) t1165 t1166 t1167 t1170 t1171 t1172 t1175 t1178 t1181 t1182 _ _ _ (HM.focus [0, 5] [1, 2, 3, 4, 6]) A11.out) ?_; rintro e w12 ⟨v1168, v1173, v1176, v1179, rfl, hR⟩; refine ⟨_, rfl, ?_⟩; replace HM := nzM hR.unfocus; clear hR) | ((with_reducible refine gN 31 rfl ?_); refine pL 31 Kd.bool 4 [t1181] [.bool t1181] (Reps.one (show Kd.M Kd.bool _ _ _ t1181 [.bool t1181] from rfl) (Reps.none _ _)) HM rfl ?_; clear HM; intro v15 w14 HM; obtain ⟨Xv15, kv15, ev15⟩ := HM.rdR 7 rfl; subst ev15) | ((with_reducible refine gate_builtin (b := .append) (xs := #[.tmp 29, .tmp 31]) rfl ?_); refine pA 0 (.tmp 29) (.tmp 31) 26 4 Kd.bool u8 x8_1 [t1181] Xv15 ([t1181].length) kv15 HM rfl Try.underlying26 info4 rfl (HM.CR 7 rfl).2.2 (by have h_ := LMc13.out; simp only [List.length_singleton]; omega) ?_; clear HM; intro v1184 w16 HM))
    go_roundg k1
    case measure => have := HK1.out; omega
    case rel => exact ⟨((x8_1 ++ [t1181])), (wrap64 (x9_1 + t1182)), (wrap64 (x19_1 + 1)), (t1165), (t1166), (t1167), (t1170), (t1171), (t1172), (t1175), (t1178), (v1168), (v1173), (v1176), (v1179), RS, RS, H', ⟨by have := HK1.out; omega⟩, (MD HM).pick [0, 2, 3, 4, 5, 1, 6]⟩
   ·have c8b0 : decide (x19_1 < (l1.length : Int)) = false := decide_eq_false c8
    clear c8
    (first | rw [c8b0] | (simp only [i64_w, i32_w]; rw [c8b0]) | skip)
    simp only [Option.some.injEq, Prod.mk.injEq] at H
    obtain ⟨rfl, rfl, rfl, rfl, rfl, rfl, rfl, rfl, rfl, rfl⟩ := H
    go_wp2
    go_ret3
    exact ⟨_, _, _, _, _, _, ER, (MD HM).pick [1, 2, 3, 4, 0, 6]⟩
end Go.Proofs.Ytanakbmhclpamaa.G

namespace Go.Proofs.Ytanakbmhclpamaa.G
open Go.RowKit Go.Proofs.YtanakbmhclpamaaW.PrintWords Go.Proofs.YtanakbmhclpamaaW.PrintLast Go.Proofs.YtanakbmhclpamaaW.PrintMore Go.Proofs.Ytanakbmhclpamaa.Sh
attribute [local go_sem] max2_int min2_int max_two min_two max_three min_three max_four min_four
set_option linter.unusedVariables false
set_option linter.unusedSimpArgs false
def impl_hitsIn.l0 : Nat → Int → List Bool → Int → Int → Option (Int)
 | 0, _, _, _, _ => none
 | k + 1, x3, x6, x7, x8 => if x8 < x7 then (if 0 ≤ x8 then (if x8 < (x6.length : Int) then (if rdOf false x6 x8 = true then (impl_hitsIn.l0 k (wrap64 (x3 + 1)) x6 x7 (wrap64 (x8 + 1))) else (impl_hitsIn.l0 k x3 x6 x7 (wrap64 (x8 + 1)))) else (none)) else (none)) else (some x3)
def impl_hitsIn.f (k : Nat) (l0 : List Bool) : Option (Int) := impl_hitsIn.l0 k 0 l0 (l0.length : Int) 0
set_option maxHeartbeats 8000000 in
set_option maxRecDepth 100000 in
theorem impl_hitsIn.calls (k : Nat) (A0 : Option Addr) (c0 : Nat) (l0 : List Bool) (r : Int) (w : World) (hr0 : Kd.C Kd.bool w A0 l0.length l0) (hc0 : l0.length ≤ c0) (h : impl_hitsIn.f k l0 = some r) :
  Calls Try.prog 52 #[.slice A0 l0.length c0] w fun e w' => e = .returned (.int .i64 r) ∧ Drawn0 w w' := by
 have HR0 := Aside0.mk hr0
 have HC0 := Aside0.mk hc0
 clear hr0 hc0
 have H : (impl_hitsIn.l0 k 0 l0 (l0.length : Int) 0) = some r := h
 clear h
 have H' := Aside0.mk H
 clear H
 go_enter Try.func52, Try.ntmps52
 go_wp2
 go_loopg [3, 8] k (fun kq v3 v8 w' => ∃ (x3_1 : Int) (x8_1 : Int), v3 = .int .i64 x3_1 ∧ v8 = .int .i64 x8_1 ∧ Aside0 (impl_hitsIn.l0 kq x3_1 l0 (l0.length : Int) x8_1 = some r) ∧ Aside0 (kq ≤ k) ∧ Drawn0 w w')
 case atStart => exact ⟨(0), (0), RS, RS, H', ⟨Nat.le_refl _⟩, DR⟩
 case round =>
  clear H'
  obtain ⟨x3_1, x8_1, rfl, rfl, HA, HK1, ⟨m1, rfl⟩⟩ := hrel
  cases gk with
  | zero => exact absurd HA.out (by simp [impl_hitsIn.l0])
  | succ k1 =>
   have H := HA.out
   clear HA
   simp only [impl_hitsIn.l0] at H
   by_cases c2 : x8_1 < (l0.length : Int)
   ·rw [if_pos c2] at H
    have c2b0 : decide (x8_1 < (l0.length : Int)) = true := decide_eq_true c2
    clear c2
    by_cases c3 : 0 ≤ x8_1
    ·rw [if_pos c3] at H
     have c3b0 : decide (0 ≤ x8_1) = true := decide_eq_true c3
     clear c3
     by_cases c4 : x8_1 < (l0.length : Int)
     ·rw [if_pos c4] at H
      have c4b0 : decide (x8_1 < (l0.length : Int)) = true := decide_eq_true c4
      clear c4
      obtain ⟨bq5, hbq5⟩ : ∃ b_ : Bool, b_ = (rdOf false l0 x8_1) := ⟨_, rfl⟩
      replace H : (if bq5 = true then (impl_hitsIn.l0 k1 (wrap64 (x3_1 + 1)) l0 (l0.length : Int) (wrap64 (x8_1 + 1))) else (impl_hitsIn.l0 k1 x3_1 l0 (l0.length : Int) (wrap64 (x8_1 + 1)))) = some r := by rw [← hbq5] at H; exact H
      have Nbq5 := Aside0.mk hbq5
      clear hbq5
      by_cases c6 : bq5 = true
      ·subst c6
       replace H := IP H
       have H' := Aside0.mk H
       clear H
       have p1298 : 0 ≤ (x8_1 : Int) := of_decide_eq_true AS
       have q1298 : x8_1 < (l0.length : Int) := of_decide_eq_true AS
       obtain ⟨ad1298, e1298, hx1298_0⟩ := Kd.at_bool HR0.out x8_1 p1298 q1298
       (try rw [← Nbq5.out] at hx1298_0)
       cases e1298
       replace p1298 := eq_true p1298
       replace q1298 := eq_true q1298
       go_wp2
       go_roundg k1
       case measure => have := HK1.out; omega
       case rel => exact ⟨(wrap64 (x3_1 + 1)), (wrap64 (x8_1 + 1)), RS, RS, H', ⟨by have := HK1.out; omega⟩, DR⟩
      ·replace c6 := Bool.eq_false_iff.mpr c6
       subst c6
       replace H := IN H
       have H' := Aside0.mk H
       clear H
       have p1298 : 0 ≤ (x8_1 : Int) := of_decide_eq_true AS
       have q1298 : x8_1 < (l0.length : Int) := of_decide_eq_true AS
       obtain ⟨ad1298, e1298, hx1298_0⟩ := Kd.at_bool HR0.out x8_1 p1298 q1298
       (try rw [← Nbq5.out] at hx1298_0)
       cases e1298
       replace p1298 := eq_true p1298
       replace q1298 := eq_true q1298
       go_wp2
       go_roundg k1
       case measure => have := HK1.out; omega
       case rel => exact ⟨(x3_1), (wrap64 (x8_1 + 1)), RS, RS, H', ⟨by have := HK1.out; omega⟩, DR⟩
     ·rw [if_neg c4] at H
      exact absurd H (by simp)
    ·rw [if_neg c3] at H
     exact absurd H (by simp)
   ·rw [if_neg c2] at H
    have c2b0 : decide (x8_1 < (l0.length : Int)) = false := decide_eq_false c2
    clear c2
    obtain rfl := Option.some.inj H
    go_wp2
    go_ret
    exact ⟨by first | rfl | (simp; done) | (simp [*]; done), DR⟩
end Go.Proofs.Ytanakbmhclpamaa.G

namespace Go.Proofs.Ytanakbmhclpamaa.G
open Go.RowKit Go.Proofs.YtanakbmhclpamaaW.PrintWords Go.Proofs.YtanakbmhclpamaaW.PrintLast Go.Proofs.YtanakbmhclpamaaW.PrintMore Go.Proofs.Ytanakbmhclpamaa.Sh
attribute [local go_sem] max2_int min2_int max_two min_two max_three min_three max_four min_four
set_option linter.unusedVariables false
set_option linter.unusedSimpArgs false
open Go.Proofs.Ytanakbmhclpamaa.Mm
def impl_CountOf.j0 : Nat → List ByteArray → Bool → Int → Int → Int → Option (Int × Int × Int × Int)
 | 0, _, _, _, _, _ => none
 | k + 1, x1, x16, x1300000, x1300001, x1300002 => if x16 = true then (some (0, 0, 0, 0)) else ((impl_asked.f k x1300000 x1300001 x1300002 x1).bind fun bt1303 => ((impl_hitsIn.f k bt1303.2.2.2.2.2.2.2.2.1).bind fun t1324 => (some ((x1.length : Int), t1324, wrap64 ((x1.length : Int) - t1324), bt1303.2.2.2.2.2.2.2.2.2))))
def impl_CountOf.f (k : Nat) (a0_0 : Int) (a0_1 : Int) (a0_2 : Int) (l1 : List ByteArray) : Option (Int × Int × Int × Int) := (impl_SetupOk.f k a0_0 a0_1 a0_2).bind fun t1301 => (if t1301 = true then ((impl_AsksOk.f k l1).bind fun t1302 => (impl_CountOf.j0 k l1 (!t1302) a0_0 a0_1 a0_2)) else (impl_CountOf.j0 k l1 true a0_0 a0_1 a0_2))
set_option maxHeartbeats 8000000 in
set_option maxRecDepth 100000 in
theorem impl_CountOf.calls (k : Nat) (a0_0 : Int) (a0_1 : Int) (a0_2 : Int) (A1 : Option Addr) (c1 : Nat) (l1 : List ByteArray) (r1 : Int) (r2 : Int) (r3 : Int) (r4 : Int) (w : World) (hr1 : Kd.C Kd.string w A1 l1.length l1) (hc1 : l1.length ≤ c1) (h : impl_CountOf.f k a0_0 a0_1 a0_2 l1 = some (r1, r2, r3, r4)) :
  Calls Try.prog 22 #[.agg #[.int .i64 a0_0, .int .i64 a0_1, .int .i64 a0_2], .slice A1 l1.length c1] w fun e w' => e = .returned (.agg #[.int .i64 r1, .int .i64 r2, .int .i64 r3, .int .i64 r4]) ∧ Mem w [] w' [] := by
 have hu28 := Try.underlying28
 have hu36 := Try.underlying36
 have HR1 := Aside0.mk hr1
 have HC1 := Aside0.mk hc1
 clear hr1 hc1
 have HM := Mem.nil w
 have H := h
 clear h
 unfold impl_CountOf.f at H
 go_enter Try.func22, Try.ntmps22
 have HC5 := Aside0.mk H
 clear H
 go_upto_region 1 with (first | ((with_reducible refine gN 2 rfl ?_); refine pB 2 28 [.int .i64 a0_0, .int .i64 a0_1, .int .i64 a0_2] HM rfl ?_; clear HM; intro gb1299 w3 HM) | ((with_reducible refine gN 4 rfl ?_); refine pB 4 36 [.int .i64 0, .int .i64 0, .int .i64 0, .int .i64 0] HM rfl ?_; clear HM; intro gb1300 w4 HM))
 replace HM := nzM HM
 try simp only [Act.put, List.setIfInBounds_toArray, List.set_cons_zero, List.set_cons_succ]
 go_cut [16] (fun v16 wc => ∃ (kq : Nat) (x16_4 : Bool), v16 = .bool x16_4 ∧ Aside0 (impl_CountOf.j0 kq l1 x16_4 a0_0 a0_1 a0_2 = some (r1, r2, r3, r4)) ∧ Aside0 (kq ≤ k) ∧ Mem w [] wc [box 28 gb1299 [.int .i64 a0_0, .int .i64 a0_1, .int .i64 a0_2], box 36 gb1300 [.int .i64 0, .int .i64 0, .int .i64 0, .int .i64 0]])
 case first =>
  have H := HC5.out
  clear HC5
  replace H := BN H; obtain ⟨t1301, A7, H⟩ := H
  replace H := IB H
  rcases H with ⟨c9, H⟩ | ⟨c9, H⟩
  ·subst c9
   replace H := BN H; obtain ⟨t1302, A10, H⟩ := H
   have H' := Aside0.mk H
   clear H
   obtain ⟨z6_0, z6_1, z6_2, Z6_0, Z6_1, Z6_2⟩ := bk3 (HM.bx 0 rfl)
   go_wp2_with (first | ((with_reducible refine gC 39 rfl ?_); refine pC (some 10) rfl #[.agg #[.int .i64 a0_0, .int .i64 a0_1, .int .i64 a0_2]] rfl Try.func39 (impl_SetupOk.calls k a0_0 a0_1 a0_2 true _ A7.out) ?_; rintro e w8 ⟨rfl, hR⟩; refine ⟨_, rfl, ?_⟩; replace HM := HM.call hR; clear hR) | ((with_reducible refine gC 42 rfl ?_); refine pC (some 14) rfl #[.slice A1 l1.length c1] rfl Try.func42 (impl_AsksOk.calls k _ _ l1 t1302 _ (HM.came HR1.out) HC1.out A10.out) ?_; rintro e w11 ⟨rfl, hR⟩; refine ⟨_, rfl, ?_⟩; replace HM := HM.call hR; clear hR))
   go_meet
   case rel => exact ⟨_, (!t1302), RS, H', ⟨by first | omega | exact Nat.le_refl _⟩, (MD HM).pick [0, 1]⟩
  ·subst c9
   have H' := Aside0.mk H
   clear H
   obtain ⟨z6_0, z6_1, z6_2, Z6_0, Z6_1, Z6_2⟩ := bk3 (HM.bx 0 rfl)
   go_wp2_with (first | ((with_reducible refine gC 39 rfl ?_); refine pC (some 10) rfl #[.agg #[.int .i64 a0_0, .int .i64 a0_1, .int .i64 a0_2]] rfl Try.func39 (impl_SetupOk.calls k a0_0 a0_1 a0_2 false _ A7.out) ?_; rintro e w8 ⟨rfl, hR⟩; refine ⟨_, rfl, ?_⟩; replace HM := HM.call hR; clear hR))
   go_meet
   case rel => exact ⟨_, (true), RS, H', ⟨by first | omega | exact Nat.le_refl _⟩, (MD HM).pick [0, 1]⟩
 case rest =>
  clear HC5 HM
  obtain ⟨kq, x16_4, rfl, HA, HJ4, HM⟩ := hcut
  cases kq with
  | zero => exact absurd HA.out (by simp [impl_CountOf.j0])
  | succ kj4 =>
   have H := HA.out
   clear HA
   simp only [impl_CountOf.j0] at H
   go_upto_if 16 with (fail)
   replace H := IB H
   rcases H with ⟨c12, H⟩ | ⟨c12, H⟩
   ·subst c12
    simp only [Option.some.injEq, Prod.mk.injEq] at H
    obtain ⟨rfl, rfl, rfl, rfl⟩ := H
    go_wp2_with (first | ((with_reducible refine gS 4 rfl ?_); refine pS 1 4 0 [.int .i64 0, .int .i64 0, .int .i64 0, .int .i64 0] HM rfl rfl ?_; clear HM; intro w13 HM))
    refine bodyPost_ret (results_cell_row rfl _ _ gb1300 36 #[.int .i64 0, .int .i64 0, .int .i64 0, .int .i64 0] (0, 0) _ rfl (HM.bx 1 rfl) Try.underlying36 rfl (by kernel_rfl)) rfl ?_
    exact ⟨ER, (MD HM).pick []⟩
   ·subst c12
    replace H := BN H; obtain ⟨⟨t1303, t1304, t1305, t1308, t1309, t1310, t1313, t1316, t1319, t1322⟩, A15, H⟩ := H
    replace H := BN H; obtain ⟨t1324, A17, H⟩ := H
    simp only [Option.some.injEq, Prod.mk.injEq] at H
    obtain ⟨rfl, rfl, rfl, rfl⟩ := H
    obtain ⟨z14_0, z14_1, z14_2, Z14_0, Z14_1, Z14_2⟩ := bk3 (HM.bx 0 rfl)
    go_wp2_with (first | ((with_reducible refine gC 50 rfl ?_); refine pC (some 21) rfl #[.agg #[.int .i64 a0_0, .int .i64 a0_1, .int .i64 a0_2], .slice A1 l1.length c1] rfl Try.func50 (impl_asked.calls kj4 a0_0 a0_1 a0_2 _ _ l1 t1303 t1304 t1305 t1308 t1309 t1310 t1313 t1316 t1319 t1322 _ (HM.came HR1.out) HC1.out A15.out) ?_; rintro e w16 ⟨v1306, v1311, v1314, v1317, v1320, gb1323, rfl, hR⟩; refine ⟨_, rfl, ?_⟩; replace HM := HM.call hR; clear hR; obtain ⟨Xo19, ko19, eo19⟩ := HM.rdR 6 rfl; subst eo19) | ((with_reducible refine gC 52 rfl ?_); refine pC (some 26) rfl #[.slice Xo19 t1319.length ko19] rfl Try.func52 (impl_hitsIn.calls kj4 _ _ t1319 t1324 _ (HM.CR 6 rfl).2.2 (HM.CR 6 rfl).2.1 A17.out) ?_; rintro e w18 ⟨rfl, hd⟩; refine ⟨_, rfl, ?_⟩; replace HM := HM.drawn hd; clear hd) | ((with_reducible refine gS 4 rfl ?_); refine pS 1 4 0 [.int .i64 (l1.length : Int), .int .i64 t1324, .int .i64 (wrap64 ((l1.length : Int) - t1324)), .int .i64 t1322] HM rfl rfl ?_; clear HM; intro w20 HM))
    refine bodyPost_ret (results_cell_row rfl _ _ gb1300 36 #[.int .i64 (l1.length : Int), .int .i64 t1324, .int .i64 (wrap64 ((l1.length : Int) - t1324)), .int .i64 t1322] (0, 0) _ rfl (HM.bx 1 rfl) Try.underlying36 rfl (by kernel_rfl)) rfl ?_
    exact ⟨ER, (MD HM).pick []⟩
/-- A state of type 81 at block g of W; what its slices lead to came in by w0. -/
def IsS81 (w0 W : World) (g : Nat) (f0 : List Int) (f1 : Int) (f2 : Int) : Prop := ∃ A0 c0, W.heap[g]? = some (.cells #[.slice A0 f0.length c0, .int .i64 f1, .int .i64 f2] 81 (0, 0)) ∧ w0.heap.size ≤ g ∧ Kd.C (Kd.int .u8) w0 A0 f0.length f0
theorem IsS81.grown {w0 W : World} {g : Nat} {f0 : List Int} {f1 : Int} {f2 : Int} {W1 : World} {row : Option Nat} (h : IsS81 w0 W g f0 f1 f2) (hw : W.grownBy W1 row) (hne : some g ≠ row) : IsS81 w0 W1 g f0 f1 f2 := by
 obtain ⟨A0, c0, hb, hg, hr0⟩ := h
 exact ⟨A0, c0, blk_grown hb hw hne, hg, hr0⟩
theorem IsS81.kept {w0 W : World} {g : Nat} {f0 : List Int} {f1 : Int} {f2 : Int} {W1 : World} {S : Nat → Prop} (h : IsS81 w0 W g f0 f1 f2) (hk : Kept W W1 S) (hne : ¬ S g) : IsS81 w0 W1 g f0 f1 f2 := by
 obtain ⟨A0, c0, hb, hg, hr0⟩ := h
 exact ⟨A0, c0, blk_kept hb hk hne, hg, hr0⟩
theorem IsS81.below {w0 W : World} {g : Nat} {f0 : List Int} {f1 : Int} {f2 : Int} {W1 : World} (h : IsS81 w0 W g f0 f1 f2) (hw : Below W.heap.size W W1) : IsS81 w0 W1 g f0 f1 f2 := h.grown (grown_of_below hw none) (by simp)
theorem IsS81.alloc {w0 W : World} {g : Nat} {f0 : List Int} {f1 : Int} {f2 : Int} (h : IsS81 w0 W g f0 f1 f2) (o : Obj) : IsS81 w0 (W.alloc o) g f0 f1 f2 := h.below (below_alloc (Below.refl _ _) o)
theorem IsS81.drewN {w0 W : World} {g : Nat} {f0 : List Int} {f1 : Int} {f2 : Int} (h : IsS81 w0 W g f0 f1 f2) (m : Nat) : IsS81 w0 (W.drewN m) g f0 f1 f2 := h
theorem IsS81.drew {w0 W : World} {g : Nat} {f0 : List Int} {f1 : Int} {f2 : Int} (h : IsS81 w0 W g f0 f1 f2) : IsS81 w0 W.drew g f0 f1 f2 := h
theorem IsS81.at_ {w0 W : World} {g : Nat} {f0 : List Int} {f1 : Int} {f2 : Int} {w' : World} {m : Nat} (hq : W.drewN m = w') (h : IsS81 w0 W g f0 f1 f2) : IsS81 w0 w' g f0 f1 f2 := by subst hq; exact IsS81.drewN h m
theorem IsS81.apart {w0 W : World} {g : Nat} {f0 : List Int} {f1 : Int} {f2 : Int} {α : Type} {d : Kd α} {e : Nat} {base : Nat} {ok : Nat → Prop} {v : Value} {xs : List α} (h : IsS81 w0 W g f0 f1 f2) (ho : d.R e W base ok v xs) (ht : ∀ q, q ∈ e :: d.E → q ≠ 81) : d.R e W base (fun k => ok k ∧ k ≠ g) v xs := by
 obtain ⟨A0, c0, hb, hg, hr0⟩ := h
 exact Kd.R_types ho hb ht
theorem IsS81.lt {w0 W : World} {g : Nat} {f0 : List Int} {f1 : Int} {f2 : Int} (h : IsS81 w0 W g f0 f1 f2) : g < W.heap.size := by
 obtain ⟨A0, c0, hb, hg, hr0⟩ := h
 exact blk_lt hb
def spec_l01New.l0 : Nat → List Int → Int → Int → Option (List Int × Int × Int)
 | 0, _, _, _ => none
 | k + 1, x0, x3, x4 => if x4 < (x0.length : Int) then (if x4 < 4000 then (if 0 ≤ x4 then (spec_l01New.l0 k x0 (Go.bits .and .i64 (wrap64 ((wrap64 ((wrap64 (x3 * 179)) + (wrap64 (rd x0 x4)))) + 7)) 1073741823) (wrap64 (x4 + 1))) else (none)) else (some (x0, 0, x3))) else (some (x0, 0, x3))
def spec_l01New.f (k : Nat) (l0 : List Int) : Option (List Int × Int × Int) := spec_l01New.l0 k l0 (wrap64 (774119 + (l0.length : Int))) 0
set_option maxHeartbeats 8000000 in
set_option maxRecDepth 100000 in
theorem spec_l01New.calls (k : Nat) (A0 : Option Addr) (c0 : Nat) (l0 : List Int) (r1 : List Int) (r2 : Int) (r3 : Int) (w0 w : World) (hB : Below w0.heap.size w0 w) (hr0 : Kd.C (Kd.int .u8) w0 A0 l0.length l0) (hc0 : l0.length ≤ c0) (h : spec_l01New.f k l0 = some (r1, r2, r3)) :
  Calls Try.prog 56 #[.slice A0 l0.length c0] w fun e w' => ∃ g_ : Nat, ∃ (X0_ : Option Addr) (c0_ : Nat), e = .returned (.pointer (some ⟨g_, 0, none⟩)) ∧ Mem w [] w' [box 81 g_ [.slice X0_ r1.length c0_, .int .i64 r2, .int .i64 r3]] ∧ Kd.C (Kd.int .u8) w0 X0_ r1.length r1 ∧ r1.length ≤ c0_ := by
 have hu81 := Try.underlying81
 have HZ0 := Aside0.mk hr0
 have HR0 := Aside0.mk (Kd.C_below hr0 hB)
 have HC0 := Aside0.mk hc0
 clear hr0 hc0
 clear hB
 have HM := Mem.nil w
 have H := h
 clear h
 unfold spec_l01New.f at H
 go_enter Try.func56, Try.ntmps56
 have H' := Aside0.mk H
 clear H
 go_wp2
 go_loopg [3, 4] k (fun kq v3 v4 w' => ∃ (x3_1 : Int) (x4_1 : Int), v3 = .int .i64 x3_1 ∧ v4 = .int .i64 x4_1 ∧ Aside0 (spec_l01New.l0 kq l0 x3_1 x4_1 = some (r1, r2, r3)) ∧ Aside0 (kq ≤ k) ∧ Mem w [] w' [])
 case atStart => exact ⟨(wrap64 (774119 + (l0.length : Int))), (0), RS, RS, H', ⟨Nat.le_refl _⟩, (MD HM).pick []⟩
 case round =>
  clear H' HM
  obtain ⟨x3_1, x4_1, rfl, rfl, HA, HK1, HM⟩ := hrel
  cases gk with
  | zero => exact absurd HA.out (by simp [spec_l01New.l0])
  | succ k1 =>
   have H := HA.out
   clear HA
   simp only [spec_l01New.l0] at H
   replace H := IT H; rcases H with ⟨c2, H⟩ | ⟨c2, H⟩
   ·have c2b0 : decide (x4_1 < (l0.length : Int)) = true := decide_eq_true c2
    clear c2
    go_upto_if 15 with (fail)
    replace H := IT H; rcases H with ⟨c3, H⟩ | ⟨c3, H⟩
    ·have c3b0 : decide (x4_1 < 4000) = true := decide_eq_true c3
     clear c3
     (first | rw [c3b0] | (simp only [i64_w, i32_w]; rw [c3b0]) | skip)
     replace H := GD H; obtain ⟨c4, H⟩ := H
     have c4b0 : decide (0 ≤ x4_1) = true := decide_eq_true c4
     clear c4
     have H' := Aside0.mk H
     clear H
     have p1526 : 0 ≤ (x4_1 : Int) := of_decide_eq_true AS
     have q1526 : (x4_1 : Int) < (l0.length : Int) := of_decide_eq_true AS
     obtain ⟨ad1526, e1526, hx1526_0⟩ := Kd.at_int (HM.came HR0.out) x4_1 p1526 q1526
     cases e1526
     replace p1526 := eq_true p1526
     replace q1526 := eq_true q1526
     go_wp2
     go_roundg k1
     case measure => have := HK1.out; omega
     case rel => exact ⟨(Go.bits .and .i64 (wrap64 ((wrap64 ((wrap64 (x3_1 * 179)) + (wrap64 (rd l0 x4_1)))) + 7)) 1073741823), (wrap64 (x4_1 + 1)), RS, RS, H', ⟨by have := HK1.out; omega⟩, (MD HM).pick []⟩
    ·have c3b0 : decide (x4_1 < 4000) = false := decide_eq_false c3
     clear c3
     (first | rw [c3b0] | (simp only [i64_w, i32_w]; rw [c3b0]) | skip)
     simp only [Option.some.injEq, Prod.mk.injEq] at H
     obtain ⟨rfl, rfl, rfl⟩ := H
     go_wp2_with (first | ((with_reducible refine gN 31 rfl ?_); refine pB 31 81 [.slice A0 l0.length c0, .int .i64 0, .int .i64 x3_1] HM rfl ?_; clear HM; intro gb1527 w5 HM))
     go_ret
     exact ⟨_, _, _, ER, (MD HM).pick [0], HZ0.out, HC0.out⟩
   ·have c2b0 : decide (x4_1 < (l0.length : Int)) = false := decide_eq_false c2
    clear c2
    simp only [Option.some.injEq, Prod.mk.injEq] at H
    obtain ⟨rfl, rfl, rfl⟩ := H
    go_wp2_with (first | ((with_reducible refine gN 31 rfl ?_); refine pB 31 81 [.slice A0 l0.length c0, .int .i64 0, .int .i64 x3_1] HM rfl ?_; clear HM; intro gb1528 w6 HM))
    go_ret
    exact ⟨_, _, _, ER, (MD HM).pick [0], HZ0.out, HC0.out⟩
def spec_l01Byte.f (s0_0 : List Int) (s0_1 : Int) (s0_2 : Int) : Option (Int × Int × Int) := if s0_1 < (s0_0.length : Int) then (if 0 ≤ s0_1 then (some (Go.bits .and .i64 (wrap64 ((Go.bits .and .i64 (Go.bits .xor .i64 ((wrap64 ((wrap64 (s0_2 * 6364136223846793005)) + 1442695040888963407)) / 8589934592) ((wrap64 ((wrap64 (s0_2 * 6364136223846793005)) + 1442695040888963407)) / 35184372088832)) 255) + (wrap64 (rd s0_0 s0_1)))) 255, wrap64 (s0_1 + 1), wrap64 ((wrap64 (s0_2 * 6364136223846793005)) + 1442695040888963407))) else (none)) else (some (Go.bits .and .i64 (Go.bits .xor .i64 ((wrap64 ((wrap64 (s0_2 * 6364136223846793005)) + 1442695040888963407)) / 8589934592) ((wrap64 ((wrap64 (s0_2 * 6364136223846793005)) + 1442695040888963407)) / 35184372088832)) 255, s0_1, wrap64 ((wrap64 (s0_2 * 6364136223846793005)) + 1442695040888963407)))
set_option maxHeartbeats 8000000 in
set_option maxRecDepth 100000 in
theorem spec_l01Byte.calls (g : Nat) (A0_0 : Option Addr) (c0_0 : Nat) (s0_0 : List Int) (s0_1 : Int) (s0_2 : Int) (r1 : Int) (r2 : Int) (r3 : Int) (w0 w : World) (F : List SP) (hrs0_0 : Kd.C (Kd.int .u8) w0 A0_0 s0_0.length s0_0) (hcs0_0 : s0_0.length ≤ c0_0) (hM : Mem w0 F w [box 81 g [.slice A0_0 s0_0.length c0_0, .int .i64 s0_1, .int .i64 s0_2]]) (h : spec_l01Byte.f s0_0 s0_1 s0_2 = some (r1, r2, r3)) :
  Calls Try.prog 81 #[.pointer (some ⟨g, 0, none⟩)] w fun e w' => e = .returned (.int .i64 r1) ∧ Mem w0 F w' [box 81 g [.slice A0_0 s0_0.length c0_0, .int .i64 r2, .int .i64 r3]] := by
 have HRs0_0 := Aside0.mk hrs0_0
 have HCs0_0 := Aside0.mk hcs0_0
 clear hrs0_0 hcs0_0
 have HM := hM
 clear hM
 have H := h
 clear h
 unfold spec_l01Byte.f at H
 go_enter Try.func81, Try.ntmps81
 obtain ⟨z2_0, z2_1, z2_2, Z2_0, Z2_1, Z2_2⟩ := bk3 (HM.bx 0 rfl)
 go_upto_if 34 with (first | ((with_reducible refine gS 12 rfl ?_); refine pS 0 12 2 [.int .i64 (wrap64 ((wrap64 (s0_2 * 6364136223846793005)) + 1442695040888963407))] HM rfl rfl ?_; clear HM; intro w3 HM; obtain ⟨z4_0, z4_1, z4_2, Z4_0, Z4_1, Z4_2⟩ := bk3 (HM.bx 0 rfl)))
 repeat (go_quiet (first | ((with_reducible refine gS 12 rfl ?_); refine pS 0 12 2 [.int .i64 (wrap64 ((wrap64 (s0_2 * 6364136223846793005)) + 1442695040888963407))] HM rfl rfl ?_; clear HM; intro w3 HM; obtain ⟨z4_0, z4_1, z4_2, Z4_0, Z4_1, Z4_2⟩ := bk3 (HM.bx 0 rfl))); go_upto_if 34 with (first | ((with_reducible refine gS 12 rfl ?_); refine pS 0 12 2 [.int .i64 (wrap64 ((wrap64 (s0_2 * 6364136223846793005)) + 1442695040888963407))] HM rfl rfl ?_; clear HM; intro w3 HM; obtain ⟨z4_0, z4_1, z4_2, Z4_0, Z4_1, Z4_2⟩ := bk3 (HM.bx 0 rfl))))
 replace H := IT H; rcases H with ⟨c5, H⟩ | ⟨c5, H⟩
 ·have c5b0 : decide (s0_1 < (s0_0.length : Int)) = true := decide_eq_true c5
  clear c5
  (first | rw [c5b0] | (simp only [i64_w, i32_w]; rw [c5b0]) | skip)
  replace H := GD H; obtain ⟨c6, H⟩ := H
  have c6b0 : decide (0 ≤ s0_1) = true := decide_eq_true c6
  clear c6
  simp only [Option.some.injEq, Prod.mk.injEq] at H
  obtain ⟨rfl, rfl, rfl⟩ := H
  have p1529 : 0 ≤ (s0_1 : Int) := of_decide_eq_true AS
  have q1529 : (s0_1 : Int) < (s0_0.length : Int) := of_decide_eq_true AS
  obtain ⟨ad1529, e1529, hx1529_0⟩ := Kd.at_int (HM.came HRs0_0.out) s0_1 p1529 q1529
  cases e1529
  replace p1529 := eq_true p1529
  replace q1529 := eq_true q1529
  go_wp2_with (first | ((with_reducible refine gS 56 rfl ?_); refine pS 0 56 1 [.int .i64 (wrap64 (s0_1 + 1))] HM rfl rfl ?_; clear HM; intro w7 HM))
  repeat (go_quiet (first | ((with_reducible refine gS 56 rfl ?_); refine pS 0 56 1 [.int .i64 (wrap64 (s0_1 + 1))] HM rfl rfl ?_; clear HM; intro w7 HM)); try go_wp2_with (first | ((with_reducible refine gS 56 rfl ?_); refine pS 0 56 1 [.int .i64 (wrap64 (s0_1 + 1))] HM rfl rfl ?_; clear HM; intro w7 HM)))
  go_ret
  exact ⟨ER, (MD HM).pick [0]⟩
 ·have c5b0 : decide (s0_1 < (s0_0.length : Int)) = false := decide_eq_false c5
  clear c5
  (first | rw [c5b0] | (simp only [i64_w, i32_w]; rw [c5b0]) | skip)
  simp only [Option.some.injEq, Prod.mk.injEq] at H
  obtain ⟨rfl, rfl, rfl⟩ := H
  go_wp2
  repeat (go_quiet (fail); try go_wp2_with (fail))
  go_ret
  exact ⟨ER, (MD HM).pick [0]⟩
def spec_l01Below.f (s0_0 : List Int) (s0_1 : Int) (s0_2 : Int) (a1 : Int) : Option (Int × Int × Int) := if a1 ≤ 0 then (some (0, s0_1, s0_2)) else (if a1 ≤ 256 then ((spec_l01Byte.f s0_0 s0_1 s0_2).bind fun bt1530 => (if a1 = 0 then (none) else (some (Int.tmod bt1530.1 a1, bt1530.2.1, bt1530.2.2)))) else ((spec_l01Byte.f s0_0 s0_1 s0_2).bind fun bt1533 => ((spec_l01Byte.f s0_0 bt1533.2.1 bt1533.2.2).bind fun bt1536 => ((spec_l01Byte.f s0_0 bt1536.2.1 bt1536.2.2).bind fun bt1539 => ((spec_l01Byte.f s0_0 bt1539.2.1 bt1539.2.2).bind fun bt1542 => (if a1 = 0 then (none) else (some (Int.tmod (wrap64 ((wrap64 ((wrap64 ((wrap64 (bt1533.1 * 16777216)) + (wrap64 (bt1536.1 * 65536)))) + (wrap64 (bt1539.1 * 256)))) + bt1542.1)) a1, bt1542.2.1, bt1542.2.2))))))))
set_option maxHeartbeats 8000000 in
set_option maxRecDepth 100000 in
theorem spec_l01Below.calls (g : Nat) (A0_0 : Option Addr) (c0_0 : Nat) (s0_0 : List Int) (s0_1 : Int) (s0_2 : Int) (a1 : Int) (r1 : Int) (r2 : Int) (r3 : Int) (w0 w : World) (F : List SP) (hrs0_0 : Kd.C (Kd.int .u8) w0 A0_0 s0_0.length s0_0) (hcs0_0 : s0_0.length ≤ c0_0) (hM : Mem w0 F w [box 81 g [.slice A0_0 s0_0.length c0_0, .int .i64 s0_1, .int .i64 s0_2]]) (h : spec_l01Below.f s0_0 s0_1 s0_2 a1 = some (r1, r2, r3)) :
  Calls Try.prog 58 #[.pointer (some ⟨g, 0, none⟩), .int .i64 a1] w fun e w' => e = .returned (.int .i64 r1) ∧ Mem w0 F w' [box 81 g [.slice A0_0 s0_0.length c0_0, .int .i64 r2, .int .i64 r3]] := by
 have HRs0_0 := Aside0.mk hrs0_0
 have HCs0_0 := Aside0.mk hcs0_0
 clear hrs0_0 hcs0_0
 have HM := hM
 clear hM
 have H := h
 clear h
 unfold spec_l01Below.f at H
 go_enter Try.func58, Try.ntmps58
 go_upto_if 10 with (fail)
 replace H := IT H; rcases H with ⟨c3, H⟩ | ⟨c3, H⟩
 ·have c3b0 : decide (a1 ≤ 0) = true := decide_eq_true c3
  clear c3
  (first | rw [c3b0] | (simp only [i64_w, i32_w]; rw [c3b0]) | skip)
  simp only [Option.some.injEq, Prod.mk.injEq] at H
  obtain ⟨rfl, rfl, rfl⟩ := H
  go_wp2
  go_ret
  exact ⟨ER, (MD HM).pick [0]⟩
 ·have c3b0 : decide (a1 ≤ 0) = false := decide_eq_false c3
  clear c3
  (first | rw [c3b0] | (simp only [i64_w, i32_w]; rw [c3b0]) | skip)
  go_upto_if 12 with (fail)
  replace H := IT H; rcases H with ⟨c4, H⟩ | ⟨c4, H⟩
  ·have c4b0 : decide (a1 ≤ 256) = true := decide_eq_true c4
   clear c4
   (first | rw [c4b0] | (simp only [i64_w, i32_w]; rw [c4b0]) | skip)
   replace H := BN H; obtain ⟨⟨t1530, t1531, t1532⟩, A5, H⟩ := H
   replace H := GN H; obtain ⟨c7, H⟩ := H
   have c7b0 : (a1 == 0) = false := beq_eq_false_iff_ne.mpr c7
   have c7b1 : (a1 != 0) = true := bne_iff_ne.mpr c7
   simp only [Option.some.injEq, Prod.mk.injEq] at H
   obtain ⟨rfl, rfl, rfl⟩ := H
   go_wp2_with (first | ((with_reducible refine gC 81 rfl ?_); refine pC (some 14) rfl #[.pointer (some ⟨g, 0, none⟩)] rfl Try.func81 (spec_l01Byte.calls g A0_0 c0_0 s0_0 s0_1 s0_2 t1530 t1531 t1532 _ _ _ HRs0_0.out HCs0_0.out (HM.focus [] [0]) A5.out) ?_; rintro e w6 ⟨rfl, hR⟩; refine ⟨_, rfl, ?_⟩; replace HM := nzM hR.unfocus; clear hR))
   go_ret
   exact ⟨ER, (MD HM).pick [0]⟩
  ·have c4b0 : decide (a1 ≤ 256) = false := decide_eq_false c4
   clear c4
   (first | rw [c4b0] | (simp only [i64_w, i32_w]; rw [c4b0]) | skip)
   replace H := BN H; obtain ⟨⟨t1533, t1534, t1535⟩, A8, H⟩ := H
   replace H := BN H; obtain ⟨⟨t1536, t1537, t1538⟩, A10, H⟩ := H
   replace H := BN H; obtain ⟨⟨t1539, t1540, t1541⟩, A12, H⟩ := H
   replace H := BN H; obtain ⟨⟨t1542, t1543, t1544⟩, A14, H⟩ := H
   replace H := GN H; obtain ⟨c16, H⟩ := H
   have c16b0 : (a1 == 0) = false := beq_eq_false_iff_ne.mpr c16
   have c16b1 : (a1 != 0) = true := bne_iff_ne.mpr c16
   simp only [Option.some.injEq, Prod.mk.injEq] at H
   obtain ⟨rfl, rfl, rfl⟩ := H
   go_wp2_with (first | ((with_reducible refine gC 81 rfl ?_); refine pC (some 18) rfl #[.pointer (some ⟨g, 0, none⟩)] rfl Try.func81 (spec_l01Byte.calls g A0_0 c0_0 s0_0 s0_1 s0_2 t1533 t1534 t1535 _ _ _ HRs0_0.out HCs0_0.out (HM.focus [] [0]) A8.out) ?_; rintro e w9 ⟨rfl, hR⟩; refine ⟨_, rfl, ?_⟩; replace HM := nzM hR.unfocus; clear hR) | ((with_reducible refine gC 81 rfl ?_); refine pC (some 20) rfl #[.pointer (some ⟨g, 0, none⟩)] rfl Try.func81 (spec_l01Byte.calls g A0_0 c0_0 s0_0 t1534 t1535 t1536 t1537 t1538 _ _ _ HRs0_0.out HCs0_0.out (HM.focus [] [0]) A10.out) ?_; rintro e w11 ⟨rfl, hR⟩; refine ⟨_, rfl, ?_⟩; replace HM := nzM hR.unfocus; clear hR) | ((with_reducible refine gC 81 rfl ?_); refine pC (some 22) rfl #[.pointer (some ⟨g, 0, none⟩)] rfl Try.func81 (spec_l01Byte.calls g A0_0 c0_0 s0_0 t1537 t1538 t1539 t1540 t1541 _ _ _ HRs0_0.out HCs0_0.out (HM.focus [] [0]) A12.out) ?_; rintro e w13 ⟨rfl, hR⟩; refine ⟨_, rfl, ?_⟩; replace HM := nzM hR.unfocus; clear hR) | ((with_reducible refine gC 81 rfl ?_); refine pC (some 24) rfl #[.pointer (some ⟨g, 0, none⟩)] rfl Try.func81 (spec_l01Byte.calls g A0_0 c0_0 s0_0 t1540 t1541 t1542 t1543 t1544 _ _ _ HRs0_0.out HCs0_0.out (HM.focus [] [0]) A14.out) ?_; rintro e w15 ⟨rfl, hR⟩; refine ⟨_, rfl, ?_⟩; replace HM := nzM hR.unfocus; clear hR))
   go_ret
   exact ⟨ER, (MD HM).pick [0]⟩
def spec_MakeNum.f (k : Nat) (l0 : List Int) (a1 : Int) : Option (Int) := (spec_l01New.f k l0).bind fun bt1586 => ((spec_l01Below.f bt1586.1 bt1586.2.1 (wrap64 (bt1586.2.2 + 777)) a1).bind fun bt1590 => (some bt1590.1))
set_option maxHeartbeats 8000000 in
set_option maxRecDepth 100000 in
theorem spec_MakeNum.calls (k : Nat) (A0 : Option Addr) (c0 : Nat) (l0 : List Int) (a1 : Int) (r : Int) (w : World) (hr0 : Kd.C (Kd.int .u8) w A0 l0.length l0) (hc0 : l0.length ≤ c0) (h : spec_MakeNum.f k l0 a1 = some r) :
  Calls Try.prog 29 #[.slice A0 l0.length c0, .int .i64 a1] w fun e w' => e = .returned (.int .i64 r) ∧ Mem w [] w' [] := by
 have HR0 := Aside0.mk hr0
 have HC0 := Aside0.mk hc0
 clear hr0 hc0
 have HM := Mem.nil w
 have H := h
 clear h
 unfold spec_MakeNum.f at H
 go_enter Try.func29, Try.ntmps29
 replace H := BN H; obtain ⟨⟨t1586, t1587, t1588⟩, A3, H⟩ := H
 replace H := BN H; obtain ⟨⟨t1590, t1591, t1592⟩, A8, H⟩ := H
 obtain rfl := Option.some.inj H
 go_wp2_with (first | ((with_reducible refine gC 56 rfl ?_); refine pC (some 7) rfl #[.slice A0 l0.length c0] rfl Try.func56 (spec_l01New.calls k _ _ l0 t1586 t1587 t1588 _ _ HM.bel HR0.out HC0.out A3.out) ?_; rintro e w4 ⟨gb1589, Xn5, kn5, rfl, hR, hRn5, hCn5⟩; refine ⟨_, rfl, ?_⟩; have HRn5 := Aside0.mk hRn5; have HCn5 := Aside0.mk hCn5; clear hRn5 hCn5; replace HM := HM.call hR; clear hR; obtain ⟨z6_0, z6_1, z6_2, Z6_0, Z6_1, Z6_2⟩ := bk3 (HM.bx 0 rfl)) | ((with_reducible refine gS 15 rfl ?_); refine pS 0 15 2 [.int .i64 (wrap64 (t1588 + 777))] HM rfl rfl ?_; clear HM; intro w7 HM) | ((with_reducible refine gC 58 rfl ?_); refine pC (some 18) rfl #[.pointer (some ⟨gb1589, 0, none⟩), .int .i64 a1] rfl Try.func58 (spec_l01Below.calls gb1589 Xn5 kn5 t1586 t1587 (wrap64 (t1588 + 777)) a1 t1590 t1591 t1592 _ _ _ HRn5.out HCn5.out (HM.focus [] [0]) A8.out) ?_; rintro e w9 ⟨rfl, hR⟩; refine ⟨_, rfl, ?_⟩; replace HM := nzM hR.unfocus; clear hR))
 go_ret
 exact ⟨ER, (MD HM).pick []⟩
end Go.Proofs.Ytanakbmhclpamaa.G

namespace Go.Proofs.Ytanakbmhclpamaa.G
open Go.RowKit Go.Proofs.YtanakbmhclpamaaW.PrintWords Go.Proofs.YtanakbmhclpamaaW.PrintLast Go.Proofs.YtanakbmhclpamaaW.PrintMore Go.Proofs.Ytanakbmhclpamaa.Sh
attribute [local go_sem] max2_int min2_int max_two min_two max_three min_three max_four min_four
set_option linter.unusedVariables false
set_option linter.unusedSimpArgs false
def laws_less.f (a0 : Bool) : Option (Int) := if a0 = true then (some 1) else (some 0)
set_option maxHeartbeats 8000000 in
set_option maxRecDepth 100000 in
theorem laws_less.calls (a0 : Bool) (r : Int) (w : World) (h : laws_less.f a0 = some r) :
  Calls Try.prog 31 #[.bool a0] w fun e w' => e = .returned (.int .i64 r) ∧ Drawn0 w w' := by
 have H : (if a0 = true then (some 1) else (some 0)) = some r := h
 clear h
 by_cases c2 : a0 = true
 ·subst c2
  replace H := IP H
  obtain rfl := Option.some.inj H
  go_enter Try.func31, Try.ntmps31
  go_wp2
  go_ret
  exact ⟨by first | rfl | (simp; done) | (simp [*]; done), DR⟩
 ·replace c2 := Bool.eq_false_iff.mpr c2
  subst c2
  replace H := IN H
  obtain rfl := Option.some.inj H
  go_enter Try.func31, Try.ntmps31
  go_wp2
  go_ret
  exact ⟨by first | rfl | (simp; done) | (simp [*]; done), DR⟩
end Go.Proofs.Ytanakbmhclpamaa.G

namespace Go.Proofs.Ytanakbmhclpamaa.G
open Go.RowKit Go.Proofs.YtanakbmhclpamaaW.PrintWords Go.Proofs.YtanakbmhclpamaaW.PrintLast Go.Proofs.YtanakbmhclpamaaW.PrintMore Go.Proofs.Ytanakbmhclpamaa.Sh
attribute [local go_sem] max2_int min2_int max_two min_two max_three min_three max_four min_four
set_option linter.unusedVariables false
set_option linter.unusedSimpArgs false
open Go.Proofs.Ytanakbmhclpamaa.Mm
def impl_NumText.l0 : Nat → Int → ByteArray → Option (ByteArray)
 | 0, _, _ => none
 | k + 1, x0, x3 => if x0 > 9 then ((some (([(wrap64 (48 + (Int.tmod x0 10))) % 256] : List Int) : List Int)).bind fun y1669 => (if (strOfNums y1669).size + x3.size ≤ 9223372036854775807 then (impl_NumText.l0 k (wrap64 (Int.tdiv x0 10)) ((strOfNums y1669) ++ x3)) else (none))) else ((some (([(wrap64 (48 + x0)) % 256] : List Int) : List Int)).bind fun y1672 => (if (strOfNums y1672).size + x3.size ≤ 9223372036854775807 then (some ((strOfNums y1672) ++ x3)) else (none)))
def impl_NumText.f (k : Nat) (a0 : Int) : Option (ByteArray) := (impl_isNum.f a0).bind fun t1668 => (if t1668 = true then (impl_NumText.l0 k a0 (⟨#[]⟩ : ByteArray)) else (some (⟨#[]⟩ : ByteArray)))
set_option maxHeartbeats 8000000 in
set_option maxRecDepth 100000 in
theorem impl_NumText.calls (k : Nat) (a0 : Int) (r : ByteArray) (w : World)  (h : impl_NumText.f k a0 = some r) :
  Calls Try.prog 65 #[.int .i64 a0] w fun e w' => e = .returned (.string r) ∧ Mem w [] w' [] := by
 have HM := Mem.nil w
 have H := h
 clear h
 unfold impl_NumText.f at H
 go_enter Try.func65, Try.ntmps65
 replace H := BN H; obtain ⟨t1668, A2, H⟩ := H
 go_upto_if 6 with (first | ((with_reducible refine gC 87 rfl ?_); refine pC (some 5) rfl #[.int .i64 a0] rfl Try.func87 (impl_isNum.calls a0 t1668 _ A2.out) ?_; rintro e w3 ⟨rfl, hd⟩; refine ⟨_, rfl, ?_⟩; replace HM := HM.drawn hd; clear hd))
 replace H := IB H
 rcases H with ⟨c4, H⟩ | ⟨c4, H⟩
 ·subst c4
  have H' := Aside0.mk H
  clear H
  go_wp2
  go_loopg [0, 3] k (fun kq v0 v3 w' => ∃ (x0_1 : Int) (x3_1 : ByteArray), v0 = .int .i64 x0_1 ∧ v3 = .string x3_1 ∧ Aside0 (impl_NumText.l0 kq x0_1 x3_1 = some r) ∧ Aside0 (kq ≤ k) ∧ Mem w [] w' [])
  case atStart => exact ⟨(a0), ((⟨#[]⟩ : ByteArray)), RS, RS, H', ⟨Nat.le_refl _⟩, (MD HM).pick []⟩
  case round =>
   clear H' HM
   obtain ⟨x0_1, x3_1, rfl, rfl, HA, HK1, HM⟩ := hrel
   cases gk with
   | zero => exact absurd HA.out (by simp [impl_NumText.l0])
   | succ k1 =>
    have H := HA.out
    clear HA
    simp only [impl_NumText.l0] at H
    go_upto_if 8 with (fail)
    replace H := IT H; rcases H with ⟨c5, H⟩ | ⟨c5, H⟩
    ·have c5b0 : decide (9 < x0_1) = true := decide_eq_true c5
     clear c5
     (first | rw [c5b0] | (simp only [i64_w, i32_w]; rw [c5b0]) | skip)
     replace H := BLt H; obtain ⟨y1669, Ny1669, H⟩ := H
     replace Ny1669 := Aside0.mk Ny1669
     replace H := GD H; obtain ⟨c8, H⟩ := H
     have c8b0 := eq_true c8
     have c8b1 : decide ((strOfNums y1669).size + x3_1.size ≤ 9223372036854775807) = true := decide_eq_true c8
     try have c8b2 : (9223372036854775807 < (strOfNums y1669).size + x3_1.size) = False := eq_false (Nat.not_lt.2 c8)
     have H' := Aside0.mk H
     clear H
     go_wp2_with (first | ((with_reducible refine gN 13 rfl ?_); refine pL 13 (Kd.int .u8) 5 ([(wrap64 (48 + (Int.tmod x0_1 10))) % 256] : List Int) [.int .u8 ((wrap64 (48 + (Int.tmod x0_1 10))) % 256)] (Reps.one (show Kd.M (Kd.int .u8) _ _ _ ((wrap64 (48 + (Int.tmod x0_1 10))) % 256) [.int .u8 ((wrap64 (48 + (Int.tmod x0_1 10))) % 256)] from rfl) (Reps.none _ _)) HM rfl ?_; clear HM; intro v1670 w6 HM; replace HM := HM.nm 0 rfl Ny1669.out; have hcv7 := HM.str 0 rfl Try.underlying40 Try.underlying5 Try.underlying9))
     go_roundg k1
     case measure => have := HK1.out; omega
     case rel => exact ⟨(wrap64 (Int.tdiv x0_1 10)), ((strOfNums y1669) ++ x3_1), RS, RS, H', ⟨by have := HK1.out; omega⟩, (MD HM).pick []⟩
    ·have c5b0 : decide (9 < x0_1) = false := decide_eq_false c5
     clear c5
     (first | rw [c5b0] | (simp only [i64_w, i32_w]; rw [c5b0]) | skip)
     replace H := BLt H; obtain ⟨y1672, Ny1672, H⟩ := H
     replace Ny1672 := Aside0.mk Ny1672
     replace H := GD H; obtain ⟨c11, H⟩ := H
     have c11b0 := eq_true c11
     have c11b1 : decide ((strOfNums y1672).size + x3_1.size ≤ 9223372036854775807) = true := decide_eq_true c11
     try have c11b2 : (9223372036854775807 < (strOfNums y1672).size + x3_1.size) = False := eq_false (Nat.not_lt.2 c11)
     obtain rfl := Option.some.inj H
     go_wp2_with (first | ((with_reducible refine gN 22 rfl ?_); refine pL 22 (Kd.int .u8) 5 ([(wrap64 (48 + x0_1)) % 256] : List Int) [.int .u8 ((wrap64 (48 + x0_1)) % 256)] (Reps.one (show Kd.M (Kd.int .u8) _ _ _ ((wrap64 (48 + x0_1)) % 256) [.int .u8 ((wrap64 (48 + x0_1)) % 256)] from rfl) (Reps.none _ _)) HM rfl ?_; clear HM; intro v1673 w9 HM; replace HM := HM.nm 0 rfl Ny1672.out; have hcv10 := HM.str 0 rfl Try.underlying40 Try.underlying5 Try.underlying9))
     go_ret
     exact ⟨ER, (MD HM).pick []⟩
 ·subst c4
  obtain rfl := Option.some.inj H
  go_wp2
  go_ret
  exact ⟨ER, (MD HM).pick []⟩
end Go.Proofs.Ytanakbmhclpamaa.G
