/- Part 2 of the claim FnExactSurvey, merged by pack.py (this session's program) out of: the print's words, cut to what is needed; texts that gen.py printed (it runs the kit's print in place); texts of this session. -/
import Derived.Test.YtlokjgngjgbpmaaKFnExactSurvey1
namespace Go.Proofs.Ytlokjgngjgbpmaa.Mm
end Go.Proofs.Ytlokjgngjgbpmaa.Mm
namespace Go.Proofs.Ytlokjgngjgbpmaa.Sh
end Go.Proofs.Ytlokjgngjgbpmaa.Sh
set_option maxHeartbeats 8000000
set_option maxRecDepth 100000
namespace Go.Proofs.Ytlokjgngjgbpmaa.G
open Go.RowKit Go.Proofs.YtlokjgngjgbpmaaW.PrintWords Go.Proofs.YtlokjgngjgbpmaaW.PrintLast Go.Proofs.YtlokjgngjgbpmaaW.PrintMore Go.Proofs.Ytlokjgngjgbpmaa.Sh
attribute [local go_sem] max2_int min2_int max_two min_two max_three min_three max_four min_four
set_option linter.unusedVariables false
set_option linter.unusedSimpArgs false
open Go.Proofs.Ytlokjgngjgbpmaa.Mm
mutual
def spec_ThreeOk.j0 : Nat → Bool → Int → Int → List (S67) → List (S67) → List Int → Option (Bool)
 | 0, _, _, _, _, _, _ => none
 | k + 1, x39, x842000, x842001, x842002, x842003, x842004 => if x39 = true then (some false) else ((some (([] : List (S67)) : List (S67))).bind fun y845 => (if y845.length + x842002.length < 3518437208883 then ((some (y845 ++ x842002 : List (S67))).bind fun y848 => (if y848.length + x842003.length < 3518437208883 then ((some (y848 ++ x842003 : List (S67))).bind fun y851 => (spec_ThreeOk.l0 k y851 y851 (y851.length : Int) 0 x842000 x842001 x842002 x842003 x842004)) else (none))) else (none)))
def spec_ThreeOk.l0 : Nat → List (S67) → List (S67) → Int → Int → Int → Int → List (S67) → List (S67) → List Int → Option (Bool)
 | 0, _, _, _, _, _, _, _, _, _ => none
 | k + 1, x3, x47, x48, x49, x842000, x842001, x842002, x842003, x842004 => if x49 < x48 then (if 0 ≤ x49 then (if x49 < (x47.length : Int) then ((spec_ItemOk.f k ((rd_T67 x47 x49).f0) ((rd_T67 x47 x49).f1) ((rd_T67 x47 x49).f2)).bind fun t856 => (if t856 = true then ((spec_l10At.f k x3 ((rd_T67 x47 x49).f0)).bind fun t857 => (if t857 = x49 then (spec_ThreeOk.l0 k x3 x47 x48 (wrap64 (x49 + 1)) x842000 x842001 x842002 x842003 x842004) else (some false))) else (some false))) else (none)) else (none)) else (spec_ThreeOk.l1 k x842004 (x842004.length : Int) 0 x842000 x842001 x842002 x842003 x842004)
def spec_ThreeOk.l1 : Nat → List Int → Int → Int → Int → Int → List (S67) → List (S67) → List Int → Option (Bool)
 | 0, _, _, _, _, _, _, _, _ => none
 | k + 1, x67, x68, x69, x842000, x842001, x842002, x842003, x842004 => if x69 < x68 then (if 0 ≤ x69 then (if x69 < (x67.length : Int) then ((spec_l01Num.f (rd x67 x69)).bind fun t859 => (if t859 = true then (if x69 ≤ (x842004.length : Int) then ((spec_l03Has.f k (x842004.take (x69 : Int).toNat) (rd x67 x69)).bind fun t861 => (if t861 = true then (some false) else (spec_ThreeOk.l1 k x67 x68 (wrap64 (x69 + 1)) x842000 x842001 x842002 x842003 x842004))) else (none)) else (some false))) else (none)) else (none)) else (some true)
end
def spec_ThreeOk.f (k : Nat) (a0_0 : Int) (a0_1 : Int) (l0_2 : List (S67)) (l0_3 : List (S67)) (l0_4 : List Int) : Option (Bool) := (spec_l01In.f a0_0 1 60).bind fun t842 => (if t842 = true then ((spec_l01In.f a0_1 1 a0_0).bind fun t843 => (if t843 = true then (if (wrap64 ((l0_2.length : Int) + (l0_3.length : Int))) > a0_0 then (spec_ThreeOk.j0 k true a0_0 a0_1 l0_2 l0_3 l0_4) else ((spec_l10Ghosts.f a0_0 a0_1 l0_2 l0_3 l0_4).bind fun t844 => (spec_ThreeOk.j0 k (decide ((l0_4.length : Int) > t844)) a0_0 a0_1 l0_2 l0_3 l0_4))) else (spec_ThreeOk.j0 k true a0_0 a0_1 l0_2 l0_3 l0_4))) else (spec_ThreeOk.j0 k true a0_0 a0_1 l0_2 l0_3 l0_4))
def spec_ThreeOk.T1 : Bool × List (List Nat × List Nat) := (true, [([], []), ([0], [0]), ([1], [1]), ([2], [2]), ([3, 2], [3]), ([4], [4]), ([5, 4], [4, 5]), ([4], [4]), ([7, 4], [4, 7]), ([6, 8, 4, 4], [4, 6, 8]), ([9, 4], [4, 9]), ([4, 10], [4, 10]), ([11, 9], [11]), ([12], [12]), ([13, 12], [12, 13]), ([14, 12], [12, 14]), ([12], [12]), ([16, 12], [12, 16]), ([17, 12], [12, 17]), ([15, 18, 12], [12, 15, 18]), ([12], [12]), ([20, 12], [12, 20]), ([19, 21, 12], [12, 19, 21]), ([12, 22], [12, 22]), ([23, 12], [23]), ([24], [24]), ([25, 24], [24, 25]), ([26, 24], [24, 26]), ([24], [24]), ([28, 24, 24], [24, 28]), ([27, 29, 24], [24, 27, 29]), ([24, 30], [24, 30])])
def spec_ThreeOk.B1 : List Nat := [0, 1, 3, 7, 15, 31, 63, 31, 159, 511, 1023, 2047, 4095, 8191, 16383, 32767, 8191, 73727, 204799, 524287, 8191, 1056767, 4194303, 8388607, 16777215, 33554431, 67108863, 134217727, 33554431, 301989887, 1073741823, 2147483647]
theorem spec_ThreeOk.tab1 : rtab .any (opsOf Try.f91 1) = spec_ThreeOk.T1 := by kernel_rfl
theorem spec_ThreeOk.bits1 : waitsOk spec_ThreeOk.T1.2 spec_ThreeOk.B1 = true := by kernel_rfl
def spec_ThreeOk.T3 : Bool × List (List Nat × List Nat) := (true, [([], []), ([], []), ([1], [1]), ([0, 2], [0, 2]), ([], []), ([4], [4]), ([3, 5, 3], [3, 5]), ([6, 6, 0, 1, 2, 3, 4, 5, 6], [6])])
def spec_ThreeOk.B3 : List Nat := [0, 0, 2, 7, 0, 16, 63, 127]
theorem spec_ThreeOk.tab3 : rtab .any (opsOf Try.f91 3) = spec_ThreeOk.T3 := by kernel_rfl
theorem spec_ThreeOk.bits3 : waitsOk spec_ThreeOk.T3.2 spec_ThreeOk.B3 = true := by kernel_rfl
theorem spec_ThreeOk.calls (k : Nat) (a0_0 : Int) (a0_1 : Int) (A0_2 : Option Addr) (c0_2 : Nat) (l0_2 : List (S67)) (A0_3 : Option Addr) (c0_3 : Nat) (l0_3 : List (S67)) (A0_4 : Option Addr) (c0_4 : Nat) (l0_4 : List Int) (r : Bool) (w : World) (hr0_2 : Kd.C k67 w A0_2 l0_2.length l0_2) (hc0_2 : l0_2.length ≤ c0_2) (hr0_3 : Kd.C k67 w A0_3 l0_3.length l0_3) (hc0_3 : l0_3.length ≤ c0_3) (hr0_4 : Kd.C (Kd.int .i64) w A0_4 l0_4.length l0_4) (hc0_4 : l0_4.length ≤ c0_4) (h : spec_ThreeOk.f k a0_0 a0_1 l0_2 l0_3 l0_4 = some r) :
  Calls Try.prog 91 #[.agg #[.int .i64 a0_0, .int .i64 a0_1, .slice A0_2 l0_2.length c0_2, .slice A0_3 l0_3.length c0_3, .slice A0_4 l0_4.length c0_4]] w fun e w' => e = .returned (.bool r) ∧ Mem w [] w' [] := by
 have hu71 := Try.underlying71
 have hu67 := Try.underlying67
 have HR0_2 := Aside0.mk hr0_2
 have HC0_2 := Aside0.mk hc0_2
 clear hr0_2 hc0_2
 have HR0_3 := Aside0.mk hr0_3
 have HC0_3 := Aside0.mk hc0_3
 clear hr0_3 hc0_3
 have HR0_4 := Aside0.mk hr0_4
 have HC0_4 := Aside0.mk hc0_4
 clear hr0_4 hc0_4
 have HM := Mem.nil w
 have H := h
 clear h
 unfold spec_ThreeOk.f at H
 go_enter Try.func91, Try.ntmps91
 have HC3 := Aside0.mk H
 clear H
 go_upto_region 1 with (first | ((with_reducible refine gN 1 rfl ?_); refine pB 1 71 [.int .i64 a0_0, .int .i64 a0_1, .slice A0_2 l0_2.length c0_2, .slice A0_3 l0_3.length c0_3, .slice A0_4 l0_4.length c0_4] HM rfl ?_; clear HM; intro gb841 w2 HM))
 go_cut [39] (fun v39 wc => ∃ (kq : Nat) (x39_2 : Bool), v39 = .bool x39_2 ∧ Aside0 (spec_ThreeOk.j0 kq x39_2 a0_0 a0_1 l0_2 l0_3 l0_4 = some r) ∧ Aside0 (kq ≤ k) ∧ Mem w [] wc [box 71 gb841 [.int .i64 a0_0, .int .i64 a0_1, .slice A0_2 l0_2.length c0_2, .slice A0_3 l0_3.length c0_3, .slice A0_4 l0_4.length c0_4]])
 case first =>
  have H := HC3.out
  clear HC3
  try go_wp2
  replace H := BN H; obtain ⟨t842, A4, H⟩ := H
  replace H := IB H
  rcases H with ⟨c5, H⟩ | ⟨c5, H⟩
  ·subst c5
   replace H := BN H; obtain ⟨t843, A6, H⟩ := H
   replace H := IB H
   rcases H with ⟨c7, H⟩ | ⟨c7, H⟩
   ·subst c7
    replace H := IT H; rcases H with ⟨c8, H⟩ | ⟨c8, H⟩
    ·have c8b0 : decide (a0_0 < (wrap64 ((l0_2.length : Int) + (l0_3.length : Int)))) = true := decide_eq_true c8
     clear c8
     refine RGN 32 [0, 1, 2, 3, 4, 5, 6, 7, 8, 9, 10, 11, 12, 13, 14, 15, 16, 17, 18, 19, 20, 21, 22, 23, 24, 25, 26, 27, 28, 29, 30, 31] (fun a0 b a w' => a = putSel a0 b [(0, 8, .pointer (some ⟨gb841, 0, none⟩)), (1, 9, .int .i64 a0_0), (2, 10, .bool true), (3, 11, .bool (!true)), (4, 12, .bool (!true)), (5, 13, .pointer (some ⟨gb841, 1, none⟩)), (6, 14, .int .i64 a0_1), (7, 15, .pointer (some ⟨gb841, 0, none⟩)), (8, 16, .int .i64 a0_0), (9, 17, .bool true), (10, 18, .bool (!true)), (11, 19, .bool (!true)), (12, 20, .bool (!true)), (13, 21, .pointer (some ⟨gb841, 2, none⟩)), (14, 22, .slice A0_2 l0_2.length c0_2), (15, 23, .int .i64 (l0_2.length : Int)), (16, 24, .pointer (some ⟨gb841, 3, none⟩)), (17, 25, .slice A0_3 l0_3.length c0_3), (18, 26, .int .i64 (l0_3.length : Int)), (19, 27, .int .i64 (wrap64 ((l0_2.length : Int) + (l0_3.length : Int)))), (20, 28, .pointer (some ⟨gb841, 0, none⟩)), (21, 29, .int .i64 a0_0), (22, 30, .bool (decide ((wrap64 ((l0_2.length : Int) + (l0_3.length : Int))) > a0_0))), (23, 31, .bool (decide ((wrap64 ((l0_2.length : Int) + (l0_3.length : Int))) > a0_0))), (24, 32, .bool (decide ((wrap64 ((l0_2.length : Int) + (l0_3.length : Int))) > a0_0))), (25, 33, undef), (26, 34, undef), (27, 35, undef), (28, 36, undef), (29, 37, undef), (30, 38, undef), (31, 39, .bool true)] ∧ Mem w [] w' [box 71 gb841 [.int .i64 a0_0, .int .i64 a0_1, .slice A0_2 l0_2.length c0_2, .slice A0_3 l0_3.length c0_3, .slice A0_4 l0_4.length c0_4]]) spec_ThreeOk.tab1 spec_ThreeOk.bits1 ?_ ?_ ?_
     ·exact ⟨PS0' rfl _, (HM.drew).pick [0]⟩
     ·clear HM
      refine SY ?_ ?_
      ·intro b a w ha HM hb hon hoff K hK
       have e1 := PG ha 1
       exact VL (.pointer (some ⟨gb841, 0, none⟩)) (hK.out _ _ ⟨PUT ha 0 hb, HM⟩)
      refine SY ?_ ?_
      ·intro b a w ha HM hb hon hoff K hK
       obtain ⟨_,_,_,_,_,_,_,_,_,_⟩ := bk5 (HM.bx 0 rfl)
       have e8 := PE ha 0 hon
       exact VL (.int .i64 a0_0) (hK.out _ _ ⟨PUT ha 1 hb, HM⟩)
      refine SY ?_ ?_
      ·intro b a w ha HM hb hon hoff K hK
       have e9 := PE ha 1 hon
       refine ST (eC (some 10) rfl #[.int .i64 a0_0, .int .i64 1, .int .i64 60] rfl Try.func51 (spec_l01In.calls a0_0 1 60 true _ A4.out) ?_ (hargs := by (simp only [List.map_toArray, List.map_cons, List.map_nil, evc, eval_of e9]) <;> rfl))
       rintro e w18 ⟨rfl, hd⟩
       refine ⟨_, rfl, ?_⟩
       replace HM := HM.drawn hd
       clear hd
       exact hK.out _ _ ⟨PUT ha 2 hb, (HM).pick [0]⟩
      refine SY ?_ ?_
      ·intro b a w ha HM hb hon hoff K hK
       have e10 := PE ha 2 hon
       exact VL (.bool (!true)) (hK.out _ _ ⟨PUT ha 3 hb, HM⟩)
      refine SY ?_ ?_
      ·intro b a w ha HM hb hon hoff K hK
       have e11 := PE ha 3 hon
       exact VL (.bool (!true)) (hK.out _ _ ⟨PUT ha 4 hb, HM⟩)
      refine SY ?_ ?_
      ·intro b a w ha HM hb hon hoff K hK
       have e1 := PG ha 1
       have e12 := PE ha 4 hon
       exact VL (.pointer (some ⟨gb841, 1, none⟩)) (hK.out _ _ ⟨PUT ha 5 hb, HM⟩) (hw := wanted_on rfl rfl rfl (e12.trans (by first | rfl | (simp [*]; done))))
      refine SY ?_ ?_
      ·intro b a w ha HM hb hon hoff K hK
       obtain ⟨_,_,_,_,_,_,_,_,_,_⟩ := bk5 (HM.bx 0 rfl)
       have e13 := PE ha 5 hon
       have e12 := PE ha 4 hon
       exact VL (.int .i64 a0_1) (hK.out _ _ ⟨PUT ha 6 hb, HM⟩) (hw := wanted_on rfl rfl rfl (e12.trans (by first | rfl | (simp [*]; done))))
      refine SY ?_ ?_
      ·intro b a w ha HM hb hon hoff K hK
       have e1 := PG ha 1
       have e12 := PE ha 4 hon
       exact VL (.pointer (some ⟨gb841, 0, none⟩)) (hK.out _ _ ⟨PUT ha 7 hb, HM⟩) (hw := wanted_on rfl rfl rfl (e12.trans (by first | rfl | (simp [*]; done))))
      refine SY ?_ ?_
      ·intro b a w ha HM hb hon hoff K hK
       obtain ⟨_,_,_,_,_,_,_,_,_,_⟩ := bk5 (HM.bx 0 rfl)
       have e15 := PE ha 7 hon
       have e12 := PE ha 4 hon
       exact VL (.int .i64 a0_0) (hK.out _ _ ⟨PUT ha 8 hb, HM⟩) (hw := wanted_on rfl rfl rfl (e12.trans (by first | rfl | (simp [*]; done))))
      refine SY ?_ ?_
      ·intro b a w ha HM hb hon hoff K hK
       have e14 := PE ha 6 hon
       have e16 := PE ha 8 hon
       have e12 := PE ha 4 hon
       refine ST (eC (some 17) rfl #[.int .i64 a0_1, .int .i64 1, .int .i64 a0_0] rfl Try.func51 (spec_l01In.calls a0_1 1 a0_0 true _ A6.out) ?_ (hargs := by (simp only [List.map_toArray, List.map_cons, List.map_nil, evc, eval_of e14, eval_of e16]) <;> rfl)) (hw := wanted_on rfl rfl rfl (e12.trans (by first | rfl | (simp [*]; done))))
       rintro e w21 ⟨rfl, hd⟩
       refine ⟨_, rfl, ?_⟩
       replace HM := HM.drawn hd
       clear hd
       exact hK.out _ _ ⟨PUT ha 9 hb, (HM).pick [0]⟩
      refine SY ?_ ?_
      ·intro b a w ha HM hb hon hoff K hK
       have e17 := PE ha 9 hon
       have e12 := PE ha 4 hon
       exact VL (.bool (!true)) (hK.out _ _ ⟨PUT ha 10 hb, HM⟩) (hw := wanted_on rfl rfl rfl (e12.trans (by first | rfl | (simp [*]; done))))
      refine SY ?_ ?_
      ·intro b a w ha HM hb hon hoff K hK
       have e12 := PE ha 4 hon
       have e18 := PE ha 10 hon
       exact VL (.bool (!true)) (hK.out _ _ ⟨PUT ha 11 hb, HM⟩)
      refine SY ?_ ?_
      ·intro b a w ha HM hb hon hoff K hK
       have e19 := PE ha 11 hon
       exact VL (.bool (!true)) (hK.out _ _ ⟨PUT ha 12 hb, HM⟩)
      refine SY ?_ ?_
      ·intro b a w ha HM hb hon hoff K hK
       have e1 := PG ha 1
       have e20 := PE ha 12 hon
       exact VL (.pointer (some ⟨gb841, 2, none⟩)) (hK.out _ _ ⟨PUT ha 13 hb, HM⟩) (hw := wanted_on rfl rfl rfl (e20.trans (by first | rfl | (simp [*]; done))))
      refine SY ?_ ?_
      ·intro b a w ha HM hb hon hoff K hK
       obtain ⟨_,_,_,_,_,_,_,_,_,_⟩ := bk5 (HM.bx 0 rfl)
       have e21 := PE ha 13 hon
       have e20 := PE ha 12 hon
       exact VL (.slice A0_2 l0_2.length c0_2) (hK.out _ _ ⟨PUT ha 14 hb, HM⟩) (hw := wanted_on rfl rfl rfl (e20.trans (by first | rfl | (simp [*]; done))))
      refine SY ?_ ?_
      ·intro b a w ha HM hb hon hoff K hK
       have e22 := PE ha 14 hon
       have e20 := PE ha 12 hon
       exact VL (.int .i64 (l0_2.length : Int)) (hK.out _ _ ⟨PUT ha 15 hb, HM⟩) (hw := wanted_on rfl rfl rfl (e20.trans (by first | rfl | (simp [*]; done))))
      refine SY ?_ ?_
      ·intro b a w ha HM hb hon hoff K hK
       have e1 := PG ha 1
       have e20 := PE ha 12 hon
       exact VL (.pointer (some ⟨gb841, 3, none⟩)) (hK.out _ _ ⟨PUT ha 16 hb, HM⟩) (hw := wanted_on rfl rfl rfl (e20.trans (by first | rfl | (simp [*]; done))))
      refine SY ?_ ?_
      ·intro b a w ha HM hb hon hoff K hK
       obtain ⟨_,_,_,_,_,_,_,_,_,_⟩ := bk5 (HM.bx 0 rfl)
       have e24 := PE ha 16 hon
       have e20 := PE ha 12 hon
       exact VL (.slice A0_3 l0_3.length c0_3) (hK.out _ _ ⟨PUT ha 17 hb, HM⟩) (hw := wanted_on rfl rfl rfl (e20.trans (by first | rfl | (simp [*]; done))))
      refine SY ?_ ?_
      ·intro b a w ha HM hb hon hoff K hK
       have e25 := PE ha 17 hon
       have e20 := PE ha 12 hon
       exact VL (.int .i64 (l0_3.length : Int)) (hK.out _ _ ⟨PUT ha 18 hb, HM⟩) (hw := wanted_on rfl rfl rfl (e20.trans (by first | rfl | (simp [*]; done))))
      refine SY ?_ ?_
      ·intro b a w ha HM hb hon hoff K hK
       have e23 := PE ha 15 hon
       have e26 := PE ha 18 hon
       have e20 := PE ha 12 hon
       exact VL (.int .i64 (wrap64 ((l0_2.length : Int) + (l0_3.length : Int)))) (hK.out _ _ ⟨PUT ha 19 hb, HM⟩) (hw := wanted_on rfl rfl rfl (e20.trans (by first | rfl | (simp [*]; done))))
      refine SY ?_ ?_
      ·intro b a w ha HM hb hon hoff K hK
       have e1 := PG ha 1
       have e20 := PE ha 12 hon
       exact VL (.pointer (some ⟨gb841, 0, none⟩)) (hK.out _ _ ⟨PUT ha 20 hb, HM⟩) (hw := wanted_on rfl rfl rfl (e20.trans (by first | rfl | (simp [*]; done))))
      refine SY ?_ ?_
      ·intro b a w ha HM hb hon hoff K hK
       obtain ⟨_,_,_,_,_,_,_,_,_,_⟩ := bk5 (HM.bx 0 rfl)
       have e28 := PE ha 20 hon
       have e20 := PE ha 12 hon
       exact VL (.int .i64 a0_0) (hK.out _ _ ⟨PUT ha 21 hb, HM⟩) (hw := wanted_on rfl rfl rfl (e20.trans (by first | rfl | (simp [*]; done))))
      refine SY ?_ ?_
      ·intro b a w ha HM hb hon hoff K hK
       have e27 := PE ha 19 hon
       have e29 := PE ha 21 hon
       have e20 := PE ha 12 hon
       exact VL (.bool (decide ((wrap64 ((l0_2.length : Int) + (l0_3.length : Int))) > a0_0))) (hK.out _ _ ⟨PUT ha 22 hb, HM⟩) (hw := wanted_on rfl rfl rfl (e20.trans (by first | rfl | (simp [*]; done))))
      refine SY ?_ ?_
      ·intro b a w ha HM hb hon hoff K hK
       have e20 := PE ha 12 hon
       have e30 := PE ha 22 hon
       exact VL (.bool (decide ((wrap64 ((l0_2.length : Int) + (l0_3.length : Int))) > a0_0))) (hK.out _ _ ⟨PUT ha 23 hb, HM⟩)
      refine SY ?_ ?_
      ·intro b a w ha HM hb hon hoff K hK
       have e31 := PE ha 23 hon
       exact VL (.bool (decide ((wrap64 ((l0_2.length : Int) + (l0_3.length : Int))) > a0_0))) (hK.out _ _ ⟨PUT ha 24 hb, HM⟩)
      refine SY ?_ ?_
      ·intro b a w ha HM hb hon hoff K hK
       have e32 := PE ha 24 hon
       exact VN ( wanted_off rfl rfl rfl (e32.trans (by first | rfl | (simp [*]; done)))) (hK.out _ _ ⟨PUT ha 25 hb, HM⟩)
      refine SY ?_ ?_
      ·intro b a w ha HM hb hon hoff K hK
       have e32 := PE ha 24 hon
       exact VN ( wanted_off rfl rfl rfl (e32.trans (by first | rfl | (simp [*]; done)))) (hK.out _ _ ⟨PUT ha 26 hb, HM⟩)
      refine SY ?_ ?_
      ·intro b a w ha HM hb hon hoff K hK
       have e32 := PE ha 24 hon
       exact VN ( wanted_off rfl rfl rfl (e32.trans (by first | rfl | (simp [*]; done)))) (hK.out _ _ ⟨PUT ha 27 hb, HM⟩)
      refine SY ?_ ?_
      ·intro b a w ha HM hb hon hoff K hK
       have e32 := PE ha 24 hon
       exact VN ( wanted_off rfl rfl rfl (e32.trans (by first | rfl | (simp [*]; done)))) (hK.out _ _ ⟨PUT ha 28 hb, HM⟩)
      refine SY ?_ ?_
      ·intro b a w ha HM hb hon hoff K hK
       have e32 := PE ha 24 hon
       exact VN ( wanted_off rfl rfl rfl (e32.trans (by first | rfl | (simp [*]; done)))) (hK.out _ _ ⟨PUT ha 29 hb, HM⟩)
      refine SY ?_ ?_
      ·intro b a w ha HM hb hon hoff K hK
       have e32 := PE ha 24 hon
       exact VN ( wanted_off rfl rfl rfl (e32.trans (by first | rfl | (simp [*]; done)))) (hK.out _ _ ⟨PUT ha 30 hb, HM⟩)
      refine SY ?_ ?_
      ·intro b a w ha HM hb hon hoff K hK
       have e32 := PE ha 24 hon
       have e38 := PE ha 30 hon
       exact VL (.bool true) (hK.out _ _ ⟨PUT ha 31 hb, HM⟩)
      exact steps_nil
     rintro _ w25 ⟨rfl, HM⟩
     simp only [putSel, if_true, Act.put, List.setIfInBounds_toArray, List.set_cons_zero, List.set_cons_succ, gt_iff_lt, ge_iff_le]
     have H' := Aside0.mk H
     clear H
     go_wp2
     go_meet
     case rel => exact ⟨_, (true), RS, H', ⟨by first | omega | exact Nat.le_refl _⟩, (MD HM).pick [0]⟩
    ·have c8b0 : decide (a0_0 < (wrap64 ((l0_2.length : Int) + (l0_3.length : Int)))) = false := decide_eq_false c8
     clear c8
     replace H := BN H; obtain ⟨t844, A26, H⟩ := H
     refine RGN 32 [0, 1, 2, 3, 4, 5, 6, 7, 8, 9, 10, 11, 12, 13, 14, 15, 16, 17, 18, 19, 20, 21, 22, 23, 24, 25, 26, 27, 28, 29, 30, 31] (fun a0 b a w' => a = putSel a0 b [(0, 8, .pointer (some ⟨gb841, 0, none⟩)), (1, 9, .int .i64 a0_0), (2, 10, .bool true), (3, 11, .bool (!true)), (4, 12, .bool (!true)), (5, 13, .pointer (some ⟨gb841, 1, none⟩)), (6, 14, .int .i64 a0_1), (7, 15, .pointer (some ⟨gb841, 0, none⟩)), (8, 16, .int .i64 a0_0), (9, 17, .bool true), (10, 18, .bool (!true)), (11, 19, .bool (!true)), (12, 20, .bool (!true)), (13, 21, .pointer (some ⟨gb841, 2, none⟩)), (14, 22, .slice A0_2 l0_2.length c0_2), (15, 23, .int .i64 (l0_2.length : Int)), (16, 24, .pointer (some ⟨gb841, 3, none⟩)), (17, 25, .slice A0_3 l0_3.length c0_3), (18, 26, .int .i64 (l0_3.length : Int)), (19, 27, .int .i64 (wrap64 ((l0_2.length : Int) + (l0_3.length : Int)))), (20, 28, .pointer (some ⟨gb841, 0, none⟩)), (21, 29, .int .i64 a0_0), (22, 30, .bool (decide ((wrap64 ((l0_2.length : Int) + (l0_3.length : Int))) > a0_0))), (23, 31, .bool (decide ((wrap64 ((l0_2.length : Int) + (l0_3.length : Int))) > a0_0))), (24, 32, .bool (decide ((wrap64 ((l0_2.length : Int) + (l0_3.length : Int))) > a0_0))), (25, 33, .pointer (some ⟨gb841, 4, none⟩)), (26, 34, .slice A0_4 l0_4.length c0_4), (27, 35, .int .i64 (l0_4.length : Int)), (28, 36, .agg #[.int .i64 a0_0, .int .i64 a0_1, .slice A0_2 l0_2.length c0_2, .slice A0_3 l0_3.length c0_3, .slice A0_4 l0_4.length c0_4]), (29, 37, .int .i64 t844), (30, 38, .bool (decide ((l0_4.length : Int) > t844))), (31, 39, .bool (decide ((l0_4.length : Int) > t844)))] ∧ Mem w [] w' [box 71 gb841 [.int .i64 a0_0, .int .i64 a0_1, .slice A0_2 l0_2.length c0_2, .slice A0_3 l0_3.length c0_3, .slice A0_4 l0_4.length c0_4]]) spec_ThreeOk.tab1 spec_ThreeOk.bits1 ?_ ?_ ?_
     ·exact ⟨PS0' rfl _, (HM.drew).pick [0]⟩
     ·clear HM
      refine SY ?_ ?_
      ·intro b a w ha HM hb hon hoff K hK
       have e1 := PG ha 1
       exact VL (.pointer (some ⟨gb841, 0, none⟩)) (hK.out _ _ ⟨PUT ha 0 hb, HM⟩)
      refine SY ?_ ?_
      ·intro b a w ha HM hb hon hoff K hK
       obtain ⟨_,_,_,_,_,_,_,_,_,_⟩ := bk5 (HM.bx 0 rfl)
       have e8 := PE ha 0 hon
       exact VL (.int .i64 a0_0) (hK.out _ _ ⟨PUT ha 1 hb, HM⟩)
      refine SY ?_ ?_
      ·intro b a w ha HM hb hon hoff K hK
       have e9 := PE ha 1 hon
       refine ST (eC (some 10) rfl #[.int .i64 a0_0, .int .i64 1, .int .i64 60] rfl Try.func51 (spec_l01In.calls a0_0 1 60 true _ A4.out) ?_ (hargs := by (simp only [List.map_toArray, List.map_cons, List.map_nil, evc, eval_of e9]) <;> rfl))
       rintro e w39 ⟨rfl, hd⟩
       refine ⟨_, rfl, ?_⟩
       replace HM := HM.drawn hd
       clear hd
       exact hK.out _ _ ⟨PUT ha 2 hb, (HM).pick [0]⟩
      refine SY ?_ ?_
      ·intro b a w ha HM hb hon hoff K hK
       have e10 := PE ha 2 hon
       exact VL (.bool (!true)) (hK.out _ _ ⟨PUT ha 3 hb, HM⟩)
      refine SY ?_ ?_
      ·intro b a w ha HM hb hon hoff K hK
       have e11 := PE ha 3 hon
       exact VL (.bool (!true)) (hK.out _ _ ⟨PUT ha 4 hb, HM⟩)
      refine SY ?_ ?_
      ·intro b a w ha HM hb hon hoff K hK
       have e1 := PG ha 1
       have e12 := PE ha 4 hon
       exact VL (.pointer (some ⟨gb841, 1, none⟩)) (hK.out _ _ ⟨PUT ha 5 hb, HM⟩) (hw := wanted_on rfl rfl rfl (e12.trans (by first | rfl | (simp [*]; done))))
      refine SY ?_ ?_
      ·intro b a w ha HM hb hon hoff K hK
       obtain ⟨_,_,_,_,_,_,_,_,_,_⟩ := bk5 (HM.bx 0 rfl)
       have e13 := PE ha 5 hon
       have e12 := PE ha 4 hon
       exact VL (.int .i64 a0_1) (hK.out _ _ ⟨PUT ha 6 hb, HM⟩) (hw := wanted_on rfl rfl rfl (e12.trans (by first | rfl | (simp [*]; done))))
      refine SY ?_ ?_
      ·intro b a w ha HM hb hon hoff K hK
       have e1 := PG ha 1
       have e12 := PE ha 4 hon
       exact VL (.pointer (some ⟨gb841, 0, none⟩)) (hK.out _ _ ⟨PUT ha 7 hb, HM⟩) (hw := wanted_on rfl rfl rfl (e12.trans (by first | rfl | (simp [*]; done))))
      refine SY ?_ ?_
      ·intro b a w ha HM hb hon hoff K hK
       obtain ⟨_,_,_,_,_,_,_,_,_,_⟩ := bk5 (HM.bx 0 rfl)
       have e15 := PE ha 7 hon
       have e12 := PE ha 4 hon
       exact VL (.int .i64 a0_0) (hK.out _ _ ⟨PUT ha 8 hb, HM⟩) (hw := wanted_on rfl rfl rfl (e12.trans (by first | rfl | (simp [*]; done))))
      refine SY ?_ ?_
      ·intro b a w ha HM hb hon hoff K hK
       have e14 := PE ha 6 hon
       have e16 := PE ha 8 hon
       have e12 := PE ha 4 hon
       refine ST (eC (some 17) rfl #[.int .i64 a0_1, .int .i64 1, .int .i64 a0_0] rfl Try.func51 (spec_l01In.calls a0_1 1 a0_0 true _ A6.out) ?_ (hargs := by (simp only [List.map_toArray, List.map_cons, List.map_nil, evc, eval_of e14, eval_of e16]) <;> rfl)) (hw := wanted_on rfl rfl rfl (e12.trans (by first | rfl | (simp [*]; done))))
       rintro e w42 ⟨rfl, hd⟩
       refine ⟨_, rfl, ?_⟩
       replace HM := HM.drawn hd
       clear hd
       exact hK.out _ _ ⟨PUT ha 9 hb, (HM).pick [0]⟩
      refine SY ?_ ?_
      ·intro b a w ha HM hb hon hoff K hK
       have e17 := PE ha 9 hon
       have e12 := PE ha 4 hon
       exact VL (.bool (!true)) (hK.out _ _ ⟨PUT ha 10 hb, HM⟩) (hw := wanted_on rfl rfl rfl (e12.trans (by first | rfl | (simp [*]; done))))
      refine SY ?_ ?_
      ·intro b a w ha HM hb hon hoff K hK
       have e12 := PE ha 4 hon
       have e18 := PE ha 10 hon
       exact VL (.bool (!true)) (hK.out _ _ ⟨PUT ha 11 hb, HM⟩)
      refine SY ?_ ?_
      ·intro b a w ha HM hb hon hoff K hK
       have e19 := PE ha 11 hon
       exact VL (.bool (!true)) (hK.out _ _ ⟨PUT ha 12 hb, HM⟩)
      refine SY ?_ ?_
      ·intro b a w ha HM hb hon hoff K hK
       have e1 := PG ha 1
       have e20 := PE ha 12 hon
       exact VL (.pointer (some ⟨gb841, 2, none⟩)) (hK.out _ _ ⟨PUT ha 13 hb, HM⟩) (hw := wanted_on rfl rfl rfl (e20.trans (by first | rfl | (simp [*]; done))))
      refine SY ?_ ?_
      ·intro b a w ha HM hb hon hoff K hK
       obtain ⟨_,_,_,_,_,_,_,_,_,_⟩ := bk5 (HM.bx 0 rfl)
       have e21 := PE ha 13 hon
       have e20 := PE ha 12 hon
       exact VL (.slice A0_2 l0_2.length c0_2) (hK.out _ _ ⟨PUT ha 14 hb, HM⟩) (hw := wanted_on rfl rfl rfl (e20.trans (by first | rfl | (simp [*]; done))))
      refine SY ?_ ?_
      ·intro b a w ha HM hb hon hoff K hK
       have e22 := PE ha 14 hon
       have e20 := PE ha 12 hon
       exact VL (.int .i64 (l0_2.length : Int)) (hK.out _ _ ⟨PUT ha 15 hb, HM⟩) (hw := wanted_on rfl rfl rfl (e20.trans (by first | rfl | (simp [*]; done))))
      refine SY ?_ ?_
      ·intro b a w ha HM hb hon hoff K hK
       have e1 := PG ha 1
       have e20 := PE ha 12 hon
       exact VL (.pointer (some ⟨gb841, 3, none⟩)) (hK.out _ _ ⟨PUT ha 16 hb, HM⟩) (hw := wanted_on rfl rfl rfl (e20.trans (by first | rfl | (simp [*]; done))))
      refine SY ?_ ?_
      ·intro b a w ha HM hb hon hoff K hK
       obtain ⟨_,_,_,_,_,_,_,_,_,_⟩ := bk5 (HM.bx 0 rfl)
       have e24 := PE ha 16 hon
       have e20 := PE ha 12 hon
       exact VL (.slice A0_3 l0_3.length c0_3) (hK.out _ _ ⟨PUT ha 17 hb, HM⟩) (hw := wanted_on rfl rfl rfl (e20.trans (by first | rfl | (simp [*]; done))))
      refine SY ?_ ?_
      ·intro b a w ha HM hb hon hoff K hK
       have e25 := PE ha 17 hon
       have e20 := PE ha 12 hon
       exact VL (.int .i64 (l0_3.length : Int)) (hK.out _ _ ⟨PUT ha 18 hb, HM⟩) (hw := wanted_on rfl rfl rfl (e20.trans (by first | rfl | (simp [*]; done))))
      refine SY ?_ ?_
      ·intro b a w ha HM hb hon hoff K hK
       have e23 := PE ha 15 hon
       have e26 := PE ha 18 hon
       have e20 := PE ha 12 hon
       exact VL (.int .i64 (wrap64 ((l0_2.length : Int) + (l0_3.length : Int)))) (hK.out _ _ ⟨PUT ha 19 hb, HM⟩) (hw := wanted_on rfl rfl rfl (e20.trans (by first | rfl | (simp [*]; done))))
      refine SY ?_ ?_
      ·intro b a w ha HM hb hon hoff K hK
       have e1 := PG ha 1
       have e20 := PE ha 12 hon
       exact VL (.pointer (some ⟨gb841, 0, none⟩)) (hK.out _ _ ⟨PUT ha 20 hb, HM⟩) (hw := wanted_on rfl rfl rfl (e20.trans (by first | rfl | (simp [*]; done))))
      refine SY ?_ ?_
      ·intro b a w ha HM hb hon hoff K hK
       obtain ⟨_,_,_,_,_,_,_,_,_,_⟩ := bk5 (HM.bx 0 rfl)
       have e28 := PE ha 20 hon
       have e20 := PE ha 12 hon
       exact VL (.int .i64 a0_0) (hK.out _ _ ⟨PUT ha 21 hb, HM⟩) (hw := wanted_on rfl rfl rfl (e20.trans (by first | rfl | (simp [*]; done))))
      refine SY ?_ ?_
      ·intro b a w ha HM hb hon hoff K hK
       have e27 := PE ha 19 hon
       have e29 := PE ha 21 hon
       have e20 := PE ha 12 hon
       exact VL (.bool (decide ((wrap64 ((l0_2.length : Int) + (l0_3.length : Int))) > a0_0))) (hK.out _ _ ⟨PUT ha 22 hb, HM⟩) (hw := wanted_on rfl rfl rfl (e20.trans (by first | rfl | (simp [*]; done))))
      refine SY ?_ ?_
      ·intro b a w ha HM hb hon hoff K hK
       have e20 := PE ha 12 hon
       have e30 := PE ha 22 hon
       exact VL (.bool (decide ((wrap64 ((l0_2.length : Int) + (l0_3.length : Int))) > a0_0))) (hK.out _ _ ⟨PUT ha 23 hb, HM⟩)
      refine SY ?_ ?_
      ·intro b a w ha HM hb hon hoff K hK
       have e31 := PE ha 23 hon
       exact VL (.bool (decide ((wrap64 ((l0_2.length : Int) + (l0_3.length : Int))) > a0_0))) (hK.out _ _ ⟨PUT ha 24 hb, HM⟩)
      refine SY ?_ ?_
      ·intro b a w ha HM hb hon hoff K hK
       have e1 := PG ha 1
       have e32 := PE ha 24 hon
       exact VL (.pointer (some ⟨gb841, 4, none⟩)) (hK.out _ _ ⟨PUT ha 25 hb, HM⟩) (hw := wanted_on rfl rfl rfl (e32.trans (by first | rfl | (simp [*]; done))))
      refine SY ?_ ?_
      ·intro b a w ha HM hb hon hoff K hK
       obtain ⟨_,_,_,_,_,_,_,_,_,_⟩ := bk5 (HM.bx 0 rfl)
       have e33 := PE ha 25 hon
       have e32 := PE ha 24 hon
       exact VL (.slice A0_4 l0_4.length c0_4) (hK.out _ _ ⟨PUT ha 26 hb, HM⟩) (hw := wanted_on rfl rfl rfl (e32.trans (by first | rfl | (simp [*]; done))))
      refine SY ?_ ?_
      ·intro b a w ha HM hb hon hoff K hK
       have e34 := PE ha 26 hon
       have e32 := PE ha 24 hon
       exact VL (.int .i64 (l0_4.length : Int)) (hK.out _ _ ⟨PUT ha 27 hb, HM⟩) (hw := wanted_on rfl rfl rfl (e32.trans (by first | rfl | (simp [*]; done))))
      refine SY ?_ ?_
      ·intro b a w ha HM hb hon hoff K hK
       obtain ⟨_,_,_,_,_,_,_,_,_,_⟩ := bk5 (HM.bx 0 rfl)
       have e1 := PG ha 1
       have e32 := PE ha 24 hon
       exact VL (.agg #[.int .i64 a0_0, .int .i64 a0_1, .slice A0_2 l0_2.length c0_2, .slice A0_3 l0_3.length c0_3, .slice A0_4 l0_4.length c0_4]) (hK.out _ _ ⟨PUT ha 28 hb, HM⟩) (hw := wanted_on rfl rfl rfl (e32.trans (by first | rfl | (simp [*]; done))))
      refine SY ?_ ?_
      ·intro b a w ha HM hb hon hoff K hK
       have e36 := PE ha 28 hon
       have e32 := PE ha 24 hon
       refine ST (eC (some 37) rfl #[.agg #[.int .i64 a0_0, .int .i64 a0_1, .slice A0_2 l0_2.length c0_2, .slice A0_3 l0_3.length c0_3, .slice A0_4 l0_4.length c0_4]] rfl Try.func105 (spec_l10Ghosts.calls a0_0 a0_1 _ _ l0_2 _ _ l0_3 _ _ l0_4 t844 _ (HM.came HR0_2.out) HC0_2.out (HM.came HR0_3.out) HC0_3.out (HM.came HR0_4.out) HC0_4.out A26.out) ?_ (hargs := by (simp only [List.map_toArray, List.map_cons, List.map_nil, evc, eval_of e36]) <;> rfl)) (hw := wanted_on rfl rfl rfl (e32.trans (by first | rfl | (simp [*]; done))))
       rintro e w48 ⟨rfl, hR⟩
       refine ⟨_, rfl, ?_⟩
       replace HM := HM.call hR
       clear hR
       exact hK.out _ _ ⟨PUT ha 29 hb, (HM).pick [0]⟩
      refine SY ?_ ?_
      ·intro b a w ha HM hb hon hoff K hK
       have e35 := PE ha 27 hon
       have e37 := PE ha 29 hon
       have e32 := PE ha 24 hon
       exact VL (.bool (decide ((l0_4.length : Int) > t844))) (hK.out _ _ ⟨PUT ha 30 hb, HM⟩) (hw := wanted_on rfl rfl rfl (e32.trans (by first | rfl | (simp [*]; done))))
      refine SY ?_ ?_
      ·intro b a w ha HM hb hon hoff K hK
       have e32 := PE ha 24 hon
       have e38 := PE ha 30 hon
       exact VL (.bool (decide ((l0_4.length : Int) > t844))) (hK.out _ _ ⟨PUT ha 31 hb, HM⟩)
      exact steps_nil
     rintro _ w49 ⟨rfl, HM⟩
     simp only [putSel, if_true, Act.put, List.setIfInBounds_toArray, List.set_cons_zero, List.set_cons_succ, gt_iff_lt, ge_iff_le]
     have H' := Aside0.mk H
     clear H
     go_wp2
     go_meet
     case rel => exact ⟨_, (decide ((l0_4.length : Int) > t844)), RS, H', ⟨by first | omega | exact Nat.le_refl _⟩, (MD HM).pick [0]⟩
   ·subst c7
    refine RGN 32 [0, 1, 2, 3, 4, 5, 6, 7, 8, 9, 10, 11, 12, 13, 14, 15, 16, 17, 18, 19, 20, 21, 22, 23, 24, 25, 26, 27, 28, 29, 30, 31] (fun a0 b a w' => a = putSel a0 b [(0, 8, .pointer (some ⟨gb841, 0, none⟩)), (1, 9, .int .i64 a0_0), (2, 10, .bool true), (3, 11, .bool (!true)), (4, 12, .bool (!true)), (5, 13, .pointer (some ⟨gb841, 1, none⟩)), (6, 14, .int .i64 a0_1), (7, 15, .pointer (some ⟨gb841, 0, none⟩)), (8, 16, .int .i64 a0_0), (9, 17, .bool false), (10, 18, .bool (!false)), (11, 19, .bool (!false)), (12, 20, .bool (!false)), (13, 21, undef), (14, 22, undef), (15, 23, undef), (16, 24, undef), (17, 25, undef), (18, 26, undef), (19, 27, undef), (20, 28, undef), (21, 29, undef), (22, 30, undef), (23, 31, .bool true), (24, 32, .bool true), (25, 33, undef), (26, 34, undef), (27, 35, undef), (28, 36, undef), (29, 37, undef), (30, 38, undef), (31, 39, .bool true)] ∧ Mem w [] w' [box 71 gb841 [.int .i64 a0_0, .int .i64 a0_1, .slice A0_2 l0_2.length c0_2, .slice A0_3 l0_3.length c0_3, .slice A0_4 l0_4.length c0_4]]) spec_ThreeOk.tab1 spec_ThreeOk.bits1 ?_ ?_ ?_
    ·exact ⟨PS0' rfl _, (HM.drew).pick [0]⟩
    ·clear HM
     refine SY ?_ ?_
     ·intro b a w ha HM hb hon hoff K hK
      have e1 := PG ha 1
      exact VL (.pointer (some ⟨gb841, 0, none⟩)) (hK.out _ _ ⟨PUT ha 0 hb, HM⟩)
     refine SY ?_ ?_
     ·intro b a w ha HM hb hon hoff K hK
      obtain ⟨_,_,_,_,_,_,_,_,_,_⟩ := bk5 (HM.bx 0 rfl)
      have e8 := PE ha 0 hon
      exact VL (.int .i64 a0_0) (hK.out _ _ ⟨PUT ha 1 hb, HM⟩)
     refine SY ?_ ?_
     ·intro b a w ha HM hb hon hoff K hK
      have e9 := PE ha 1 hon
      refine ST (eC (some 10) rfl #[.int .i64 a0_0, .int .i64 1, .int .i64 60] rfl Try.func51 (spec_l01In.calls a0_0 1 60 true _ A4.out) ?_ (hargs := by (simp only [List.map_toArray, List.map_cons, List.map_nil, evc, eval_of e9]) <;> rfl))
      rintro e w56 ⟨rfl, hd⟩
      refine ⟨_, rfl, ?_⟩
      replace HM := HM.drawn hd
      clear hd
      exact hK.out _ _ ⟨PUT ha 2 hb, (HM).pick [0]⟩
     refine SY ?_ ?_
     ·intro b a w ha HM hb hon hoff K hK
      have e10 := PE ha 2 hon
      exact VL (.bool (!true)) (hK.out _ _ ⟨PUT ha 3 hb, HM⟩)
     refine SY ?_ ?_
     ·intro b a w ha HM hb hon hoff K hK
      have e11 := PE ha 3 hon
      exact VL (.bool (!true)) (hK.out _ _ ⟨PUT ha 4 hb, HM⟩)
     refine SY ?_ ?_
     ·intro b a w ha HM hb hon hoff K hK
      have e1 := PG ha 1
      have e12 := PE ha 4 hon
      exact VL (.pointer (some ⟨gb841, 1, none⟩)) (hK.out _ _ ⟨PUT ha 5 hb, HM⟩) (hw := wanted_on rfl rfl rfl (e12.trans (by first | rfl | (simp [*]; done))))
     refine SY ?_ ?_
     ·intro b a w ha HM hb hon hoff K hK
      obtain ⟨_,_,_,_,_,_,_,_,_,_⟩ := bk5 (HM.bx 0 rfl)
      have e13 := PE ha 5 hon
      have e12 := PE ha 4 hon
      exact VL (.int .i64 a0_1) (hK.out _ _ ⟨PUT ha 6 hb, HM⟩) (hw := wanted_on rfl rfl rfl (e12.trans (by first | rfl | (simp [*]; done))))
     refine SY ?_ ?_
     ·intro b a w ha HM hb hon hoff K hK
      have e1 := PG ha 1
      have e12 := PE ha 4 hon
      exact VL (.pointer (some ⟨gb841, 0, none⟩)) (hK.out _ _ ⟨PUT ha 7 hb, HM⟩) (hw := wanted_on rfl rfl rfl (e12.trans (by first | rfl | (simp [*]; done))))
     refine SY ?_ ?_
     ·intro b a w ha HM hb hon hoff K hK
      obtain ⟨_,_,_,_,_,_,_,_,_,_⟩ := bk5 (HM.bx 0 rfl)
      have e15 := PE ha 7 hon
      have e12 := PE ha 4 hon
      exact VL (.int .i64 a0_0) (hK.out _ _ ⟨PUT ha 8 hb, HM⟩) (hw := wanted_on rfl rfl rfl (e12.trans (by first | rfl | (simp [*]; done))))
     refine SY ?_ ?_
     ·intro b a w ha HM hb hon hoff K hK
      have e14 := PE ha 6 hon
      have e16 := PE ha 8 hon
      have e12 := PE ha 4 hon
      refine ST (eC (some 17) rfl #[.int .i64 a0_1, .int .i64 1, .int .i64 a0_0] rfl Try.func51 (spec_l01In.calls a0_1 1 a0_0 false _ A6.out) ?_ (hargs := by (simp only [List.map_toArray, List.map_cons, List.map_nil, evc, eval_of e14, eval_of e16]) <;> rfl)) (hw := wanted_on rfl rfl rfl (e12.trans (by first | rfl | (simp [*]; done))))
      rintro e w59 ⟨rfl, hd⟩
      refine ⟨_, rfl, ?_⟩
      replace HM := HM.drawn hd
      clear hd
      exact hK.out _ _ ⟨PUT ha 9 hb, (HM).pick [0]⟩
     refine SY ?_ ?_
     ·intro b a w ha HM hb hon hoff K hK
      have e17 := PE ha 9 hon
      have e12 := PE ha 4 hon
      exact VL (.bool (!false)) (hK.out _ _ ⟨PUT ha 10 hb, HM⟩) (hw := wanted_on rfl rfl rfl (e12.trans (by first | rfl | (simp [*]; done))))
     refine SY ?_ ?_
     ·intro b a w ha HM hb hon hoff K hK
      have e12 := PE ha 4 hon
      have e18 := PE ha 10 hon
      exact VL (.bool (!false)) (hK.out _ _ ⟨PUT ha 11 hb, HM⟩)
     refine SY ?_ ?_
     ·intro b a w ha HM hb hon hoff K hK
      have e19 := PE ha 11 hon
      exact VL (.bool (!false)) (hK.out _ _ ⟨PUT ha 12 hb, HM⟩)
     refine SY ?_ ?_
     ·intro b a w ha HM hb hon hoff K hK
      have e20 := PE ha 12 hon
      exact VN ( wanted_off rfl rfl rfl (e20.trans (by first | rfl | (simp [*]; done)))) (hK.out _ _ ⟨PUT ha 13 hb, HM⟩)
     refine SY ?_ ?_
     ·intro b a w ha HM hb hon hoff K hK
      have e20 := PE ha 12 hon
      exact VN ( wanted_off rfl rfl rfl (e20.trans (by first | rfl | (simp [*]; done)))) (hK.out _ _ ⟨PUT ha 14 hb, HM⟩)
     refine SY ?_ ?_
     ·intro b a w ha HM hb hon hoff K hK
      have e20 := PE ha 12 hon
      exact VN ( wanted_off rfl rfl rfl (e20.trans (by first | rfl | (simp [*]; done)))) (hK.out _ _ ⟨PUT ha 15 hb, HM⟩)
     refine SY ?_ ?_
     ·intro b a w ha HM hb hon hoff K hK
      have e20 := PE ha 12 hon
      exact VN ( wanted_off rfl rfl rfl (e20.trans (by first | rfl | (simp [*]; done)))) (hK.out _ _ ⟨PUT ha 16 hb, HM⟩)
     refine SY ?_ ?_
     ·intro b a w ha HM hb hon hoff K hK
      have e20 := PE ha 12 hon
      exact VN ( wanted_off rfl rfl rfl (e20.trans (by first | rfl | (simp [*]; done)))) (hK.out _ _ ⟨PUT ha 17 hb, HM⟩)
     refine SY ?_ ?_
     ·intro b a w ha HM hb hon hoff K hK
      have e20 := PE ha 12 hon
      exact VN ( wanted_off rfl rfl rfl (e20.trans (by first | rfl | (simp [*]; done)))) (hK.out _ _ ⟨PUT ha 18 hb, HM⟩)
     refine SY ?_ ?_
     ·intro b a w ha HM hb hon hoff K hK
      have e20 := PE ha 12 hon
      exact VN ( wanted_off rfl rfl rfl (e20.trans (by first | rfl | (simp [*]; done)))) (hK.out _ _ ⟨PUT ha 19 hb, HM⟩)
     refine SY ?_ ?_
     ·intro b a w ha HM hb hon hoff K hK
      have e20 := PE ha 12 hon
      exact VN ( wanted_off rfl rfl rfl (e20.trans (by first | rfl | (simp [*]; done)))) (hK.out _ _ ⟨PUT ha 20 hb, HM⟩)
     refine SY ?_ ?_
     ·intro b a w ha HM hb hon hoff K hK
      have e20 := PE ha 12 hon
      exact VN ( wanted_off rfl rfl rfl (e20.trans (by first | rfl | (simp [*]; done)))) (hK.out _ _ ⟨PUT ha 21 hb, HM⟩)
     refine SY ?_ ?_
     ·intro b a w ha HM hb hon hoff K hK
      have e20 := PE ha 12 hon
      exact VN ( wanted_off rfl rfl rfl (e20.trans (by first | rfl | (simp [*]; done)))) (hK.out _ _ ⟨PUT ha 22 hb, HM⟩)
     refine SY ?_ ?_
     ·intro b a w ha HM hb hon hoff K hK
      have e20 := PE ha 12 hon
      have e30 := PE ha 22 hon
      exact VL (.bool true) (hK.out _ _ ⟨PUT ha 23 hb, HM⟩)
     refine SY ?_ ?_
     ·intro b a w ha HM hb hon hoff K hK
      have e31 := PE ha 23 hon
      exact VL (.bool true) (hK.out _ _ ⟨PUT ha 24 hb, HM⟩)
     refine SY ?_ ?_
     ·intro b a w ha HM hb hon hoff K hK
      have e32 := PE ha 24 hon
      exact VN ( wanted_off rfl rfl rfl (e32.trans (by first | rfl | (simp [*]; done)))) (hK.out _ _ ⟨PUT ha 25 hb, HM⟩)
     refine SY ?_ ?_
     ·intro b a w ha HM hb hon hoff K hK
      have e32 := PE ha 24 hon
      exact VN ( wanted_off rfl rfl rfl (e32.trans (by first | rfl | (simp [*]; done)))) (hK.out _ _ ⟨PUT ha 26 hb, HM⟩)
     refine SY ?_ ?_
     ·intro b a w ha HM hb hon hoff K hK
      have e32 := PE ha 24 hon
      exact VN ( wanted_off rfl rfl rfl (e32.trans (by first | rfl | (simp [*]; done)))) (hK.out _ _ ⟨PUT ha 27 hb, HM⟩)
     refine SY ?_ ?_
     ·intro b a w ha HM hb hon hoff K hK
      have e32 := PE ha 24 hon
      exact VN ( wanted_off rfl rfl rfl (e32.trans (by first | rfl | (simp [*]; done)))) (hK.out _ _ ⟨PUT ha 28 hb, HM⟩)
     refine SY ?_ ?_
     ·intro b a w ha HM hb hon hoff K hK
      have e32 := PE ha 24 hon
      exact VN ( wanted_off rfl rfl rfl (e32.trans (by first | rfl | (simp [*]; done)))) (hK.out _ _ ⟨PUT ha 29 hb, HM⟩)
     refine SY ?_ ?_
     ·intro b a w ha HM hb hon hoff K hK
      have e32 := PE ha 24 hon
      exact VN ( wanted_off rfl rfl rfl (e32.trans (by first | rfl | (simp [*]; done)))) (hK.out _ _ ⟨PUT ha 30 hb, HM⟩)
     refine SY ?_ ?_
     ·intro b a w ha HM hb hon hoff K hK
      have e32 := PE ha 24 hon
      have e38 := PE ha 30 hon
      exact VL (.bool true) (hK.out _ _ ⟨PUT ha 31 hb, HM⟩)
     exact steps_nil
    rintro _ w60 ⟨rfl, HM⟩
    simp only [putSel, if_true, Act.put, List.setIfInBounds_toArray, List.set_cons_zero, List.set_cons_succ, gt_iff_lt, ge_iff_le]
    have H' := Aside0.mk H
    clear H
    go_wp2
    go_meet
    case rel => exact ⟨_, (true), RS, H', ⟨by first | omega | exact Nat.le_refl _⟩, (MD HM).pick [0]⟩
  ·subst c5
   refine RGN 32 [0, 1, 2, 3, 4, 5, 6, 7, 8, 9, 10, 11, 12, 13, 14, 15, 16, 17, 18, 19, 20, 21, 22, 23, 24, 25, 26, 27, 28, 29, 30, 31] (fun a0 b a w' => a = putSel a0 b [(0, 8, .pointer (some ⟨gb841, 0, none⟩)), (1, 9, .int .i64 a0_0), (2, 10, .bool false), (3, 11, .bool (!false)), (4, 12, .bool (!false)), (5, 13, undef), (6, 14, undef), (7, 15, undef), (8, 16, undef), (9, 17, undef), (10, 18, undef), (11, 19, .bool true), (12, 20, .bool true), (13, 21, undef), (14, 22, undef), (15, 23, undef), (16, 24, undef), (17, 25, undef), (18, 26, undef), (19, 27, undef), (20, 28, undef), (21, 29, undef), (22, 30, undef), (23, 31, .bool true), (24, 32, .bool true), (25, 33, undef), (26, 34, undef), (27, 35, undef), (28, 36, undef), (29, 37, undef), (30, 38, undef), (31, 39, .bool true)] ∧ Mem w [] w' [box 71 gb841 [.int .i64 a0_0, .int .i64 a0_1, .slice A0_2 l0_2.length c0_2, .slice A0_3 l0_3.length c0_3, .slice A0_4 l0_4.length c0_4]]) spec_ThreeOk.tab1 spec_ThreeOk.bits1 ?_ ?_ ?_
   ·exact ⟨PS0' rfl _, (HM.drew).pick [0]⟩
   ·clear HM
    refine SY ?_ ?_
    ·intro b a w ha HM hb hon hoff K hK
     have e1 := PG ha 1
     exact VL (.pointer (some ⟨gb841, 0, none⟩)) (hK.out _ _ ⟨PUT ha 0 hb, HM⟩)
    refine SY ?_ ?_
    ·intro b a w ha HM hb hon hoff K hK
     obtain ⟨_,_,_,_,_,_,_,_,_,_⟩ := bk5 (HM.bx 0 rfl)
     have e8 := PE ha 0 hon
     exact VL (.int .i64 a0_0) (hK.out _ _ ⟨PUT ha 1 hb, HM⟩)
    refine SY ?_ ?_
    ·intro b a w ha HM hb hon hoff K hK
     have e9 := PE ha 1 hon
     refine ST (eC (some 10) rfl #[.int .i64 a0_0, .int .i64 1, .int .i64 60] rfl Try.func51 (spec_l01In.calls a0_0 1 60 false _ A4.out) ?_ (hargs := by (simp only [List.map_toArray, List.map_cons, List.map_nil, evc, eval_of e9]) <;> rfl))
     rintro e w64 ⟨rfl, hd⟩
     refine ⟨_, rfl, ?_⟩
     replace HM := HM.drawn hd
     clear hd
     exact hK.out _ _ ⟨PUT ha 2 hb, (HM).pick [0]⟩
    refine SY ?_ ?_
    ·intro b a w ha HM hb hon hoff K hK
     have e10 := PE ha 2 hon
     exact VL (.bool (!false)) (hK.out _ _ ⟨PUT ha 3 hb, HM⟩)
    refine SY ?_ ?_
    ·intro b a w ha HM hb hon hoff K hK
     have e11 := PE ha 3 hon
     exact VL (.bool (!false)) (hK.out _ _ ⟨PUT ha 4 hb, HM⟩)
    refine SY ?_ ?_
    ·intro b a w ha HM hb hon hoff K hK
     have e12 := PE ha 4 hon
     exact VN ( wanted_off rfl rfl rfl (e12.trans (by first | rfl | (simp [*]; done)))) (hK.out _ _ ⟨PUT ha 5 hb, HM⟩)
    refine SY ?_ ?_
    ·intro b a w ha HM hb hon hoff K hK
     have e12 := PE ha 4 hon
     exact VN ( wanted_off rfl rfl rfl (e12.trans (by first | rfl | (simp [*]; done)))) (hK.out _ _ ⟨PUT ha 6 hb, HM⟩)
    refine SY ?_ ?_
    ·intro b a w ha HM hb hon hoff K hK
     have e12 := PE ha 4 hon
     exact VN ( wanted_off rfl rfl rfl (e12.trans (by first | rfl | (simp [*]; done)))) (hK.out _ _ ⟨PUT ha 7 hb, HM⟩)
    refine SY ?_ ?_
    ·intro b a w ha HM hb hon hoff K hK
     have e12 := PE ha 4 hon
     exact VN ( wanted_off rfl rfl rfl (e12.trans (by first | rfl | (simp [*]; done)))) (hK.out _ _ ⟨PUT ha 8 hb, HM⟩)
    refine SY ?_ ?_
    ·intro b a w ha HM hb hon hoff K hK
     have e12 := PE ha 4 hon
     exact VN ( wanted_off rfl rfl rfl (e12.trans (by first | rfl | (simp [*]; done)))) (hK.out _ _ ⟨PUT ha 9 hb, HM⟩)
    refine SY ?_ ?_
    ·intro b a w ha HM hb hon hoff K hK
     have e12 := PE ha 4 hon
     exact VN ( wanted_off rfl rfl rfl (e12.trans (by first | rfl | (simp [*]; done)))) (hK.out _ _ ⟨PUT ha 10 hb, HM⟩)
    refine SY ?_ ?_
    ·intro b a w ha HM hb hon hoff K hK
     have e12 := PE ha 4 hon
     have e18 := PE ha 10 hon
     exact VL (.bool true) (hK.out _ _ ⟨PUT ha 11 hb, HM⟩)
    refine SY ?_ ?_
    ·intro b a w ha HM hb hon hoff K hK
     have e19 := PE ha 11 hon
     exact VL (.bool true) (hK.out _ _ ⟨PUT ha 12 hb, HM⟩)
    refine SY ?_ ?_
    ·intro b a w ha HM hb hon hoff K hK
     have e20 := PE ha 12 hon
     exact VN ( wanted_off rfl rfl rfl (e20.trans (by first | rfl | (simp [*]; done)))) (hK.out _ _ ⟨PUT ha 13 hb, HM⟩)
    refine SY ?_ ?_
    ·intro b a w ha HM hb hon hoff K hK
     have e20 := PE ha 12 hon
     exact VN ( wanted_off rfl rfl rfl (e20.trans (by first | rfl | (simp [*]; done)))) (hK.out _ _ ⟨PUT ha 14 hb, HM⟩)
    refine SY ?_ ?_
    ·intro b a w ha HM hb hon hoff K hK
     have e20 := PE ha 12 hon
     exact VN ( wanted_off rfl rfl rfl (e20.trans (by first | rfl | (simp [*]; done)))) (hK.out _ _ ⟨PUT ha 15 hb, HM⟩)
    refine SY ?_ ?_
    ·intro b a w ha HM hb hon hoff K hK
     have e20 := PE ha 12 hon
     exact VN ( wanted_off rfl rfl rfl (e20.trans (by first | rfl | (simp [*]; done)))) (hK.out _ _ ⟨PUT ha 16 hb, HM⟩)
    refine SY ?_ ?_
    ·intro b a w ha HM hb hon hoff K hK
     have e20 := PE ha 12 hon
     exact VN ( wanted_off rfl rfl rfl (e20.trans (by first | rfl | (simp [*]; done)))) (hK.out _ _ ⟨PUT ha 17 hb, HM⟩)
    refine SY ?_ ?_
    ·intro b a w ha HM hb hon hoff K hK
     have e20 := PE ha 12 hon
     exact VN ( wanted_off rfl rfl rfl (e20.trans (by first | rfl | (simp [*]; done)))) (hK.out _ _ ⟨PUT ha 18 hb, HM⟩)
    refine SY ?_ ?_
    ·intro b a w ha HM hb hon hoff K hK
     have e20 := PE ha 12 hon
     exact VN ( wanted_off rfl rfl rfl (e20.trans (by first | rfl | (simp [*]; done)))) (hK.out _ _ ⟨PUT ha 19 hb, HM⟩)
    refine SY ?_ ?_
    ·intro b a w ha HM hb hon hoff K hK
     have e20 := PE ha 12 hon
     exact VN ( wanted_off rfl rfl rfl (e20.trans (by first | rfl | (simp [*]; done)))) (hK.out _ _ ⟨PUT ha 20 hb, HM⟩)
    refine SY ?_ ?_
    ·intro b a w ha HM hb hon hoff K hK
     have e20 := PE ha 12 hon
     exact VN ( wanted_off rfl rfl rfl (e20.trans (by first | rfl | (simp [*]; done)))) (hK.out _ _ ⟨PUT ha 21 hb, HM⟩)
    refine SY ?_ ?_
    ·intro b a w ha HM hb hon hoff K hK
     have e20 := PE ha 12 hon
     exact VN ( wanted_off rfl rfl rfl (e20.trans (by first | rfl | (simp [*]; done)))) (hK.out _ _ ⟨PUT ha 22 hb, HM⟩)
    refine SY ?_ ?_
    ·intro b a w ha HM hb hon hoff K hK
     have e20 := PE ha 12 hon
     have e30 := PE ha 22 hon
     exact VL (.bool true) (hK.out _ _ ⟨PUT ha 23 hb, HM⟩)
    refine SY ?_ ?_
    ·intro b a w ha HM hb hon hoff K hK
     have e31 := PE ha 23 hon
     exact VL (.bool true) (hK.out _ _ ⟨PUT ha 24 hb, HM⟩)
    refine SY ?_ ?_
    ·intro b a w ha HM hb hon hoff K hK
     have e32 := PE ha 24 hon
     exact VN ( wanted_off rfl rfl rfl (e32.trans (by first | rfl | (simp [*]; done)))) (hK.out _ _ ⟨PUT ha 25 hb, HM⟩)
    refine SY ?_ ?_
    ·intro b a w ha HM hb hon hoff K hK
     have e32 := PE ha 24 hon
     exact VN ( wanted_off rfl rfl rfl (e32.trans (by first | rfl | (simp [*]; done)))) (hK.out _ _ ⟨PUT ha 26 hb, HM⟩)
    refine SY ?_ ?_
    ·intro b a w ha HM hb hon hoff K hK
     have e32 := PE ha 24 hon
     exact VN ( wanted_off rfl rfl rfl (e32.trans (by first | rfl | (simp [*]; done)))) (hK.out _ _ ⟨PUT ha 27 hb, HM⟩)
    refine SY ?_ ?_
    ·intro b a w ha HM hb hon hoff K hK
     have e32 := PE ha 24 hon
     exact VN ( wanted_off rfl rfl rfl (e32.trans (by first | rfl | (simp [*]; done)))) (hK.out _ _ ⟨PUT ha 28 hb, HM⟩)
    refine SY ?_ ?_
    ·intro b a w ha HM hb hon hoff K hK
     have e32 := PE ha 24 hon
     exact VN ( wanted_off rfl rfl rfl (e32.trans (by first | rfl | (simp [*]; done)))) (hK.out _ _ ⟨PUT ha 29 hb, HM⟩)
    refine SY ?_ ?_
    ·intro b a w ha HM hb hon hoff K hK
     have e32 := PE ha 24 hon
     exact VN ( wanted_off rfl rfl rfl (e32.trans (by first | rfl | (simp [*]; done)))) (hK.out _ _ ⟨PUT ha 30 hb, HM⟩)
    refine SY ?_ ?_
    ·intro b a w ha HM hb hon hoff K hK
     have e32 := PE ha 24 hon
     have e38 := PE ha 30 hon
     exact VL (.bool true) (hK.out _ _ ⟨PUT ha 31 hb, HM⟩)
    exact steps_nil
   rintro _ w65 ⟨rfl, HM⟩
   simp only [putSel, if_true, Act.put, List.setIfInBounds_toArray, List.set_cons_zero, List.set_cons_succ, gt_iff_lt, ge_iff_le]
   have H' := Aside0.mk H
   clear H
   go_wp2
   go_meet
   case rel => exact ⟨_, (true), RS, H', ⟨by first | omega | exact Nat.le_refl _⟩, (MD HM).pick [0]⟩
 case rest =>
  clear HC3 HM
  obtain ⟨kq, x39_2, rfl, HA, HJ2, HM⟩ := hcut
  cases kq with
  | zero => exact absurd HA.out (by simp [spec_ThreeOk.j0])
  | succ kj2 =>
   have H := HA.out
   clear HA
   simp only [spec_ThreeOk.j0] at H
   go_upto_if 39 with (fail)
   replace H := IB H
   rcases H with ⟨c66, H⟩ | ⟨c66, H⟩
   ·subst c66
    obtain rfl := Option.some.inj H
    go_wp2
    go_ret
    exact ⟨ER, (MD HM).pick []⟩
   ·subst c66
    try go_wp2
    replace H := BLt H; obtain ⟨y845, Ny845, H⟩ := H
    replace Ny845 := Aside0.mk Ny845
    replace H := GD H; obtain ⟨c67, H⟩ := H
    have LMc67 := Aside0.mk c67
    clear c67
    replace H := BLt H; obtain ⟨y848, Ny848, H⟩ := H
    replace Ny848 := Aside0.mk Ny848
    replace H := GD H; obtain ⟨c68, H⟩ := H
    have LMc68 := Aside0.mk c68
    clear c68
    replace H := BLt H; obtain ⟨y851, Ny851, H⟩ := H
    replace Ny851 := Aside0.mk Ny851
    refine RGN 8 [0, 1, 2, 3, 4, 5, 6, 7] (fun a0 b a w' => ∃ (v846 : Value) (v849 : Value) (v852 : Value), a = putSel a0 b [(0, 40, v846), (1, 41, .pointer (some ⟨gb841, 2, none⟩)), (2, 42, .slice A0_2 l0_2.length c0_2), (3, 43, v849), (4, 44, .pointer (some ⟨gb841, 3, none⟩)), (5, 45, .slice A0_3 l0_3.length c0_3), (6, 46, v852), (7, 3, v852)] ∧ Mem w [] w' [box 71 gb841 [.int .i64 a0_0, .int .i64 a0_1, .slice A0_2 l0_2.length c0_2, .slice A0_3 l0_3.length c0_3, .slice A0_4 l0_4.length c0_4], sel (b 6) (rowR k67 67 v852 y851) (sel (b 3) (rowR k67 67 v849 y848) (sel (b 0) (rowR k67 67 v846 y845) (emp)))]) spec_ThreeOk.tab3 spec_ThreeOk.bits3 ?_ ?_ ?_
    ·exact ⟨.bool false, .bool false, .bool false, PS0' rfl _, (HM.drew.ems 1).pick [0, 1]⟩
    ·clear HM
     refine SZ ?_ ?_
     ·rintro b a w ⟨v846, v849, v852, ha, HM⟩ hb hon hoff K hK
      replace ha := Aside0.mk ha
      refine ST (eL 40 k67 67 ([] : List (S67)) [] (Reps.none _ _) HM rfl ?_)
      clear HM
      intro v846 w74 HM
      replace HM := HM.nm 2 rfl Ny845.out
      exact hK.out _ _ ⟨v846, v849, v852, PUT ha 0 hb, ((HM.iF 2 rfl (hoff 3 rfl)).iF 2 rfl (hoff 6 rfl)).pick [0, 2]⟩
     refine SZ ?_ ?_
     ·rintro b a w ⟨v846, v849, v852, ha, HM⟩ hb hon hoff K hK
      replace ha := Aside0.mk ha
      have e1 := PG ha 1
      exact VL (.pointer (some ⟨gb841, 2, none⟩)) (hK.out _ _ ⟨v846, v849, v852, PUT ha 1 hb, HM⟩)
     refine SZ ?_ ?_
     ·rintro b a w ⟨v846, v849, v852, ha, HM⟩ hb hon hoff K hK
      replace ha := Aside0.mk ha
      obtain ⟨_,_,_,_,_,_,_,_,_,_⟩ := bk5 (HM.bx 0 rfl)
      have e41 := PE ha 1 hon
      exact VL (.slice A0_2 l0_2.length c0_2) (hK.out _ _ ⟨v846, v849, v852, PUT ha 2 hb, HM⟩)
     refine SZ ?_ ?_
     ·rintro b a w ⟨v846, v849, v852, ha, HM⟩ hb hon hoff K hK
      replace ha := Aside0.mk ha
      replace HM := ((HM.sF 1 rfl (hoff 6 rfl)).sF 1 rfl hb).sT 1 rfl (hon 0 rfl)
      have e40 := PE ha 0 hon
      have e42 := PE ha 2 hon
      refine ST (eA 1 (.tmp 40) (.tmp 42) 68 67 k67 v846 y845 l0_2 A0_2 l0_2.length c0_2 HM rfl Try.underlying68 info67 rfl (HM.came HR0_2.out) (by have h_ := LMc67.out; omega) ?_ (ops := #[]) (hw := by rfl) (hs := (eval_of e40)) (hx := (eval_of e42)))
      clear HM
      intro v849 w76 HM
      replace HM := HM.nm 1 rfl Ny848.out
      exact hK.out _ _ ⟨v846, v849, v852, PUT ha 3 hb, (HM.iF 1 rfl (hoff 6 rfl)).pick [0, 1]⟩
     refine SZ ?_ ?_
     ·rintro b a w ⟨v846, v849, v852, ha, HM⟩ hb hon hoff K hK
      replace ha := Aside0.mk ha
      have e1 := PG ha 1
      exact VL (.pointer (some ⟨gb841, 3, none⟩)) (hK.out _ _ ⟨v846, v849, v852, PUT ha 4 hb, HM⟩)
     refine SZ ?_ ?_
     ·rintro b a w ⟨v846, v849, v852, ha, HM⟩ hb hon hoff K hK
      replace ha := Aside0.mk ha
      obtain ⟨_,_,_,_,_,_,_,_,_,_⟩ := bk5 (HM.bx 0 rfl)
      have e44 := PE ha 4 hon
      exact VL (.slice A0_3 l0_3.length c0_3) (hK.out _ _ ⟨v846, v849, v852, PUT ha 5 hb, HM⟩)
     refine SZ ?_ ?_
     ·rintro b a w ⟨v846, v849, v852, ha, HM⟩ hb hon hoff K hK
      replace ha := Aside0.mk ha
      replace HM := (HM.sF 1 rfl hb).sT 1 rfl (hon 3 rfl)
      have e43 := PE ha 3 hon
      have e45 := PE ha 5 hon
      refine ST (eA 1 (.tmp 43) (.tmp 45) 68 67 k67 v849 y848 l0_3 A0_3 l0_3.length c0_3 HM rfl Try.underlying68 info67 rfl (HM.came HR0_3.out) (by have h_ := LMc68.out; omega) ?_ (ops := #[]) (hw := by rfl) (hs := (eval_of e43)) (hx := (eval_of e45)))
      clear HM
      intro v852 w78 HM
      replace HM := HM.nm 1 rfl Ny851.out
      exact hK.out _ _ ⟨v846, v849, v852, PUT (PCH ha 7 (hoff 7 rfl)) 6 hb, (HM).pick [0, 1]⟩
     refine SZ ?_ ?_
     ·rintro b a w ⟨v846, v849, v852, ha, HM⟩ hb hon hoff K hK
      replace ha := Aside0.mk ha
      have e46 := PE ha 6 hon
      exact VL (v852) (hK.out _ _ ⟨v846, v849, v852, PUT ha 7 hb, HM⟩)
     exact steps_nil
    rintro _ w79 ⟨v846, v849, v852, rfl, HM⟩
    replace HM := HM.sT 1 rfl rfl
    simp only [putSel, if_true, Act.put, List.setIfInBounds_toArray, List.set_cons_zero, List.set_cons_succ, gt_iff_lt, ge_iff_le]
    have H' := Aside0.mk H
    clear H
    obtain ⟨Xo80, ko80, rfl⟩ := HM.rdR 1 rfl
    go_wp2
    go_loopg [49] kj2 (fun kq v49 w' => ∃ (x49_2 : Int), v49 = .int .i64 x49_2 ∧ Aside0 (spec_ThreeOk.l0 kq y851 y851 (y851.length : Int) x49_2 a0_0 a0_1 l0_2 l0_3 l0_4 = some r) ∧ Aside0 (kq ≤ kj2) ∧ Mem w [] w' [rowR k67 67 (.slice Xo80 y851.length ko80) y851, box 71 gb841 [.int .i64 a0_0, .int .i64 a0_1, .slice A0_2 l0_2.length c0_2, .slice A0_3 l0_3.length c0_3, .slice A0_4 l0_4.length c0_4]])
    case atStart => exact ⟨(0), RS, H', ⟨Nat.le_refl _⟩, (MD HM).pick [1, 0]⟩
    case round =>
     clear H' HM
     obtain ⟨x49_2, rfl, HA, HK2, HM⟩ := hrel
     cases gk with
     | zero => exact absurd HA.out (by simp [spec_ThreeOk.l0])
     | succ k2 =>
      have H := HA.out
      clear HA
      simp only [spec_ThreeOk.l0] at H
      go_upto_if 50 with (fail)
      replace H := IT H; rcases H with ⟨c81, H⟩ | ⟨c81, H⟩
      ·have c81b0 := decide_eq_true c81
       clear c81
       first|rw [c81b0]|(simp only [i64_w, i32_w]; rw [c81b0])|skip
       replace H := GD H; obtain ⟨c82, H⟩ := H
       have c82b0 := decide_eq_true c82
       clear c82
       replace H := GD H; obtain ⟨c83, H⟩ := H
       have c83b0 := decide_eq_true c83
       clear c83
       replace H := BN H; obtain ⟨t856, A87, H⟩ := H
       replace H := IB H
       rcases H with ⟨c89, H⟩ | ⟨c89, H⟩
       ·subst c89
        replace H := BN H; obtain ⟨t857, A91, H⟩ := H
        have p854 : 0 ≤ (x49_2 : Int) := of_decide_eq_true AS
        have q854 : (x49_2 : Int) < (y851.length : Int) := of_decide_eq_true AS
        obtain ⟨ad854, e854, hx854_0, hx854_1, hx854_2⟩ := at_T67 (HM.CR 0 rfl).2.2 x49_2 p854 q854
        cases e854
        replace p854 := eq_true p854
        replace q854 := eq_true q854
        go_upto_if 64 with (first | ((with_reducible refine gN 5 rfl ?_); refine pB 5 67 [.string (⟨#[]⟩ : ByteArray), .string (⟨#[]⟩ : ByteArray), .int .i64 0] HM rfl ?_; clear HM; intro gb855 w84 HM) | ((with_reducible refine gS 5 rfl ?_); refine pS 2 5 0 [.string ((rd_T67 y851 x49_2).f0), .string ((rd_T67 y851 x49_2).f1), .int .i64 ((rd_T67 y851 x49_2).f2)] HM rfl rfl ?_; clear HM; intro w85 HM; obtain ⟨_,_,_,_,_,_⟩ := bk3 (HM.bx 2 rfl)) | ((with_reducible refine gC 67 rfl ?_); refine pC (some 55) rfl #[.agg #[.string ((rd_T67 y851 x49_2).f0), .string ((rd_T67 y851 x49_2).f1), .int .i64 ((rd_T67 y851 x49_2).f2)]] rfl Try.func67 (spec_ItemOk.calls k2 ((rd_T67 y851 x49_2).f0) ((rd_T67 y851 x49_2).f1) ((rd_T67 y851 x49_2).f2) true _ A87.out) ?_; rintro e w88 ⟨rfl, hR⟩; refine ⟨_, rfl, ?_⟩; replace HM := HM.call hR; clear hR; obtain ⟨_,_,_,_,_,_⟩ := bk3 (HM.bx 2 rfl)) | ((with_reducible refine gC 104 rfl ?_); refine pC (some 61) rfl #[.slice (some ad854) y851.length ko80, .string ((rd_T67 y851 x49_2).f0)] rfl Try.func104 (spec_l10At.calls k2 _ _ y851 ((rd_T67 y851 x49_2).f0) t857 _ (HM.CR 0 rfl).2.2 (HM.CR 0 rfl).2.1 A91.out) ?_; rintro e w92 ⟨rfl, hR⟩; refine ⟨_, rfl, ?_⟩; replace HM := HM.call hR; clear hR))
        replace HM := nzM HM
        replace H := IT H; rcases H with ⟨c93, H⟩ | ⟨c93, H⟩
        ·obtain ⟨c93b0, c93b1⟩ := BE c93
         clear c93
         first|rw [c93b0]|(simp only [i64_w, i32_w]; rw [c93b0])|skip
         have H' := Aside0.mk H
         clear H
         go_wp2
         go_roundg k2
         case measure => have := HJ2.out; have := HK2.out; omega
         case rel => exact ⟨(wrap64 (x49_2 + 1)), RS, H', ⟨by have := HJ2.out; have := HK2.out; omega⟩, (MD HM).pick [0, 1]⟩
        ·obtain ⟨c93b0, c93b1⟩ := BF c93
         first|rw [c93b0]|(simp only [i64_w, i32_w]; rw [c93b0])|skip
         obtain rfl := Option.some.inj H
         go_wp2
         go_ret
         exact ⟨ER, (MD HM).pick []⟩
       ·subst c89
        obtain rfl := Option.some.inj H
        have p854 : 0 ≤ (x49_2 : Int) := of_decide_eq_true AS
        have q854 : (x49_2 : Int) < (y851.length : Int) := of_decide_eq_true AS
        obtain ⟨ad854, e854, hx854_0, hx854_1, hx854_2⟩ := at_T67 (HM.CR 0 rfl).2.2 x49_2 p854 q854
        cases e854
        replace p854 := eq_true p854
        replace q854 := eq_true q854
        go_wp2_with (first | ((with_reducible refine gN 5 rfl ?_); refine pB 5 67 [.string (⟨#[]⟩ : ByteArray), .string (⟨#[]⟩ : ByteArray), .int .i64 0] HM rfl ?_; clear HM; intro gb855 w84 HM) | ((with_reducible refine gS 5 rfl ?_); refine pS 2 5 0 [.string ((rd_T67 y851 x49_2).f0), .string ((rd_T67 y851 x49_2).f1), .int .i64 ((rd_T67 y851 x49_2).f2)] HM rfl rfl ?_; clear HM; intro w85 HM; obtain ⟨_,_,_,_,_,_⟩ := bk3 (HM.bx 2 rfl)) | ((with_reducible refine gC 67 rfl ?_); refine pC (some 55) rfl #[.agg #[.string ((rd_T67 y851 x49_2).f0), .string ((rd_T67 y851 x49_2).f1), .int .i64 ((rd_T67 y851 x49_2).f2)]] rfl Try.func67 (spec_ItemOk.calls k2 ((rd_T67 y851 x49_2).f0) ((rd_T67 y851 x49_2).f1) ((rd_T67 y851 x49_2).f2) false _ A87.out) ?_; rintro e w88 ⟨rfl, hR⟩; refine ⟨_, rfl, ?_⟩; replace HM := HM.call hR; clear hR))
        go_ret
        exact ⟨ER, (MD HM).pick []⟩
      ·have c81b0 := decide_eq_false c81
       clear c81
       first|rw [c81b0]|(simp only [i64_w, i32_w]; rw [c81b0])|skip
       have H' := Aside0.mk H
       clear H
       obtain ⟨_,_,_,_,_,_,_,_,_,_⟩ := bk5 (HM.bx 1 rfl)
       go_wp2
       go_loopg [69] k2 (fun kq v69 w' => ∃ (x69_3 : Int), v69 = .int .i64 x69_3 ∧ Aside0 (spec_ThreeOk.l1 kq l0_4 (l0_4.length : Int) x69_3 a0_0 a0_1 l0_2 l0_3 l0_4 = some r) ∧ Aside0 (kq ≤ k2) ∧ Mem w [] w' [box 71 gb841 [.int .i64 a0_0, .int .i64 a0_1, .slice A0_2 l0_2.length c0_2, .slice A0_3 l0_3.length c0_3, .slice A0_4 l0_4.length c0_4]])
       case atStart => exact ⟨(0), RS, H', ⟨Nat.le_refl _⟩, (MD HM).pick [1]⟩
       case round =>
        clear H' HM
        obtain ⟨x69_3, rfl, HA, HK3, HM⟩ := hrel
        cases gk with
        | zero => exact absurd HA.out (by simp [spec_ThreeOk.l1])
        | succ k3 =>
         have H := HA.out
         clear HA
         simp only [spec_ThreeOk.l1] at H
         go_upto_if 70 with (fail)
         replace H := IT H; rcases H with ⟨c95, H⟩ | ⟨c95, H⟩
         ·have c95b0 := decide_eq_true c95
          clear c95
          first|rw [c95b0]|(simp only [i64_w, i32_w]; rw [c95b0])|skip
          replace H := GD H; obtain ⟨c96, H⟩ := H
          have c96b0 := decide_eq_true c96
          clear c96
          replace H := GD H; obtain ⟨c97, H⟩ := H
          have c97b0 := decide_eq_true c97
          clear c97
          replace H := BN H; obtain ⟨t859, A98, H⟩ := H
          replace H := IB H
          rcases H with ⟨c100, H⟩ | ⟨c100, H⟩
          ·subst c100
           have c102b0 := eq_true (of_decide_eq_true AS : 0 ≤ x69_3)
           replace H := GD H; obtain ⟨c103, H⟩ := H
           have c103b0 := eq_true c103
           have c103b1 : decide (x69_3 ≤ (l0_4.length : Int)) = true := decide_eq_true c103
           clear c103
           replace H := BN H; obtain ⟨t861, A105, H⟩ := H
           have p858 : 0 ≤ (x69_3 : Int) := of_decide_eq_true AS
           have q858 : (x69_3 : Int) < (l0_4.length : Int) := of_decide_eq_true AS
           obtain ⟨ad858, e858, hx858_0⟩ := Kd.at_int (HM.came HR0_4.out) x69_3 p858 q858
           cases e858
           replace p858 := eq_true p858
           replace q858 := eq_true q858
           go_upto_if 84 with (first | ((with_reducible refine gC 52 rfl ?_); refine pC (some 75) rfl #[.int .i64 (rd l0_4 x69_3)] rfl Try.func52 (spec_l01Num.calls (rd l0_4 x69_3) true _ A98.out) ?_; rintro e w99 ⟨rfl, hd⟩; refine ⟨_, rfl, ?_⟩; replace HM := HM.drawn hd; clear hd; obtain ⟨_,_,_,_,_,_,_,_,_,_⟩ := bk5 (HM.bx 0 rfl)) | ((with_reducible refine gate_sl (t := 69) rfl ?_); refine pRt 69 3 (Kd.int .i64) _ _ x69_3 l0_4 (some ad858) c0_4 rfl Try.underlying69 info3 (HM.came HR0_4.out) HC0_4.out (of_decide_eq_true AS) (of_decide_eq_true AS) ?_; intro Yx104 bx104 hYx104 hbx104; have HYx104 := Aside0.mk hYx104; have HBx104 := Aside0.mk hbx104; clear hYx104 hbx104; have hlx104 : (l0_4.take (x69_3 : Int).toNat).length = (x69_3 : Int).toNat := by rw [List.length_take]; have h_ : (x69_3 : Int) ≤ ((l0_4.length : Int) : Int) := of_decide_eq_true AS; omega) | ((with_reducible refine gC 106 rfl ?_); refine pC (some 83) rfl #[.slice Yx104 (l0_4.take (x69_3 : Int).toNat).length bx104, .int .i64 (rd l0_4 x69_3)] rfl Try.func106 (spec_l03Has.calls k3 _ _ (l0_4.take (x69_3 : Int).toNat) (rd l0_4 x69_3) t861 _ HYx104.out HBx104.out A105.out) ?_ (hargs := by (try simp only [List.map_toArray, List.map_cons, List.map_nil]); first | done | rfl | (rw [hlx104]; rfl) | (simp only [List.length_take]; rfl)); rintro e w106 ⟨rfl, hd⟩; refine ⟨_, rfl, ?_⟩; replace HM := HM.drawn hd; clear hd))
           replace H := IB H
           rcases H with ⟨c107, H⟩ | ⟨c107, H⟩
           ·subst c107
            obtain rfl := Option.some.inj H
            go_wp2
            go_ret
            exact ⟨ER, (MD HM).pick []⟩
           ·subst c107
            have H' := Aside0.mk H
            clear H
            go_wp2
            go_roundg k3
            case measure => have := HJ2.out; have := HK2.out; have := HK3.out; omega
            case rel => exact ⟨(wrap64 (x69_3 + 1)), RS, H', ⟨by have := HJ2.out; have := HK2.out; have := HK3.out; omega⟩, (MD HM).pick [0]⟩
          ·subst c100
           obtain rfl := Option.some.inj H
           have p858 : 0 ≤ (x69_3 : Int) := of_decide_eq_true AS
           have q858 : (x69_3 : Int) < (l0_4.length : Int) := of_decide_eq_true AS
           obtain ⟨ad858, e858, hx858_0⟩ := Kd.at_int (HM.came HR0_4.out) x69_3 p858 q858
           cases e858
           replace p858 := eq_true p858
           replace q858 := eq_true q858
           go_wp2_with (first | ((with_reducible refine gC 52 rfl ?_); refine pC (some 75) rfl #[.int .i64 (rd l0_4 x69_3)] rfl Try.func52 (spec_l01Num.calls (rd l0_4 x69_3) false _ A98.out) ?_; rintro e w99 ⟨rfl, hd⟩; refine ⟨_, rfl, ?_⟩; replace HM := HM.drawn hd; clear hd))
           go_ret
           exact ⟨ER, (MD HM).pick []⟩
         ·have c95b0 := decide_eq_false c95
          clear c95
          first|rw [c95b0]|(simp only [i64_w, i32_w]; rw [c95b0])|skip
          obtain rfl := Option.some.inj H
          go_wp2
          go_ret
          exact ⟨ER, (MD HM).pick []⟩
def spec_ThreeNew.f (k : Nat) (a0 : Int) (a1 : Int) : Option (Int × Int × (List (S67)) × (List (S67)) × List Int × Bool) := (spec_ThreeOk.f k a0 a1 ([] : List (S67)) ([] : List (S67)) ([] : List Int)).bind fun t864 => (if t864 = true then (some (a0, a1, ([] : List (S67)), ([] : List (S67)), ([] : List Int), true)) else (some (0, 0, ([] : List (S67)), ([] : List (S67)), ([] : List Int), false)))
theorem spec_ThreeNew.calls (k : Nat) (a0 : Int) (a1 : Int) (r1 : Int) (r2 : Int) (r3 : List (S67)) (r4 : List (S67)) (r5 : List Int) (r6 : Bool) (w : World)  (h : spec_ThreeNew.f k a0 a1 = some (r1, r2, r3, r4, r5, r6)) :
  Calls Try.prog 72 #[.int .i64 a0, .int .i64 a1] w fun e w' => ∃ v2_ v3_ v4_ : Value, e = .returned (.tuple #[.agg #[.int .i64 r1, .int .i64 r2, v2_, v3_, v4_], .bool r6]) ∧ Mem w [] w' [rowR k67 67 v2_ r3, rowR k67 67 v3_ r4, rowR (Kd.int .i64) 3 v4_ r5] := by
 have hu71 := Try.underlying71
 have HM := Mem.nil w
 have H := h
 clear h
 unfold spec_ThreeNew.f at H
 go_enter Try.func72, Try.ntmps72
 replace H := BN H; obtain ⟨t864, A7, H⟩ := H
 go_upto_if 12 with (first | ((with_reducible refine gN 4 rfl ?_); refine pB 4 71 [.int .i64 0, .int .i64 0, .slice none 0 0, .slice none 0 0, .slice none 0 0] HM rfl ?_; clear HM; intro gb862 w3 HM) | ((with_reducible refine gN 6 rfl ?_); refine pB 6 71 [.int .i64 0, .int .i64 0, .slice none 0 0, .slice none 0 0, .slice none 0 0] HM rfl ?_; clear HM; intro gb863 w4 HM) | ((with_reducible refine gS 6 rfl ?_); refine pS 1 6 0 [.int .i64 a0, .int .i64 a1, .slice none 0 0, .slice none 0 0, .slice none 0 0] HM rfl rfl ?_; clear HM; intro w5 HM; obtain ⟨_,_,_,_,_,_,_,_,_,_⟩ := bk5 (HM.bx 1 rfl)) | ((with_reducible refine gC 91 rfl ?_); refine pC (some 11) rfl #[.agg #[.int .i64 a0, .int .i64 a1, .slice none 0 0, .slice none 0 0, .slice none 0 0]] rfl Try.func91 (spec_ThreeOk.calls k a0 a1 _ _ ([] : List (S67)) _ _ ([] : List (S67)) _ _ ([] : List Int) t864 _ (Kd.C_nil _ _) (Nat.le_refl _) (Kd.C_nil _ _) (Nat.le_refl _) (Kd.C_nil _ _) (Nat.le_refl _) A7.out) ?_; rintro e w8 ⟨rfl, hR⟩; refine ⟨_, rfl, ?_⟩; replace HM := HM.call hR; clear hR))
 replace HM := nzM HM
 replace H := IB H
 rcases H with ⟨c9, H⟩ | ⟨c9, H⟩
 ·subst c9
  simp only [Option.some.injEq, Prod.mk.injEq] at H
  obtain ⟨rfl, rfl, rfl, rfl, rfl, rfl⟩ := H
  obtain ⟨_,_,_,_,_,_,_,_,_,_⟩ := bk5 (HM.bx 1 rfl)
  go_wp2_with (first | ((with_reducible refine gS 4 rfl ?_); refine pS 0 4 0 [.int .i64 a0, .int .i64 a1, .slice none 0 0, .slice none 0 0, .slice none 0 0] HM rfl rfl ?_; clear HM; intro w11 HM; replace HM := HM.nl k67 67; replace HM := HM.nl k67 67; replace HM := HM.nl (Kd.int .i64) 3))
  refine bodyPost_ret (results_ct rfl _ _ gb862 71 #[.int .i64 a0, .int .i64 a1, .slice none 0 0, .slice none 0 0, .slice none 0 0] (0, 0) _ rfl (HM.bx 0 rfl) Try.underlying71 rfl (by kernel_rfl)) rfl ?_
  exact ⟨_, _, _, ER, (MD HM).pick [2, 3, 4]⟩
 ·subst c9
  simp only [Option.some.injEq, Prod.mk.injEq] at H
  obtain ⟨rfl, rfl, rfl, rfl, rfl, rfl⟩ := H
  go_wp2_with (first | ((with_reducible refine gS 4 rfl ?_); refine pS 0 4 0 [.int .i64 0, .int .i64 0, .slice none 0 0, .slice none 0 0, .slice none 0 0] HM rfl rfl ?_; clear HM; intro w12 HM; replace HM := HM.nl k67 67; replace HM := HM.nl k67 67; replace HM := HM.nl (Kd.int .i64) 3))
  refine bodyPost_ret (results_ct rfl _ _ gb862 71 #[.int .i64 0, .int .i64 0, .slice none 0 0, .slice none 0 0, .slice none 0 0] (0, 0) _ rfl (HM.bx 0 rfl) Try.underlying71 rfl (by kernel_rfl)) rfl ?_
  exact ⟨_, _, _, ER, (MD HM).pick [2, 3, 4]⟩
def spec_SetupOk.f (k : Nat) (a0_0 : Int) (a0_1 : Int) (a0_2 : Int) : Option (Bool) := (spec_RowNew.f k a0_0 a0_1).bind fun bt872 => ((spec_ThreeNew.f k a0_1 a0_2).bind fun bt879 => (if bt872.2.2.2 = true then (if a0_2 = 0 then (some true) else (if a0_0 = 4 then (some bt879.2.2.2.2.2) else (some false))) else (if a0_0 = 4 then (some bt879.2.2.2.2.2) else (some false))))
theorem spec_SetupOk.calls (k : Nat) (a0_0 : Int) (a0_1 : Int) (a0_2 : Int) (r : Bool) (w : World)  (h : spec_SetupOk.f k a0_0 a0_1 a0_2 = some r) :
  Calls Try.prog 54 #[.agg #[.int .i64 a0_0, .int .i64 a0_1, .int .i64 a0_2]] w fun e w' => e = .returned (.bool r) ∧ Mem w [] w' [] := by
 have hu31 := Try.underlying31
 have hu75 := Try.underlying75
 have hu71 := Try.underlying71
 have HM := Mem.nil w
 have H := h
 clear h
 unfold spec_SetupOk.f at H
 go_enter Try.func54, Try.ntmps54
 replace H := BN H; obtain ⟨⟨t872, t873, t874, t877⟩, A4, H⟩ := H
 replace H := BN H; obtain ⟨⟨t879, t880, t881, t884, t887, t890⟩, A10, H⟩ := H
 replace H := IB H
 rcases H with ⟨c17, H⟩ | ⟨c17, H⟩
 ·subst c17
  replace H := IT H; rcases H with ⟨c19, H⟩ | ⟨c19, H⟩
  ·have c19b0 : (a0_2 == 0) = true := beq_iff_eq.mpr c19
   have c19b1 : (a0_2 != 0) = false := bne_eq_false_iff_eq.mpr c19
   clear c19
   obtain rfl := Option.some.inj H
   go_wp2_with (first | ((with_reducible refine gN 1 rfl ?_); refine pB 1 31 [.int .i64 a0_0, .int .i64 a0_1, .int .i64 a0_2] HM rfl ?_; clear HM; intro gb871 w2 HM; obtain ⟨_,_,_,_,_,_⟩ := bk3 (HM.bx 0 rfl)) | ((with_reducible refine gC 71 rfl ?_); refine pC (some 12) rfl #[.int .i64 a0_0, .int .i64 a0_1] rfl Try.func71 (spec_RowNew.calls k a0_0 a0_1 t872 t873 t874 true _ A4.out) ?_; rintro e w5 ⟨v875, rfl, hR⟩; refine ⟨_, rfl, ?_⟩; replace HM := HM.call hR; clear hR) | ((with_reducible refine gN 3 rfl ?_); refine pB 3 75 [.int .i64 0, .int .i64 0, .slice none 0 0] HM rfl ?_; clear HM; intro gb878 w6 HM; obtain ⟨Xo7, ko7, rfl⟩ := HM.rdR 1 rfl) | ((with_reducible refine gS 3 rfl ?_); refine pS 2 3 0 [.int .i64 t872, .int .i64 t873, .slice Xo7 t874.length ko7] HM rfl rfl ?_; clear HM; intro w8 HM; obtain ⟨_,_,_,_,_,_⟩ := bk3 (HM.bx 0 rfl)) | ((with_reducible refine gC 72 rfl ?_); refine pC (some 20) rfl #[.int .i64 a0_1, .int .i64 a0_2] rfl Try.func72 (spec_ThreeNew.calls k a0_1 a0_2 t879 t880 t881 t884 t887 t890 _ A10.out) ?_; rintro e w11 ⟨v882, v885, v888, rfl, hR⟩; refine ⟨_, rfl, ?_⟩; replace HM := HM.call hR; clear hR) | ((with_reducible refine gN 5 rfl ?_); refine pB 5 71 [.int .i64 0, .int .i64 0, .slice none 0 0, .slice none 0 0, .slice none 0 0] HM rfl ?_; clear HM; intro gb891 w12 HM; obtain ⟨Xo13, ko13, rfl⟩ := HM.rdR 3 rfl; obtain ⟨Xo14, ko14, rfl⟩ := HM.rdR 4 rfl; obtain ⟨Xo15, ko15, rfl⟩ := HM.rdR 5 rfl) | ((with_reducible refine gS 5 rfl ?_); refine pS 6 5 0 [.int .i64 t879, .int .i64 t880, .slice Xo13 t881.length ko13, .slice Xo14 t884.length ko14, .slice Xo15 t887.length ko15] HM rfl rfl ?_; clear HM; intro w16 HM; obtain ⟨_,_,_,_,_,_⟩ := bk3 (HM.bx 0 rfl)))
   go_ret
   exact ⟨ER, (MD HM).pick []⟩
  ·have c19b0 : (a0_2 == 0) = false := beq_eq_false_iff_ne.mpr c19
   have c19b1 : (a0_2 != 0) = true := bne_iff_ne.mpr c19
   replace H := IT H; rcases H with ⟨c20, H⟩ | ⟨c20, H⟩
   ·have c20b0 : (a0_0 == 4) = true := beq_iff_eq.mpr c20
    have c20b1 : (a0_0 != 4) = false := bne_eq_false_iff_eq.mpr c20
    clear c20
    obtain rfl := Option.some.inj H
    go_wp2_with (first | ((with_reducible refine gN 1 rfl ?_); refine pB 1 31 [.int .i64 a0_0, .int .i64 a0_1, .int .i64 a0_2] HM rfl ?_; clear HM; intro gb871 w2 HM; obtain ⟨_,_,_,_,_,_⟩ := bk3 (HM.bx 0 rfl)) | ((with_reducible refine gC 71 rfl ?_); refine pC (some 12) rfl #[.int .i64 a0_0, .int .i64 a0_1] rfl Try.func71 (spec_RowNew.calls k a0_0 a0_1 t872 t873 t874 true _ A4.out) ?_; rintro e w5 ⟨v875, rfl, hR⟩; refine ⟨_, rfl, ?_⟩; replace HM := HM.call hR; clear hR) | ((with_reducible refine gN 3 rfl ?_); refine pB 3 75 [.int .i64 0, .int .i64 0, .slice none 0 0] HM rfl ?_; clear HM; intro gb878 w6 HM; obtain ⟨Xo7, ko7, rfl⟩ := HM.rdR 1 rfl) | ((with_reducible refine gS 3 rfl ?_); refine pS 2 3 0 [.int .i64 t872, .int .i64 t873, .slice Xo7 t874.length ko7] HM rfl rfl ?_; clear HM; intro w8 HM; obtain ⟨_,_,_,_,_,_⟩ := bk3 (HM.bx 0 rfl)) | ((with_reducible refine gC 72 rfl ?_); refine pC (some 20) rfl #[.int .i64 a0_1, .int .i64 a0_2] rfl Try.func72 (spec_ThreeNew.calls k a0_1 a0_2 t879 t880 t881 t884 t887 t890 _ A10.out) ?_; rintro e w11 ⟨v882, v885, v888, rfl, hR⟩; refine ⟨_, rfl, ?_⟩; replace HM := HM.call hR; clear hR) | ((with_reducible refine gN 5 rfl ?_); refine pB 5 71 [.int .i64 0, .int .i64 0, .slice none 0 0, .slice none 0 0, .slice none 0 0] HM rfl ?_; clear HM; intro gb891 w12 HM; obtain ⟨Xo13, ko13, rfl⟩ := HM.rdR 3 rfl; obtain ⟨Xo14, ko14, rfl⟩ := HM.rdR 4 rfl; obtain ⟨Xo15, ko15, rfl⟩ := HM.rdR 5 rfl) | ((with_reducible refine gS 5 rfl ?_); refine pS 6 5 0 [.int .i64 t879, .int .i64 t880, .slice Xo13 t881.length ko13, .slice Xo14 t884.length ko14, .slice Xo15 t887.length ko15] HM rfl rfl ?_; clear HM; intro w16 HM; obtain ⟨_,_,_,_,_,_⟩ := bk3 (HM.bx 0 rfl)))
    go_ret
    exact ⟨ER, (MD HM).pick []⟩
   ·have c20b0 : (a0_0 == 4) = false := beq_eq_false_iff_ne.mpr c20
    have c20b1 : (a0_0 != 4) = true := bne_iff_ne.mpr c20
    obtain rfl := Option.some.inj H
    go_wp2_with (first | ((with_reducible refine gN 1 rfl ?_); refine pB 1 31 [.int .i64 a0_0, .int .i64 a0_1, .int .i64 a0_2] HM rfl ?_; clear HM; intro gb871 w2 HM; obtain ⟨_,_,_,_,_,_⟩ := bk3 (HM.bx 0 rfl)) | ((with_reducible refine gC 71 rfl ?_); refine pC (some 12) rfl #[.int .i64 a0_0, .int .i64 a0_1] rfl Try.func71 (spec_RowNew.calls k a0_0 a0_1 t872 t873 t874 true _ A4.out) ?_; rintro e w5 ⟨v875, rfl, hR⟩; refine ⟨_, rfl, ?_⟩; replace HM := HM.call hR; clear hR) | ((with_reducible refine gN 3 rfl ?_); refine pB 3 75 [.int .i64 0, .int .i64 0, .slice none 0 0] HM rfl ?_; clear HM; intro gb878 w6 HM; obtain ⟨Xo7, ko7, rfl⟩ := HM.rdR 1 rfl) | ((with_reducible refine gS 3 rfl ?_); refine pS 2 3 0 [.int .i64 t872, .int .i64 t873, .slice Xo7 t874.length ko7] HM rfl rfl ?_; clear HM; intro w8 HM; obtain ⟨_,_,_,_,_,_⟩ := bk3 (HM.bx 0 rfl)) | ((with_reducible refine gC 72 rfl ?_); refine pC (some 20) rfl #[.int .i64 a0_1, .int .i64 a0_2] rfl Try.func72 (spec_ThreeNew.calls k a0_1 a0_2 t879 t880 t881 t884 t887 t890 _ A10.out) ?_; rintro e w11 ⟨v882, v885, v888, rfl, hR⟩; refine ⟨_, rfl, ?_⟩; replace HM := HM.call hR; clear hR) | ((with_reducible refine gN 5 rfl ?_); refine pB 5 71 [.int .i64 0, .int .i64 0, .slice none 0 0, .slice none 0 0, .slice none 0 0] HM rfl ?_; clear HM; intro gb891 w12 HM; obtain ⟨Xo13, ko13, rfl⟩ := HM.rdR 3 rfl; obtain ⟨Xo14, ko14, rfl⟩ := HM.rdR 4 rfl; obtain ⟨Xo15, ko15, rfl⟩ := HM.rdR 5 rfl) | ((with_reducible refine gS 5 rfl ?_); refine pS 6 5 0 [.int .i64 t879, .int .i64 t880, .slice Xo13 t881.length ko13, .slice Xo14 t884.length ko14, .slice Xo15 t887.length ko15] HM rfl rfl ?_; clear HM; intro w16 HM; obtain ⟨_,_,_,_,_,_⟩ := bk3 (HM.bx 0 rfl)))
    go_ret
    exact ⟨ER, (MD HM).pick []⟩
 ·subst c17
  replace H := IT H; rcases H with ⟨c22, H⟩ | ⟨c22, H⟩
  ·have c22b0 : (a0_0 == 4) = true := beq_iff_eq.mpr c22
   have c22b1 : (a0_0 != 4) = false := bne_eq_false_iff_eq.mpr c22
   clear c22
   obtain rfl := Option.some.inj H
   go_wp2_with (first | ((with_reducible refine gN 1 rfl ?_); refine pB 1 31 [.int .i64 a0_0, .int .i64 a0_1, .int .i64 a0_2] HM rfl ?_; clear HM; intro gb871 w2 HM; obtain ⟨_,_,_,_,_,_⟩ := bk3 (HM.bx 0 rfl)) | ((with_reducible refine gC 71 rfl ?_); refine pC (some 12) rfl #[.int .i64 a0_0, .int .i64 a0_1] rfl Try.func71 (spec_RowNew.calls k a0_0 a0_1 t872 t873 t874 false _ A4.out) ?_; rintro e w5 ⟨v875, rfl, hR⟩; refine ⟨_, rfl, ?_⟩; replace HM := HM.call hR; clear hR) | ((with_reducible refine gN 3 rfl ?_); refine pB 3 75 [.int .i64 0, .int .i64 0, .slice none 0 0] HM rfl ?_; clear HM; intro gb878 w6 HM; obtain ⟨Xo7, ko7, rfl⟩ := HM.rdR 1 rfl) | ((with_reducible refine gS 3 rfl ?_); refine pS 2 3 0 [.int .i64 t872, .int .i64 t873, .slice Xo7 t874.length ko7] HM rfl rfl ?_; clear HM; intro w8 HM; obtain ⟨_,_,_,_,_,_⟩ := bk3 (HM.bx 0 rfl)) | ((with_reducible refine gC 72 rfl ?_); refine pC (some 20) rfl #[.int .i64 a0_1, .int .i64 a0_2] rfl Try.func72 (spec_ThreeNew.calls k a0_1 a0_2 t879 t880 t881 t884 t887 t890 _ A10.out) ?_; rintro e w11 ⟨v882, v885, v888, rfl, hR⟩; refine ⟨_, rfl, ?_⟩; replace HM := HM.call hR; clear hR) | ((with_reducible refine gN 5 rfl ?_); refine pB 5 71 [.int .i64 0, .int .i64 0, .slice none 0 0, .slice none 0 0, .slice none 0 0] HM rfl ?_; clear HM; intro gb891 w12 HM; obtain ⟨Xo13, ko13, rfl⟩ := HM.rdR 3 rfl; obtain ⟨Xo14, ko14, rfl⟩ := HM.rdR 4 rfl; obtain ⟨Xo15, ko15, rfl⟩ := HM.rdR 5 rfl) | ((with_reducible refine gS 5 rfl ?_); refine pS 6 5 0 [.int .i64 t879, .int .i64 t880, .slice Xo13 t881.length ko13, .slice Xo14 t884.length ko14, .slice Xo15 t887.length ko15] HM rfl rfl ?_; clear HM; intro w16 HM; obtain ⟨_,_,_,_,_,_⟩ := bk3 (HM.bx 0 rfl)))
   go_ret
   exact ⟨ER, (MD HM).pick []⟩
  ·have c22b0 : (a0_0 == 4) = false := beq_eq_false_iff_ne.mpr c22
   have c22b1 : (a0_0 != 4) = true := bne_iff_ne.mpr c22
   obtain rfl := Option.some.inj H
   go_wp2_with (first | ((with_reducible refine gN 1 rfl ?_); refine pB 1 31 [.int .i64 a0_0, .int .i64 a0_1, .int .i64 a0_2] HM rfl ?_; clear HM; intro gb871 w2 HM; obtain ⟨_,_,_,_,_,_⟩ := bk3 (HM.bx 0 rfl)) | ((with_reducible refine gC 71 rfl ?_); refine pC (some 12) rfl #[.int .i64 a0_0, .int .i64 a0_1] rfl Try.func71 (spec_RowNew.calls k a0_0 a0_1 t872 t873 t874 false _ A4.out) ?_; rintro e w5 ⟨v875, rfl, hR⟩; refine ⟨_, rfl, ?_⟩; replace HM := HM.call hR; clear hR) | ((with_reducible refine gN 3 rfl ?_); refine pB 3 75 [.int .i64 0, .int .i64 0, .slice none 0 0] HM rfl ?_; clear HM; intro gb878 w6 HM; obtain ⟨Xo7, ko7, rfl⟩ := HM.rdR 1 rfl) | ((with_reducible refine gS 3 rfl ?_); refine pS 2 3 0 [.int .i64 t872, .int .i64 t873, .slice Xo7 t874.length ko7] HM rfl rfl ?_; clear HM; intro w8 HM; obtain ⟨_,_,_,_,_,_⟩ := bk3 (HM.bx 0 rfl)) | ((with_reducible refine gC 72 rfl ?_); refine pC (some 20) rfl #[.int .i64 a0_1, .int .i64 a0_2] rfl Try.func72 (spec_ThreeNew.calls k a0_1 a0_2 t879 t880 t881 t884 t887 t890 _ A10.out) ?_; rintro e w11 ⟨v882, v885, v888, rfl, hR⟩; refine ⟨_, rfl, ?_⟩; replace HM := HM.call hR; clear hR) | ((with_reducible refine gN 5 rfl ?_); refine pB 5 71 [.int .i64 0, .int .i64 0, .slice none 0 0, .slice none 0 0, .slice none 0 0] HM rfl ?_; clear HM; intro gb891 w12 HM; obtain ⟨Xo13, ko13, rfl⟩ := HM.rdR 3 rfl; obtain ⟨Xo14, ko14, rfl⟩ := HM.rdR 4 rfl; obtain ⟨Xo15, ko15, rfl⟩ := HM.rdR 5 rfl) | ((with_reducible refine gS 5 rfl ?_); refine pS 6 5 0 [.int .i64 t879, .int .i64 t880, .slice Xo13 t881.length ko13, .slice Xo14 t884.length ko14, .slice Xo15 t887.length ko15] HM rfl rfl ?_; clear HM; intro w16 HM; obtain ⟨_,_,_,_,_,_⟩ := bk3 (HM.bx 0 rfl)))
   go_ret
   exact ⟨ER, (MD HM).pick []⟩
def spec_l12New.f (k : Nat) (a0_0 : Int) (a0_1 : Int) (a0_2 : Int) : Option (Int × Int × (List (S67)) × (List (S67)) × List Int × Int × Int × (List (S67))) := if a0_0 = 4 then ((spec_ThreeNew.f k a0_1 a0_2).bind fun bt895 => (some (bt895.1, bt895.2.1, bt895.2.2.1, bt895.2.2.2.1, bt895.2.2.2.2.1, 0, 0, ([] : List (S67))))) else ((spec_RowNew.f k a0_0 a0_1).bind fun bt907 => (some (0, 0, ([] : List (S67)), ([] : List (S67)), ([] : List Int), bt907.1, bt907.2.1, bt907.2.2.1)))
theorem spec_l12New.calls (k : Nat) (a0_0 : Int) (a0_1 : Int) (a0_2 : Int) (r1 : Int) (r2 : Int) (r3 : List (S67)) (r4 : List (S67)) (r5 : List Int) (r6 : Int) (r7 : Int) (r8 : List (S67)) (w : World)  (h : spec_l12New.f k a0_0 a0_1 a0_2 = some (r1, r2, r3, r4, r5, r6, r7, r8)) :
  Calls Try.prog 73 #[.agg #[.int .i64 a0_0, .int .i64 a0_1, .int .i64 a0_2]] w fun e w' => ∃ v2_ v3_ v4_ v7_ : Value, e = .returned (.agg #[.int .i64 r1, .int .i64 r2, v2_, v3_, v4_, .int .i64 r6, .int .i64 r7, v7_]) ∧ Mem w [] w' [rowR k67 67 v2_ r3, rowR k67 67 v3_ r4, rowR (Kd.int .i64) 3 v4_ r5, rowR k67 67 v7_ r8] := by
 have hu31 := Try.underlying31
 have hu85 := Try.underlying85
 have hu71 := Try.underlying71
 have hu75 := Try.underlying75
 have HM := Mem.nil w
 have H := h
 clear h
 unfold spec_l12New.f at H
 go_enter Try.func73, Try.ntmps73
 go_upto_if 7 with (first | ((with_reducible refine gN 1 rfl ?_); refine pB 1 31 [.int .i64 a0_0, .int .i64 a0_1, .int .i64 a0_2] HM rfl ?_; clear HM; intro gb892 w2 HM) | ((with_reducible refine gN 2 rfl ?_); refine pB 2 85 [.int .i64 0, .int .i64 0, .slice none 0 0, .slice none 0 0, .slice none 0 0, .int .i64 0, .int .i64 0, .slice none 0 0] HM rfl ?_; clear HM; intro gb893 w3 HM) | ((with_reducible refine gN 3 rfl ?_); refine pB 3 85 [.int .i64 0, .int .i64 0, .slice none 0 0, .slice none 0 0, .slice none 0 0, .int .i64 0, .int .i64 0, .slice none 0 0] HM rfl ?_; clear HM; intro gb894 w4 HM) | ((with_reducible refine gS 3 rfl ?_); refine pS 2 3 0 [.int .i64 0, .int .i64 0, .slice none 0 0, .slice none 0 0, .slice none 0 0, .int .i64 0, .int .i64 0, .slice none 0 0] HM rfl rfl ?_; clear HM; intro w5 HM; obtain ⟨_,_,_,_,_,_⟩ := bk3 (HM.bx 0 rfl)))
 replace HM := nzM HM
 replace H := IT H; rcases H with ⟨c7, H⟩ | ⟨c7, H⟩
 ·obtain ⟨c7b0, c7b1⟩ := BE c7
  clear c7
  first|rw [c7b0]|(simp only [i64_w, i32_w]; rw [c7b0])|skip
  replace H := BN H; obtain ⟨⟨t895, t896, t897, t900, t903, t906⟩, A8, H⟩ := H
  simp only [Option.some.injEq, Prod.mk.injEq] at H
  obtain ⟨rfl, rfl, rfl, rfl, rfl, rfl, rfl, rfl⟩ := H
  go_wp2_with (first | ((with_reducible refine gC 72 rfl ?_); refine pC (some 13) rfl #[.int .i64 a0_1, .int .i64 a0_2] rfl Try.func72 (spec_ThreeNew.calls k a0_1 a0_2 t895 t896 t897 t900 t903 t906 _ A8.out) ?_; rintro e w9 ⟨v898, v901, v904, rfl, hR⟩; refine ⟨_, rfl, ?_⟩; replace HM := HM.call hR; clear hR; obtain ⟨Xo10, ko10, rfl⟩ := HM.rdR 3 rfl; obtain ⟨Xo11, ko11, rfl⟩ := HM.rdR 4 rfl; obtain ⟨Xo12, ko12, rfl⟩ := HM.rdR 5 rfl) | ((with_reducible refine gS 16 rfl ?_); refine pS 2 16 0 [.int .i64 t895, .int .i64 t896, .slice Xo10 t897.length ko10, .slice Xo11 t900.length ko11, .slice Xo12 t903.length ko12] HM rfl rfl ?_; clear HM; intro w13 HM; obtain ⟨_,_,_,_,_,_,_,_,_,_,_,_,_,_,_,_⟩ := bk8 (HM.bx 2 rfl)) | ((with_reducible refine gS 2 rfl ?_); refine pS 1 2 0 [.int .i64 t895, .int .i64 t896, .slice Xo10 t897.length ko10, .slice Xo11 t900.length ko11, .slice Xo12 t903.length ko12, .int .i64 0, .int .i64 0, .slice none 0 0] HM rfl rfl ?_; clear HM; intro w15 HM; replace HM := HM.nl k67 67))
  refine bodyPost_ret (results_cell_row rfl _ _ gb893 85 #[.int .i64 t895, .int .i64 t896, .slice Xo10 t897.length ko10, .slice Xo11 t900.length ko11, .slice Xo12 t903.length ko12, .int .i64 0, .int .i64 0, .slice none 0 0] (0, 0) _ rfl (HM.bx 1 rfl) Try.underlying85 rfl (by kernel_rfl)) rfl ?_
  exact ⟨_, _, _, _, ER, (MD HM).pick [3, 4, 5, 6]⟩
 ·have c7b0 : (a0_0 == 4) = false := beq_eq_false_iff_ne.mpr c7
  have c7b1 : (a0_0 != 4) = true := bne_iff_ne.mpr c7
  first|rw [c7b0]|(simp only [i64_w, i32_w]; rw [c7b0])|skip
  replace H := BN H; obtain ⟨⟨t907, t908, t909, t912⟩, A16, H⟩ := H
  simp only [Option.some.injEq, Prod.mk.injEq] at H
  obtain ⟨rfl, rfl, rfl, rfl, rfl, rfl, rfl, rfl⟩ := H
  go_wp2_with (first | ((with_reducible refine gC 71 rfl ?_); refine pC (some 22) rfl #[.int .i64 a0_0, .int .i64 a0_1] rfl Try.func71 (spec_RowNew.calls k a0_0 a0_1 t907 t908 t909 t912 _ A16.out) ?_; rintro e w17 ⟨v910, rfl, hR⟩; refine ⟨_, rfl, ?_⟩; replace HM := HM.call hR; clear hR; obtain ⟨Xo18, ko18, rfl⟩ := HM.rdR 3 rfl) | ((with_reducible refine gS 25 rfl ?_); refine pS 2 25 5 [.int .i64 t907, .int .i64 t908, .slice Xo18 t909.length ko18] HM rfl rfl ?_; clear HM; intro w19 HM; obtain ⟨_,_,_,_,_,_,_,_,_,_,_,_,_,_,_,_⟩ := bk8 (HM.bx 2 rfl)) | ((with_reducible refine gS 2 rfl ?_); refine pS 1 2 0 [.int .i64 0, .int .i64 0, .slice none 0 0, .slice none 0 0, .slice none 0 0, .int .i64 t907, .int .i64 t908, .slice Xo18 t909.length ko18] HM rfl rfl ?_; clear HM; intro w21 HM; replace HM := HM.nl k67 67; replace HM := HM.nl k67 67; replace HM := HM.nl (Kd.int .i64) 3))
  refine bodyPost_ret (results_cell_row rfl _ _ gb893 85 #[.int .i64 0, .int .i64 0, .slice none 0 0, .slice none 0 0, .slice none 0 0, .int .i64 t907, .int .i64 t908, .slice Xo18 t909.length ko18] (0, 0) _ rfl (HM.bx 1 rfl) Try.underlying85 rfl (by kernel_rfl)) rfl ?_
  exact ⟨_, _, _, _, ER, (MD HM).pick [4, 5, 6, 3]⟩
end Go.Proofs.Ytlokjgngjgbpmaa.G

namespace Go.Proofs.Ytlokjgngjgbpmaa.G
open Go.RowKit Go.Proofs.YtlokjgngjgbpmaaW.PrintWords Go.Proofs.YtlokjgngjgbpmaaW.PrintLast Go.Proofs.YtlokjgngjgbpmaaW.PrintMore Go.Proofs.Ytlokjgngjgbpmaa.Sh
attribute [local go_sem] max2_int min2_int max_two min_two max_three min_three max_four min_four
set_option linter.unusedVariables false
set_option linter.unusedSimpArgs false
def spec_l10More.f (a0 : Int) : Option (Int) := if a0 ≥ 3 then (some 3) else (some (wrap64 (a0 + 1)))
theorem spec_l10More.calls (a0 : Int) (r : Int) (w : World) (h : spec_l10More.f a0 = some r) :
  Calls Try.prog 115 #[.int .i64 a0] w fun e w' => e = .returned (.int .i64 r) ∧ Drawn0 w w' := by
 have H : (if a0 ≥ 3 then (some 3) else (some (wrap64 (a0 + 1)))) = some r := h
 clear h
 by_cases c2 : a0 ≥ 3
 ·rw [if_pos c2] at H
  have c2b0 : decide (3 ≤ a0) = true := decide_eq_true c2
  clear c2
  obtain rfl := Option.some.inj H
  go_enter Try.func115, Try.ntmps115
  go_wp2
  go_ret
  exact ⟨by first | rfl | (simp; done) | (simp [*]; done), DR⟩
 ·rw [if_neg c2] at H
  have c2b0 : decide (3 ≤ a0) = false := decide_eq_false c2
  clear c2
  obtain rfl := Option.some.inj H
  go_enter Try.func115, Try.ntmps115
  go_wp2
  go_ret
  exact ⟨by first | rfl | (simp; done) | (simp [*]; done), DR⟩
end Go.Proofs.Ytlokjgngjgbpmaa.G

namespace Go.Proofs.Ytlokjgngjgbpmaa.G
open Go.RowKit Go.Proofs.YtlokjgngjgbpmaaW.PrintWords Go.Proofs.YtlokjgngjgbpmaaW.PrintLast Go.Proofs.YtlokjgngjgbpmaaW.PrintMore Go.Proofs.Ytlokjgngjgbpmaa.Sh
attribute [local go_sem] max2_int min2_int max_two min_two max_three min_three max_four min_four
set_option linter.unusedVariables false
set_option linter.unusedSimpArgs false
open Go.Proofs.Ytlokjgngjgbpmaa.Mm
mutual
def spec_l10Touch.j0 : Nat → Bool → ByteArray → Int → Int → Int → Int → List (S67) → List (S67) → List Int → ByteArray → ByteArray → Int → Option (Int × Int × (List (S67)) × (List (S67)) × List Int × ByteArray × Bool)
 | 0, _, _, _, _, _, _, _, _, _, _, _, _ => none
 | k + 1, x2, x3, x11, x12, x918000, x918001, x918002, x918003, x918004, x922000, x922001, x922002 => if x12 ≥ 0 then (if 0 ≤ x12 then (if x12 < (x918003.length : Int) then (spec_l10Touch.j1 k x2 x3 x11 x12 x918000 x918001 x918002 x918003 x918004 ((rd_T67 x918003 x12).f0) ((rd_T67 x918003 x12).f1) ((rd_T67 x918003 x12).f2)) else (none)) else (none)) else (spec_l10Touch.j1 k x2 x3 x11 x12 x918000 x918001 x918002 x918003 x918004 x922000 x922001 x922002)
def spec_l10Touch.j1 : Nat → Bool → ByteArray → Int → Int → Int → Int → List (S67) → List (S67) → List Int → ByteArray → ByteArray → Int → Option (Int × Int × (List (S67)) × (List (S67)) × List Int × ByteArray × Bool)
 | 0, _, _, _, _, _, _, _, _, _, _, _, _ => none
 | k + 1, x2, x3, x11, x12, x918000, x918001, x918002, x918003, x918004, x922000, x922001, x922002 => if x11 < 0 then (spec_l10Touch.j2 k x2 x3 x11 x12 (decide (x12 < 0)) x918000 x918001 x918002 x918003 x918004 x922000 x922001 x922002) else (spec_l10Touch.j2 k x2 x3 x11 x12 false x918000 x918001 x918002 x918003 x918004 x922000 x922001 x922002)
def spec_l10Touch.j2 : Nat → Bool → ByteArray → Int → Int → Bool → Int → Int → List (S67) → List (S67) → List Int → ByteArray → ByteArray → Int → Option (Int × Int × (List (S67)) × (List (S67)) × List Int × ByteArray × Bool)
 | 0, _, _, _, _, _, _, _, _, _, _, _, _, _ => none
 | k + 1, x2, x3, x11, x12, x42, x918000, x918001, x918002, x918003, x918004, x922000, x922001, x922002 => if x42 = true then (some (x918000, x918001, x918002, x918003, x918004, (⟨#[]⟩ : ByteArray), false)) else ((spec_l10More.f x922002).bind fun t924 => (if x2 = true then (if x11 ≥ 0 then (if 0 ≤ x11 then (if x11 < (x918002.length : Int) then (some (x918000, x918001, (x918002.set (x11 : Int).toNat (⟨x922000, x3, t924⟩ : S67)), x918003, x918004, x3, true)) else (none)) else (none)) else (if 0 ≤ x12 then (if x12 < (x918003.length : Int) then (some (x918000, x918001, x918002, (x918003.set (x12 : Int).toNat (⟨x922000, x3, t924⟩ : S67)), x918004, x3, true)) else (none)) else (none))) else (if x11 ≥ 0 then (if 0 ≤ x11 then (if x11 < (x918002.length : Int) then (some (x918000, x918001, (x918002.set (x11 : Int).toNat (⟨x922000, x922001, t924⟩ : S67)), x918003, x918004, x922001, true)) else (none)) else (none)) else (if 0 ≤ x12 then (if x12 < (x918003.length : Int) then (some (x918000, x918001, x918002, (x918003.set (x12 : Int).toNat (⟨x922000, x922001, t924⟩ : S67)), x918004, x922001, true)) else (none)) else (none)))))
end
def spec_l10Touch.f (k : Nat) (a0_0 : Int) (a0_1 : Int) (l0_2 : List (S67)) (l0_3 : List (S67)) (l0_4 : List Int) (a1 : ByteArray) (a2 : Bool) (a3 : ByteArray) : Option (Int × Int × (List (S67)) × (List (S67)) × List Int × ByteArray × Bool) := (spec_l10At.f k l0_2 a1).bind fun t919 => ((spec_l10At.f k l0_3 a1).bind fun t920 => (if t919 ≥ 0 then (if 0 ≤ t919 then (if t919 < (l0_2.length : Int) then (spec_l10Touch.j0 k a2 a3 t919 t920 a0_0 a0_1 l0_2 l0_3 l0_4 ((rd_T67 l0_2 t919).f0) ((rd_T67 l0_2 t919).f1) ((rd_T67 l0_2 t919).f2)) else (none)) else (none)) else (spec_l10Touch.j0 k a2 a3 t919 t920 a0_0 a0_1 l0_2 l0_3 l0_4 (⟨#[]⟩ : ByteArray) (⟨#[]⟩ : ByteArray) 0)))
def spec_l10Touch.T16 : Bool × List (List Nat × List Nat) := (true, [([], []), ([], []), ([1], [1]), ([0, 0], [0]), ([2, 3, 0, 1, 2, 3], [2]), ([4, 0, 1, 2, 3, 4], [])])
def spec_l10Touch.B16 : List Nat := [0, 0, 2, 1, 15, 31]
theorem spec_l10Touch.tab16 : rtab .any (opsOf Try.f107 16) = spec_l10Touch.T16 := by kernel_rfl
theorem spec_l10Touch.bits16 : waitsOk spec_l10Touch.T16.2 spec_l10Touch.B16 = true := by kernel_rfl
theorem spec_l10Touch.calls (k : Nat) (a0_0 : Int) (a0_1 : Int) (u9000_ : Value) (l0_2 : List (S67)) (u9001_ : Value) (l0_3 : List (S67)) (u9002_ : Value) (l0_4 : List Int) (a1 : ByteArray) (a2 : Bool) (a3 : ByteArray) (r1 : Int) (r2 : Int) (r3 : List (S67)) (r4 : List (S67)) (r5 : List Int) (r6 : ByteArray) (r7 : Bool) (w0 w : World) (F : List SP)  (hM : Mem w0 F w [rowR k67 67 u9000_ l0_2, rowR k67 67 u9001_ l0_3, rowR (Kd.int .i64) 3 u9002_ l0_4]) (h : spec_l10Touch.f k a0_0 a0_1 l0_2 l0_3 l0_4 a1 a2 a3 = some (r1, r2, r3, r4, r5, r6, r7)) :
  Calls Try.prog 107 #[.agg #[.int .i64 a0_0, .int .i64 a0_1, u9000_, u9001_, u9002_], .string a1, .bool a2, .string a3] w fun e w' => ∃ v2_ v3_ v4_ : Value, e = .returned (.tuple #[.agg #[.int .i64 r1, .int .i64 r2, v2_, v3_, v4_], .string r6, .bool r7]) ∧ Mem w0 F w' [rowR k67 67 v2_ r3, rowR k67 67 v3_ r4, rowR (Kd.int .i64) 3 v4_ r5] := by
 have hu71 := Try.underlying71
 have hu67 := Try.underlying67
 have HM := hM
 clear hM
 have H := h
 clear h
 unfold spec_l10Touch.f at H
 go_enter Try.func107, Try.ntmps107
 replace H := BN H; obtain ⟨t919, A11, H⟩ := H
 replace H := BN H; obtain ⟨t920, A14, H⟩ := H
 have HC18 := Aside0.mk H
 clear H
 obtain ⟨Xo5, ko5, rfl⟩ := HM.rdR 0 rfl
 obtain ⟨Xo6, ko6, rfl⟩ := HM.rdR 1 rfl
 obtain ⟨Xo7, ko7, rfl⟩ := HM.rdR 2 rfl
 go_upto_if 24 with (first | ((with_reducible refine gN 4 rfl ?_); refine pB 4 71 [.int .i64 a0_0, .int .i64 a0_1, .slice Xo5 l0_2.length ko5, .slice Xo6 l0_3.length ko6, .slice Xo7 l0_4.length ko7] HM rfl ?_; clear HM; intro gb917 w8 HM) | ((with_reducible refine gN 8 rfl ?_); refine pB 8 71 [.int .i64 0, .int .i64 0, .slice none 0 0, .slice none 0 0, .slice none 0 0] HM rfl ?_; clear HM; intro gb918 w9 HM; obtain ⟨_,_,_,_,_,_,_,_,_,_⟩ := bk5 (HM.bx 3 rfl)) | ((with_reducible refine gC 104 rfl ?_); refine pC (some 17) rfl #[.slice Xo5 l0_2.length ko5, .string a1] rfl Try.func104 (spec_l10At.calls k _ _ l0_2 a1 t919 _ (HM.CR 0 rfl).2.2 (HM.CR 0 rfl).2.1 A11.out) ?_; rintro e w12 ⟨rfl, hR⟩; refine ⟨_, rfl, ?_⟩; replace HM := HM.call hR; clear hR; obtain ⟨_,_,_,_,_,_,_,_,_,_⟩ := bk5 (HM.bx 3 rfl)) | ((with_reducible refine gC 104 rfl ?_); refine pC (some 21) rfl #[.slice Xo6 l0_3.length ko6, .string a1] rfl Try.func104 (spec_l10At.calls k _ _ l0_3 a1 t920 _ (HM.CR 1 rfl).2.2 (HM.CR 1 rfl).2.1 A14.out) ?_; rintro e w15 ⟨rfl, hR⟩; refine ⟨_, rfl, ?_⟩; replace HM := HM.call hR; clear hR) | ((with_reducible refine gN 13 rfl ?_); refine pB 13 67 [.string (⟨#[]⟩ : ByteArray), .string (⟨#[]⟩ : ByteArray), .int .i64 0] HM rfl ?_; clear HM; intro gb921 w16 HM) | ((with_reducible refine gS 13 rfl ?_); refine pS 5 13 0 [.string (⟨#[]⟩ : ByteArray), .string (⟨#[]⟩ : ByteArray), .int .i64 0] HM rfl rfl ?_; clear HM; intro w17 HM))
 replace HM := nzM HM
 go_cut [] (fun wc => ∃ (kq : Nat) (x922000_17 : ByteArray) (x922001_17 : ByteArray) (x922002_17 : Int), Aside0 (spec_l10Touch.j0 kq a2 a3 t919 t920 a0_0 a0_1 l0_2 l0_3 l0_4 x922000_17 x922001_17 x922002_17 = some (r1, r2, r3, r4, r5, r6, r7)) ∧ Aside0 (kq ≤ k) ∧ Mem w0 F wc [rowR k67 67 (.slice Xo5 l0_2.length ko5) l0_2, rowR k67 67 (.slice Xo6 l0_3.length ko6) l0_3, rowR (Kd.int .i64) 3 (.slice Xo7 l0_4.length ko7) l0_4, box 71 gb917 [.int .i64 a0_0, .int .i64 a0_1, (.slice Xo5 l0_2.length ko5), (.slice Xo6 l0_3.length ko6), (.slice Xo7 l0_4.length ko7)], box 71 gb918 [.int .i64 0, .int .i64 0, .slice none 0 0, .slice none 0 0, .slice none 0 0], box 67 gb921 [.string x922000_17, .string x922001_17, .int .i64 x922002_17]])
 case first =>
  have H := HC18.out
  clear HC18
  go_upto_if 24 with (fail)
  replace H := IT H; rcases H with ⟨c19, H⟩ | ⟨c19, H⟩
  ·have c19b0 : decide (0 ≤ t919) = true := decide_eq_true c19
   clear c19
   first|rw [c19b0]|(simp only [i64_w, i32_w]; rw [c19b0])|skip
   replace H := GD H; obtain ⟨c21, H⟩ := H
   have c21b0 := decide_eq_true c21
   clear c21
   replace H := GD H; obtain ⟨c22, H⟩ := H
   have c22b0 := decide_eq_true c22
   clear c22
   have H' := Aside0.mk H
   clear H
   obtain ⟨_,_,_,_,_,_,_,_,_,_⟩ := bk5 (HM.bx 3 rfl)
   have p922 : 0 ≤ (t919 : Int) := of_decide_eq_true AS
   have q922 : (t919 : Int) < (l0_2.length : Int) := of_decide_eq_true AS
   obtain ⟨ad922, e922, hx922_0, hx922_1, hx922_2⟩ := at_T67 (HM.CR 0 rfl).2.2 t919 p922 q922
   cases e922
   replace p922 := eq_true p922
   replace q922 := eq_true q922
   go_wp2_with (first | ((with_reducible refine gS 13 rfl ?_); refine pS 5 13 0 [.string ((rd_T67 l0_2 t919).f0), .string ((rd_T67 l0_2 t919).f1), .int .i64 ((rd_T67 l0_2 t919).f2)] HM rfl rfl ?_; clear HM; intro w23 HM))
   go_meet
   case rel => exact ⟨_, ((rd_T67 l0_2 t919).f0), ((rd_T67 l0_2 t919).f1), ((rd_T67 l0_2 t919).f2), H', ⟨by first | omega | exact Nat.le_refl _⟩, (MD HM).pick [0, 1, 2, 3, 4, 5]⟩
  ·have c19b0 : decide (0 ≤ t919) = false := decide_eq_false c19
   clear c19
   first|rw [c19b0]|(simp only [i64_w, i32_w]; rw [c19b0])|skip
   have H' := Aside0.mk H
   clear H
   go_wp2
   go_meet
   case rel => exact ⟨_, ((⟨#[]⟩ : ByteArray)), ((⟨#[]⟩ : ByteArray)), (0), H', ⟨by first | omega | exact Nat.le_refl _⟩, (MD HM).pick [0, 1, 2, 3, 4, 5]⟩
 case rest =>
  clear HC18 HM
  obtain ⟨kq, x922000_17, x922001_17, x922002_17, HA, HJ17, HM⟩ := hcut
  cases kq with
  | zero => exact absurd HA.out (by simp [spec_l10Touch.j0])
  | succ kj17 =>
   have H := HA.out
   clear HA
   simp only [spec_l10Touch.j0] at H
   have HC24 := Aside0.mk H
   clear H
   go_upto_if 31 with (fail)
   go_cut [] (fun wc => ∃ (kq : Nat) (x922000_23 : ByteArray) (x922001_23 : ByteArray) (x922002_23 : Int), Aside0 (spec_l10Touch.j1 kq a2 a3 t919 t920 a0_0 a0_1 l0_2 l0_3 l0_4 x922000_23 x922001_23 x922002_23 = some (r1, r2, r3, r4, r5, r6, r7)) ∧ Aside0 (kq ≤ kj17) ∧ Mem w0 F wc [rowR k67 67 (.slice Xo5 l0_2.length ko5) l0_2, rowR k67 67 (.slice Xo6 l0_3.length ko6) l0_3, rowR (Kd.int .i64) 3 (.slice Xo7 l0_4.length ko7) l0_4, box 71 gb917 [.int .i64 a0_0, .int .i64 a0_1, (.slice Xo5 l0_2.length ko5), (.slice Xo6 l0_3.length ko6), (.slice Xo7 l0_4.length ko7)], box 71 gb918 [.int .i64 0, .int .i64 0, .slice none 0 0, .slice none 0 0, .slice none 0 0], box 67 gb921 [.string x922000_23, .string x922001_23, .int .i64 x922002_23]])
   case first =>
    have H := HC24.out
    clear HC24
    go_upto_if 31 with (fail)
    replace H := IT H; rcases H with ⟨c25, H⟩ | ⟨c25, H⟩
    ·have c25b0 : decide (0 ≤ t920) = true := decide_eq_true c25
     clear c25
     first|rw [c25b0]|(simp only [i64_w, i32_w]; rw [c25b0])|skip
     replace H := GD H; obtain ⟨c27, H⟩ := H
     have c27b0 := decide_eq_true c27
     clear c27
     replace H := GD H; obtain ⟨c28, H⟩ := H
     have c28b0 := decide_eq_true c28
     clear c28
     have H' := Aside0.mk H
     clear H
     obtain ⟨_,_,_,_,_,_,_,_,_,_⟩ := bk5 (HM.bx 3 rfl)
     have p923 : 0 ≤ (t920 : Int) := of_decide_eq_true AS
     have q923 : (t920 : Int) < (l0_3.length : Int) := of_decide_eq_true AS
     obtain ⟨ad923, e923, hx923_0, hx923_1, hx923_2⟩ := at_T67 (HM.CR 1 rfl).2.2 t920 p923 q923
     cases e923
     replace p923 := eq_true p923
     replace q923 := eq_true q923
     go_wp2_with (first | ((with_reducible refine gS 13 rfl ?_); refine pS 5 13 0 [.string ((rd_T67 l0_3 t920).f0), .string ((rd_T67 l0_3 t920).f1), .int .i64 ((rd_T67 l0_3 t920).f2)] HM rfl rfl ?_; clear HM; intro w29 HM))
     go_meet
     case rel => exact ⟨_, ((rd_T67 l0_3 t920).f0), ((rd_T67 l0_3 t920).f1), ((rd_T67 l0_3 t920).f2), H', ⟨by have := HJ17.out; first | omega | exact Nat.le_refl _⟩, (MD HM).pick [0, 1, 2, 3, 4, 5]⟩
    ·have c25b0 : decide (0 ≤ t920) = false := decide_eq_false c25
     clear c25
     first|rw [c25b0]|(simp only [i64_w, i32_w]; rw [c25b0])|skip
     have H' := Aside0.mk H
     clear H
     go_wp2
     go_meet
     case rel => exact ⟨_, (x922000_17), (x922001_17), (x922002_17), H', ⟨by have := HJ17.out; first | omega | exact Nat.le_refl _⟩, (MD HM).pick [0, 1, 2, 3, 4, 5]⟩
   case rest =>
    clear HC24 HM
    obtain ⟨kq, x922000_23, x922001_23, x922002_23, HA, HJ23, HM⟩ := hcut
    cases kq with
    | zero => exact absurd HA.out (by simp [spec_l10Touch.j1])
    | succ kj23 =>
     have H := HA.out
     clear HA
     simp only [spec_l10Touch.j1] at H
     have HC30 := Aside0.mk H
     clear H
     go_upto_region 8 with (fail)
     go_cut [42] (fun v42 wc => ∃ (kq : Nat) (x42_29 : Bool), v42 = .bool x42_29 ∧ Aside0 (spec_l10Touch.j2 kq a2 a3 t919 t920 x42_29 a0_0 a0_1 l0_2 l0_3 l0_4 x922000_23 x922001_23 x922002_23 = some (r1, r2, r3, r4, r5, r6, r7)) ∧ Aside0 (kq ≤ kj23) ∧ Mem w0 F wc [rowR k67 67 (.slice Xo5 l0_2.length ko5) l0_2, rowR k67 67 (.slice Xo6 l0_3.length ko6) l0_3, rowR (Kd.int .i64) 3 (.slice Xo7 l0_4.length ko7) l0_4, box 71 gb917 [.int .i64 a0_0, .int .i64 a0_1, (.slice Xo5 l0_2.length ko5), (.slice Xo6 l0_3.length ko6), (.slice Xo7 l0_4.length ko7)], box 71 gb918 [.int .i64 0, .int .i64 0, .slice none 0 0, .slice none 0 0, .slice none 0 0], box 67 gb921 [.string x922000_23, .string x922001_23, .int .i64 x922002_23]])
     case first =>
      have H := HC30.out
      clear HC30
      replace H := IT H; rcases H with ⟨c31, H⟩ | ⟨c31, H⟩
      ·have c31b0 := decide_eq_true c31
       clear c31
       have H' := Aside0.mk H
       clear H
       go_wp2
       go_meet
       case rel => exact ⟨_, (decide (t920 < 0)), RS, H', ⟨by have := HJ17.out; have := HJ23.out; first | omega | exact Nat.le_refl _⟩, (MD HM).pick [0, 1, 2, 3, 4, 5]⟩
      ·have c31b0 := decide_eq_false c31
       clear c31
       have H' := Aside0.mk H
       clear H
       go_wp2
       go_meet
       case rel => exact ⟨_, (false), RS, H', ⟨by have := HJ17.out; have := HJ23.out; first | omega | exact Nat.le_refl _⟩, (MD HM).pick [0, 1, 2, 3, 4, 5]⟩
     case rest =>
      clear HC30 HM
      obtain ⟨kq, x42_29, rfl, HA, HJ29, HM⟩ := hcut
      cases kq with
      | zero => exact absurd HA.out (by simp [spec_l10Touch.j2])
      | succ kj29 =>
       have H := HA.out
       clear HA
       simp only [spec_l10Touch.j2] at H
       go_upto_if 42 with (fail)
       replace H := IB H
       rcases H with ⟨c32, H⟩ | ⟨c32, H⟩
       ·subst c32
        simp only [Option.some.injEq, Prod.mk.injEq] at H
        obtain ⟨rfl, rfl, rfl, rfl, rfl, rfl, rfl⟩ := H
        obtain ⟨_,_,_,_,_,_,_,_,_,_⟩ := bk5 (HM.bx 3 rfl)
        go_wp2_with (first | ((with_reducible refine gS 8 rfl ?_); refine pS 4 8 0 [.int .i64 a0_0, .int .i64 a0_1, .slice Xo5 l0_2.length ko5, .slice Xo6 l0_3.length ko6, .slice Xo7 l0_4.length ko7] HM rfl rfl ?_; clear HM; intro w34 HM))
        refine bodyPost_ret (results_ctt rfl _ _ gb918 71 #[.int .i64 a0_0, .int .i64 a0_1, .slice Xo5 l0_2.length ko5, .slice Xo6 l0_3.length ko6, .slice Xo7 l0_4.length ko7] (0, 0) _ rfl (HM.bx 4 rfl) Try.underlying71 rfl (by kernel_rfl)) rfl ?_
        exact ⟨_, _, _, ER, (MD HM).pick [0, 1, 2]⟩
       ·subst c32
        replace H := BN H; obtain ⟨t924, A36, H⟩ := H
        obtain ⟨_,_,_,_,_,_⟩ := bk3 (HM.bx 5 rfl)
        go_upto_if 48 with (first | ((with_reducible refine gC 115 rfl ?_); refine pC (some 46) rfl #[.int .i64 x922002_23] rfl Try.func115 (spec_l10More.calls x922002_23 t924 _ A36.out) ?_; rintro e w37 ⟨rfl, hd⟩; refine ⟨_, rfl, ?_⟩; replace HM := HM.drawn hd; clear hd) | ((with_reducible refine gS 47 rfl ?_); refine pS 5 47 2 [.int .i64 t924] HM rfl rfl ?_; clear HM; intro w38 HM))
        replace H := IB H
        rcases H with ⟨c39, H⟩ | ⟨c39, H⟩
        ·subst c39
         go_upto_if 52 with (first | ((with_reducible refine gS 50 rfl ?_); refine pS 5 50 1 [.string a3] HM rfl rfl ?_; clear HM; intro w40 HM))
         replace H := IT H; rcases H with ⟨c41, H⟩ | ⟨c41, H⟩
         ·have c41b0 : decide (0 ≤ t919) = true := decide_eq_true c41
          clear c41
          first|rw [c41b0]|(simp only [i64_w, i32_w]; rw [c41b0])|skip
          replace H := GD H; obtain ⟨c44, H⟩ := H
          have c44b0 := decide_eq_true c44
          clear c44
          replace H := GD H; obtain ⟨c45, H⟩ := H
          have c45b0 := decide_eq_true c45
          clear c45
          obtain ⟨_,_,_,_,_,_,_,_,_,_⟩ := bk5 (HM.bx 3 rfl)
          obtain ⟨_,_,_,_,_,_⟩ := bk3 (HM.bx 5 rfl)
          have p46 : 0 ≤ (t919 : Int) := of_decide_eq_true AS
          have q46 : (t919 : Int) < ((l0_2.length : Int) : Int) := of_decide_eq_true AS
          obtain ⟨go46, ef46⟩ := HM.form 0 rfl (by have h_ := (HM.CR 0 rfl).1; omega)
          subst ef46
          obtain ⟨hx46_0, hx46_1, hx46_2, hf46_0, hf46_1, hf46_2⟩ := HM.el3 0 rfl z67 (t919 : Int) p46 (by have h_ := (HM.CR 0 rfl).1; omega) (.string ((rd_T67 l0_2 t919).f0)) (.string ((rd_T67 l0_2 t919).f1)) (.int .i64 ((rd_T67 l0_2 t919).f2)) (fun _ _ h => k67_openM h)
          replace p46 := eq_true p46
          replace q46 := eq_true q46
          try go_wp2_with (first | ((with_reducible refine gS 57 rfl ?_); refine pPR 0 57 (t919 : Int) 0 [.string x922000_23, .string a3, .int .i64 t924] k67 67 l0_2 (⟨x922000_23, a3, t924⟩ : S67) z67 [.string ((rd_T67 l0_2 t919).f0), .string ((rd_T67 l0_2 t919).f1), .int .i64 ((rd_T67 l0_2 t919).f2)] HM rfl rfl (of_decide_eq_true AS) (by have h_ : (t919 : Int) < ((l0_2.length : Int) : Int) := of_decide_eq_true AS; have e_ := (HM.CR 0 rfl).1; omega) (fun _ _ h => k67_openM h) (k67_mkM _ _ _ (⟨x922000_23, a3, t924⟩ : S67)) ?_; clear HM; intro w47 HM))
          refine RGN 6 [0, 1, 2, 3, 4, 5] (fun a0 b a w' => a = putSel a0 b [(0, 63, .agg #[.int .i64 a0_0, .int .i64 a0_1, .slice (some ⟨go46, 0, none⟩) l0_2.length ko5, .slice Xo6 l0_3.length ko6, .slice Xo7 l0_4.length ko7]), (1, 64, .pointer (some ⟨gb921, 1, none⟩)), (2, 65, .string a3), (4, 9, .string a3), (5, 10, .bool true)] ∧ Mem w0 F w' [rowR k67 67 (.slice (some ⟨go46, 0, none⟩) l0_2.length ko5) (l0_2.set (t919 : Int).toNat (⟨x922000_23, a3, t924⟩ : S67)), rowR k67 67 (.slice Xo6 l0_3.length ko6) l0_3, rowR (Kd.int .i64) 3 (.slice Xo7 l0_4.length ko7) l0_4, box 71 gb917 [.int .i64 a0_0, .int .i64 a0_1, .slice (some ⟨go46, 0, none⟩) l0_2.length ko5, .slice Xo6 l0_3.length ko6, .slice Xo7 l0_4.length ko7], sel (b 3) (box 71 gb918 [.int .i64 a0_0, .int .i64 a0_1, .slice (some ⟨go46, 0, none⟩) l0_2.length ko5, .slice Xo6 l0_3.length ko6, .slice Xo7 l0_4.length ko7]) (box 71 gb918 [.int .i64 0, .int .i64 0, .slice none 0 0, .slice none 0 0, .slice none 0 0]), box 67 gb921 [.string x922000_23, .string a3, .int .i64 t924]]) spec_l10Touch.tab16 spec_l10Touch.bits16 ?_ ?_ ?_
          ·exact ⟨PS0' rfl _, (HM.drew).pick [0, 1, 2, 3, 4, 5]⟩
          ·clear HM
           refine SY ?_ ?_
           ·intro b a w ha HM hb hon hoff K hK
            obtain ⟨_,_,_,_,_,_,_,_,_,_⟩ := bk5 (HM.bx 3 rfl)
            have e4 := PG ha 4
            exact VL (.agg #[.int .i64 a0_0, .int .i64 a0_1, .slice (some ⟨go46, 0, none⟩) l0_2.length ko5, .slice Xo6 l0_3.length ko6, .slice Xo7 l0_4.length ko7]) (hK.out _ _ ⟨PUT ha 0 hb, HM⟩)
           refine SY ?_ ?_
           ·intro b a w ha HM hb hon hoff K hK
            have e13 := PG ha 13
            exact VL (.pointer (some ⟨gb921, 1, none⟩)) (hK.out _ _ ⟨PUT ha 1 hb, HM⟩)
           refine SY ?_ ?_
           ·intro b a w ha HM hb hon hoff K hK
            obtain ⟨_,_,_,_,_,_⟩ := bk3 (HM.bx 5 rfl)
            have e64 := PE ha 1 hon
            exact VL (.string a3) (hK.out _ _ ⟨PUT ha 2 hb, HM⟩)
           refine SY ?_ ?_
           ·intro b a w ha HM hb hon hoff K hK
            replace HM := HM.sF 4 rfl hb
            have e8 := PG ha 8
            have e63 := PE ha 0 hon
            refine ST (eS 4 8 0 [.int .i64 a0_0, .int .i64 a0_1, .slice (some ⟨go46, 0, none⟩) l0_2.length ko5, .slice Xo6 l0_3.length ko6, .slice Xo7 l0_4.length ko7] HM rfl rfl ?_ (hp := (eval_of e8)) (hx := (by rw [eval_of e63]; rfl)))
            clear HM
            intro w53 HM
            exact hK.out _ _ ⟨PUS ha, (HM).pick [0, 1, 2, 3, 4, 5]⟩
           refine SY ?_ ?_
           ·intro b a w ha HM hb hon hoff K hK
            have e65 := PE ha 2 hon
            exact VL (.string a3) (hK.out _ _ ⟨PUT ha 3 hb, HM⟩)
           refine SY ?_ ?_
           ·intro b a w ha HM hb hon hoff K hK
            exact VL (.bool true) (hK.out _ _ ⟨PUT ha 4 hb, HM⟩)
           exact steps_nil
          rintro _ w54 ⟨rfl, HM⟩
          replace HM := HM.sT 4 rfl rfl
          simp only [putSel, if_true, Act.put, List.setIfInBounds_toArray, List.set_cons_zero, List.set_cons_succ, gt_iff_lt, ge_iff_le]
          simp only [Option.some.injEq, Prod.mk.injEq] at H
          obtain ⟨rfl, rfl, rfl, rfl, rfl, rfl, rfl⟩ := H
          go_wp2
          refine bodyPost_ret (results_ctt rfl _ _ gb918 71 #[.int .i64 a0_0, .int .i64 a0_1, .slice (some ⟨go46, 0, none⟩) l0_2.length ko5, .slice Xo6 l0_3.length ko6, .slice Xo7 l0_4.length ko7] (0, 0) _ rfl (HM.bx 4 rfl) Try.underlying71 rfl (by kernel_rfl)) rfl ?_
          exact ⟨_, _, _, ER, (MD HM).pick [0, 1, 2]⟩
         ·have c41b0 : decide (0 ≤ t919) = false := decide_eq_false c41
          clear c41
          first|rw [c41b0]|(simp only [i64_w, i32_w]; rw [c41b0])|skip
          replace H := GD H; obtain ⟨c57, H⟩ := H
          have c57b0 := decide_eq_true c57
          clear c57
          replace H := GD H; obtain ⟨c58, H⟩ := H
          have c58b0 := decide_eq_true c58
          clear c58
          obtain ⟨_,_,_,_,_,_,_,_,_,_⟩ := bk5 (HM.bx 3 rfl)
          obtain ⟨_,_,_,_,_,_⟩ := bk3 (HM.bx 5 rfl)
          have p59 : 0 ≤ (t920 : Int) := of_decide_eq_true AS
          have q59 : (t920 : Int) < ((l0_3.length : Int) : Int) := of_decide_eq_true AS
          obtain ⟨go59, ef59⟩ := HM.form 1 rfl (by have h_ := (HM.CR 1 rfl).1; omega)
          subst ef59
          obtain ⟨hx59_0, hx59_1, hx59_2, hf59_0, hf59_1, hf59_2⟩ := HM.el3 1 rfl z67 (t920 : Int) p59 (by have h_ := (HM.CR 1 rfl).1; omega) (.string ((rd_T67 l0_3 t920).f0)) (.string ((rd_T67 l0_3 t920).f1)) (.int .i64 ((rd_T67 l0_3 t920).f2)) (fun _ _ h => k67_openM h)
          replace p59 := eq_true p59
          replace q59 := eq_true q59
          try go_wp2_with (first | ((with_reducible refine gS 62 rfl ?_); refine pPR 1 62 (t920 : Int) 0 [.string x922000_23, .string a3, .int .i64 t924] k67 67 l0_3 (⟨x922000_23, a3, t924⟩ : S67) z67 [.string ((rd_T67 l0_3 t920).f0), .string ((rd_T67 l0_3 t920).f1), .int .i64 ((rd_T67 l0_3 t920).f2)] HM rfl rfl (of_decide_eq_true AS) (by have h_ : (t920 : Int) < ((l0_3.length : Int) : Int) := of_decide_eq_true AS; have e_ := (HM.CR 1 rfl).1; omega) (fun _ _ h => k67_openM h) (k67_mkM _ _ _ (⟨x922000_23, a3, t924⟩ : S67)) ?_; clear HM; intro w60 HM))
          refine RGN 6 [0, 1, 2, 3, 4, 5] (fun a0 b a w' => a = putSel a0 b [(0, 63, .agg #[.int .i64 a0_0, .int .i64 a0_1, .slice Xo5 l0_2.length ko5, .slice (some ⟨go59, 0, none⟩) l0_3.length ko6, .slice Xo7 l0_4.length ko7]), (1, 64, .pointer (some ⟨gb921, 1, none⟩)), (2, 65, .string a3), (4, 9, .string a3), (5, 10, .bool true)] ∧ Mem w0 F w' [rowR k67 67 (.slice Xo5 l0_2.length ko5) l0_2, rowR k67 67 (.slice (some ⟨go59, 0, none⟩) l0_3.length ko6) (l0_3.set (t920 : Int).toNat (⟨x922000_23, a3, t924⟩ : S67)), rowR (Kd.int .i64) 3 (.slice Xo7 l0_4.length ko7) l0_4, box 71 gb917 [.int .i64 a0_0, .int .i64 a0_1, .slice Xo5 l0_2.length ko5, .slice (some ⟨go59, 0, none⟩) l0_3.length ko6, .slice Xo7 l0_4.length ko7], sel (b 3) (box 71 gb918 [.int .i64 a0_0, .int .i64 a0_1, .slice Xo5 l0_2.length ko5, .slice (some ⟨go59, 0, none⟩) l0_3.length ko6, .slice Xo7 l0_4.length ko7]) (box 71 gb918 [.int .i64 0, .int .i64 0, .slice none 0 0, .slice none 0 0, .slice none 0 0]), box 67 gb921 [.string x922000_23, .string a3, .int .i64 t924]]) spec_l10Touch.tab16 spec_l10Touch.bits16 ?_ ?_ ?_
          ·exact ⟨PS0' rfl _, (HM.drew).pick [0, 1, 2, 3, 4, 5]⟩
          ·clear HM
           refine SY ?_ ?_
           ·intro b a w ha HM hb hon hoff K hK
            obtain ⟨_,_,_,_,_,_,_,_,_,_⟩ := bk5 (HM.bx 3 rfl)
            have e4 := PG ha 4
            exact VL (.agg #[.int .i64 a0_0, .int .i64 a0_1, .slice Xo5 l0_2.length ko5, .slice (some ⟨go59, 0, none⟩) l0_3.length ko6, .slice Xo7 l0_4.length ko7]) (hK.out _ _ ⟨PUT ha 0 hb, HM⟩)
           refine SY ?_ ?_
           ·intro b a w ha HM hb hon hoff K hK
            have e13 := PG ha 13
            exact VL (.pointer (some ⟨gb921, 1, none⟩)) (hK.out _ _ ⟨PUT ha 1 hb, HM⟩)
           refine SY ?_ ?_
           ·intro b a w ha HM hb hon hoff K hK
            obtain ⟨_,_,_,_,_,_⟩ := bk3 (HM.bx 5 rfl)
            have e64 := PE ha 1 hon
            exact VL (.string a3) (hK.out _ _ ⟨PUT ha 2 hb, HM⟩)
           refine SY ?_ ?_
           ·intro b a w ha HM hb hon hoff K hK
            replace HM := HM.sF 4 rfl hb
            have e8 := PG ha 8
            have e63 := PE ha 0 hon
            refine ST (eS 4 8 0 [.int .i64 a0_0, .int .i64 a0_1, .slice Xo5 l0_2.length ko5, .slice (some ⟨go59, 0, none⟩) l0_3.length ko6, .slice Xo7 l0_4.length ko7] HM rfl rfl ?_ (hp := (eval_of e8)) (hx := (by rw [eval_of e63]; rfl)))
            clear HM
            intro w66 HM
            exact hK.out _ _ ⟨PUS ha, (HM).pick [0, 1, 2, 3, 4, 5]⟩
           refine SY ?_ ?_
           ·intro b a w ha HM hb hon hoff K hK
            have e65 := PE ha 2 hon
            exact VL (.string a3) (hK.out _ _ ⟨PUT ha 3 hb, HM⟩)
           refine SY ?_ ?_
           ·intro b a w ha HM hb hon hoff K hK
            exact VL (.bool true) (hK.out _ _ ⟨PUT ha 4 hb, HM⟩)
           exact steps_nil
          rintro _ w67 ⟨rfl, HM⟩
          replace HM := HM.sT 4 rfl rfl
          simp only [putSel, if_true, Act.put, List.setIfInBounds_toArray, List.set_cons_zero, List.set_cons_succ, gt_iff_lt, ge_iff_le]
          simp only [Option.some.injEq, Prod.mk.injEq] at H
          obtain ⟨rfl, rfl, rfl, rfl, rfl, rfl, rfl⟩ := H
          go_wp2
          refine bodyPost_ret (results_ctt rfl _ _ gb918 71 #[.int .i64 a0_0, .int .i64 a0_1, .slice Xo5 l0_2.length ko5, .slice (some ⟨go59, 0, none⟩) l0_3.length ko6, .slice Xo7 l0_4.length ko7] (0, 0) _ rfl (HM.bx 4 rfl) Try.underlying71 rfl (by kernel_rfl)) rfl ?_
          exact ⟨_, _, _, ER, (MD HM).pick [0, 1, 2]⟩
        ·subst c39
         go_upto_if 52 with (fail)
         replace H := IT H; rcases H with ⟨c68, H⟩ | ⟨c68, H⟩
         ·have c68b0 : decide (0 ≤ t919) = true := decide_eq_true c68
          clear c68
          first|rw [c68b0]|(simp only [i64_w, i32_w]; rw [c68b0])|skip
          replace H := GD H; obtain ⟨c71, H⟩ := H
          have c71b0 := decide_eq_true c71
          clear c71
          replace H := GD H; obtain ⟨c72, H⟩ := H
          have c72b0 := decide_eq_true c72
          clear c72
          obtain ⟨_,_,_,_,_,_,_,_,_,_⟩ := bk5 (HM.bx 3 rfl)
          obtain ⟨_,_,_,_,_,_⟩ := bk3 (HM.bx 5 rfl)
          have p73 : 0 ≤ (t919 : Int) := of_decide_eq_true AS
          have q73 : (t919 : Int) < ((l0_2.length : Int) : Int) := of_decide_eq_true AS
          obtain ⟨go73, ef73⟩ := HM.form 0 rfl (by have h_ := (HM.CR 0 rfl).1; omega)
          subst ef73
          obtain ⟨hx73_0, hx73_1, hx73_2, hf73_0, hf73_1, hf73_2⟩ := HM.el3 0 rfl z67 (t919 : Int) p73 (by have h_ := (HM.CR 0 rfl).1; omega) (.string ((rd_T67 l0_2 t919).f0)) (.string ((rd_T67 l0_2 t919).f1)) (.int .i64 ((rd_T67 l0_2 t919).f2)) (fun _ _ h => k67_openM h)
          replace p73 := eq_true p73
          replace q73 := eq_true q73
          try go_wp2_with (first | ((with_reducible refine gS 57 rfl ?_); refine pPR 0 57 (t919 : Int) 0 [.string x922000_23, .string x922001_23, .int .i64 t924] k67 67 l0_2 (⟨x922000_23, x922001_23, t924⟩ : S67) z67 [.string ((rd_T67 l0_2 t919).f0), .string ((rd_T67 l0_2 t919).f1), .int .i64 ((rd_T67 l0_2 t919).f2)] HM rfl rfl (of_decide_eq_true AS) (by have h_ : (t919 : Int) < ((l0_2.length : Int) : Int) := of_decide_eq_true AS; have e_ := (HM.CR 0 rfl).1; omega) (fun _ _ h => k67_openM h) (k67_mkM _ _ _ (⟨x922000_23, x922001_23, t924⟩ : S67)) ?_; clear HM; intro w74 HM))
          refine RGN 6 [0, 1, 2, 3, 4, 5] (fun a0 b a w' => a = putSel a0 b [(0, 63, .agg #[.int .i64 a0_0, .int .i64 a0_1, .slice (some ⟨go73, 0, none⟩) l0_2.length ko5, .slice Xo6 l0_3.length ko6, .slice Xo7 l0_4.length ko7]), (1, 64, .pointer (some ⟨gb921, 1, none⟩)), (2, 65, .string x922001_23), (4, 9, .string x922001_23), (5, 10, .bool true)] ∧ Mem w0 F w' [rowR k67 67 (.slice (some ⟨go73, 0, none⟩) l0_2.length ko5) (l0_2.set (t919 : Int).toNat (⟨x922000_23, x922001_23, t924⟩ : S67)), rowR k67 67 (.slice Xo6 l0_3.length ko6) l0_3, rowR (Kd.int .i64) 3 (.slice Xo7 l0_4.length ko7) l0_4, box 71 gb917 [.int .i64 a0_0, .int .i64 a0_1, .slice (some ⟨go73, 0, none⟩) l0_2.length ko5, .slice Xo6 l0_3.length ko6, .slice Xo7 l0_4.length ko7], sel (b 3) (box 71 gb918 [.int .i64 a0_0, .int .i64 a0_1, .slice (some ⟨go73, 0, none⟩) l0_2.length ko5, .slice Xo6 l0_3.length ko6, .slice Xo7 l0_4.length ko7]) (box 71 gb918 [.int .i64 0, .int .i64 0, .slice none 0 0, .slice none 0 0, .slice none 0 0]), box 67 gb921 [.string x922000_23, .string x922001_23, .int .i64 t924]]) spec_l10Touch.tab16 spec_l10Touch.bits16 ?_ ?_ ?_
          ·exact ⟨PS0' rfl _, (HM.drew).pick [0, 1, 2, 3, 4, 5]⟩
          ·clear HM
           refine SY ?_ ?_
           ·intro b a w ha HM hb hon hoff K hK
            obtain ⟨_,_,_,_,_,_,_,_,_,_⟩ := bk5 (HM.bx 3 rfl)
            have e4 := PG ha 4
            exact VL (.agg #[.int .i64 a0_0, .int .i64 a0_1, .slice (some ⟨go73, 0, none⟩) l0_2.length ko5, .slice Xo6 l0_3.length ko6, .slice Xo7 l0_4.length ko7]) (hK.out _ _ ⟨PUT ha 0 hb, HM⟩)
           refine SY ?_ ?_
           ·intro b a w ha HM hb hon hoff K hK
            have e13 := PG ha 13
            exact VL (.pointer (some ⟨gb921, 1, none⟩)) (hK.out _ _ ⟨PUT ha 1 hb, HM⟩)
           refine SY ?_ ?_
           ·intro b a w ha HM hb hon hoff K hK
            obtain ⟨_,_,_,_,_,_⟩ := bk3 (HM.bx 5 rfl)
            have e64 := PE ha 1 hon
            exact VL (.string x922001_23) (hK.out _ _ ⟨PUT ha 2 hb, HM⟩)
           refine SY ?_ ?_
           ·intro b a w ha HM hb hon hoff K hK
            replace HM := HM.sF 4 rfl hb
            have e8 := PG ha 8
            have e63 := PE ha 0 hon
            refine ST (eS 4 8 0 [.int .i64 a0_0, .int .i64 a0_1, .slice (some ⟨go73, 0, none⟩) l0_2.length ko5, .slice Xo6 l0_3.length ko6, .slice Xo7 l0_4.length ko7] HM rfl rfl ?_ (hp := (eval_of e8)) (hx := (by rw [eval_of e63]; rfl)))
            clear HM
            intro w80 HM
            exact hK.out _ _ ⟨PUS ha, (HM).pick [0, 1, 2, 3, 4, 5]⟩
           refine SY ?_ ?_
           ·intro b a w ha HM hb hon hoff K hK
            have e65 := PE ha 2 hon
            exact VL (.string x922001_23) (hK.out _ _ ⟨PUT ha 3 hb, HM⟩)
           refine SY ?_ ?_
           ·intro b a w ha HM hb hon hoff K hK
            exact VL (.bool true) (hK.out _ _ ⟨PUT ha 4 hb, HM⟩)
           exact steps_nil
          rintro _ w81 ⟨rfl, HM⟩
          replace HM := HM.sT 4 rfl rfl
          simp only [putSel, if_true, Act.put, List.setIfInBounds_toArray, List.set_cons_zero, List.set_cons_succ, gt_iff_lt, ge_iff_le]
          simp only [Option.some.injEq, Prod.mk.injEq] at H
          obtain ⟨rfl, rfl, rfl, rfl, rfl, rfl, rfl⟩ := H
          go_wp2
          refine bodyPost_ret (results_ctt rfl _ _ gb918 71 #[.int .i64 a0_0, .int .i64 a0_1, .slice (some ⟨go73, 0, none⟩) l0_2.length ko5, .slice Xo6 l0_3.length ko6, .slice Xo7 l0_4.length ko7] (0, 0) _ rfl (HM.bx 4 rfl) Try.underlying71 rfl (by kernel_rfl)) rfl ?_
          exact ⟨_, _, _, ER, (MD HM).pick [0, 1, 2]⟩
         ·have c68b0 : decide (0 ≤ t919) = false := decide_eq_false c68
          clear c68
          first|rw [c68b0]|(simp only [i64_w, i32_w]; rw [c68b0])|skip
          replace H := GD H; obtain ⟨c84, H⟩ := H
          have c84b0 := decide_eq_true c84
          clear c84
          replace H := GD H; obtain ⟨c85, H⟩ := H
          have c85b0 := decide_eq_true c85
          clear c85
          obtain ⟨_,_,_,_,_,_,_,_,_,_⟩ := bk5 (HM.bx 3 rfl)
          obtain ⟨_,_,_,_,_,_⟩ := bk3 (HM.bx 5 rfl)
          have p86 : 0 ≤ (t920 : Int) := of_decide_eq_true AS
          have q86 : (t920 : Int) < ((l0_3.length : Int) : Int) := of_decide_eq_true AS
          obtain ⟨go86, ef86⟩ := HM.form 1 rfl (by have h_ := (HM.CR 1 rfl).1; omega)
          subst ef86
          obtain ⟨hx86_0, hx86_1, hx86_2, hf86_0, hf86_1, hf86_2⟩ := HM.el3 1 rfl z67 (t920 : Int) p86 (by have h_ := (HM.CR 1 rfl).1; omega) (.string ((rd_T67 l0_3 t920).f0)) (.string ((rd_T67 l0_3 t920).f1)) (.int .i64 ((rd_T67 l0_3 t920).f2)) (fun _ _ h => k67_openM h)
          replace p86 := eq_true p86
          replace q86 := eq_true q86
          try go_wp2_with (first | ((with_reducible refine gS 62 rfl ?_); refine pPR 1 62 (t920 : Int) 0 [.string x922000_23, .string x922001_23, .int .i64 t924] k67 67 l0_3 (⟨x922000_23, x922001_23, t924⟩ : S67) z67 [.string ((rd_T67 l0_3 t920).f0), .string ((rd_T67 l0_3 t920).f1), .int .i64 ((rd_T67 l0_3 t920).f2)] HM rfl rfl (of_decide_eq_true AS) (by have h_ : (t920 : Int) < ((l0_3.length : Int) : Int) := of_decide_eq_true AS; have e_ := (HM.CR 1 rfl).1; omega) (fun _ _ h => k67_openM h) (k67_mkM _ _ _ (⟨x922000_23, x922001_23, t924⟩ : S67)) ?_; clear HM; intro w87 HM))
          refine RGN 6 [0, 1, 2, 3, 4, 5] (fun a0 b a w' => a = putSel a0 b [(0, 63, .agg #[.int .i64 a0_0, .int .i64 a0_1, .slice Xo5 l0_2.length ko5, .slice (some ⟨go86, 0, none⟩) l0_3.length ko6, .slice Xo7 l0_4.length ko7]), (1, 64, .pointer (some ⟨gb921, 1, none⟩)), (2, 65, .string x922001_23), (4, 9, .string x922001_23), (5, 10, .bool true)] ∧ Mem w0 F w' [rowR k67 67 (.slice Xo5 l0_2.length ko5) l0_2, rowR k67 67 (.slice (some ⟨go86, 0, none⟩) l0_3.length ko6) (l0_3.set (t920 : Int).toNat (⟨x922000_23, x922001_23, t924⟩ : S67)), rowR (Kd.int .i64) 3 (.slice Xo7 l0_4.length ko7) l0_4, box 71 gb917 [.int .i64 a0_0, .int .i64 a0_1, .slice Xo5 l0_2.length ko5, .slice (some ⟨go86, 0, none⟩) l0_3.length ko6, .slice Xo7 l0_4.length ko7], sel (b 3) (box 71 gb918 [.int .i64 a0_0, .int .i64 a0_1, .slice Xo5 l0_2.length ko5, .slice (some ⟨go86, 0, none⟩) l0_3.length ko6, .slice Xo7 l0_4.length ko7]) (box 71 gb918 [.int .i64 0, .int .i64 0, .slice none 0 0, .slice none 0 0, .slice none 0 0]), box 67 gb921 [.string x922000_23, .string x922001_23, .int .i64 t924]]) spec_l10Touch.tab16 spec_l10Touch.bits16 ?_ ?_ ?_
          ·exact ⟨PS0' rfl _, (HM.drew).pick [0, 1, 2, 3, 4, 5]⟩
          ·clear HM
           refine SY ?_ ?_
           ·intro b a w ha HM hb hon hoff K hK
            obtain ⟨_,_,_,_,_,_,_,_,_,_⟩ := bk5 (HM.bx 3 rfl)
            have e4 := PG ha 4
            exact VL (.agg #[.int .i64 a0_0, .int .i64 a0_1, .slice Xo5 l0_2.length ko5, .slice (some ⟨go86, 0, none⟩) l0_3.length ko6, .slice Xo7 l0_4.length ko7]) (hK.out _ _ ⟨PUT ha 0 hb, HM⟩)
           refine SY ?_ ?_
           ·intro b a w ha HM hb hon hoff K hK
            have e13 := PG ha 13
            exact VL (.pointer (some ⟨gb921, 1, none⟩)) (hK.out _ _ ⟨PUT ha 1 hb, HM⟩)
           refine SY ?_ ?_
           ·intro b a w ha HM hb hon hoff K hK
            obtain ⟨_,_,_,_,_,_⟩ := bk3 (HM.bx 5 rfl)
            have e64 := PE ha 1 hon
            exact VL (.string x922001_23) (hK.out _ _ ⟨PUT ha 2 hb, HM⟩)
           refine SY ?_ ?_
           ·intro b a w ha HM hb hon hoff K hK
            replace HM := HM.sF 4 rfl hb
            have e8 := PG ha 8
            have e63 := PE ha 0 hon
            refine ST (eS 4 8 0 [.int .i64 a0_0, .int .i64 a0_1, .slice Xo5 l0_2.length ko5, .slice (some ⟨go86, 0, none⟩) l0_3.length ko6, .slice Xo7 l0_4.length ko7] HM rfl rfl ?_ (hp := (eval_of e8)) (hx := (by rw [eval_of e63]; rfl)))
            clear HM
            intro w93 HM
            exact hK.out _ _ ⟨PUS ha, (HM).pick [0, 1, 2, 3, 4, 5]⟩
           refine SY ?_ ?_
           ·intro b a w ha HM hb hon hoff K hK
            have e65 := PE ha 2 hon
            exact VL (.string x922001_23) (hK.out _ _ ⟨PUT ha 3 hb, HM⟩)
           refine SY ?_ ?_
           ·intro b a w ha HM hb hon hoff K hK
            exact VL (.bool true) (hK.out _ _ ⟨PUT ha 4 hb, HM⟩)
           exact steps_nil
          rintro _ w94 ⟨rfl, HM⟩
          replace HM := HM.sT 4 rfl rfl
          simp only [putSel, if_true, Act.put, List.setIfInBounds_toArray, List.set_cons_zero, List.set_cons_succ, gt_iff_lt, ge_iff_le]
          simp only [Option.some.injEq, Prod.mk.injEq] at H
          obtain ⟨rfl, rfl, rfl, rfl, rfl, rfl, rfl⟩ := H
          go_wp2
          refine bodyPost_ret (results_ctt rfl _ _ gb918 71 #[.int .i64 a0_0, .int .i64 a0_1, .slice Xo5 l0_2.length ko5, .slice (some ⟨go86, 0, none⟩) l0_3.length ko6, .slice Xo7 l0_4.length ko7] (0, 0) _ rfl (HM.bx 4 rfl) Try.underlying71 rfl (by kernel_rfl)) rfl ?_
          exact ⟨_, _, _, ER, (MD HM).pick [0, 1, 2]⟩
def spec_l10Copy.f (a0_0 : Int) (a0_1 : Int) (l0_2 : List (S67)) (l0_3 : List (S67)) (l0_4 : List Int) : Option (Int × Int × (List (S67)) × (List (S67)) × List Int) := (some (([] : List (S67)) : List (S67))).bind fun y931 => (if y931.length + l0_2.length < 3518437208883 then ((some (([] : List (S67)) : List (S67))).bind fun y937 => (if y937.length + l0_3.length < 3518437208883 then ((some (([] : List Int) : List Int)).bind fun y943 => (if y943.length + l0_4.length < 17592186044416 then (some (a0_0, a0_1, (y931 ++ l0_2), (y937 ++ l0_3), (y943 ++ l0_4))) else (none))) else (none))) else (none))
def spec_l10Copy.T1 : Bool × List (List Nat × List Nat) := (true, [([], []), ([0], [0]), ([], []), ([2], [2]), ([], []), ([], []), ([5], [5]), ([4, 6], [4, 6]), ([], []), ([], []), ([9], [9]), ([8, 10, 7], [8, 10]), ([], []), ([], []), ([13], [13]), ([12, 14, 11], [12, 14]), ([1, 3, 7, 11, 15], [1, 3, 7, 11, 15]), ([16, 15, 0, 1, 2, 3, 4, 5, 6, 7, 8, 9, 10, 11, 12, 13, 14, 15, 16], [16])])
def spec_l10Copy.B1 : List Nat := [0, 1, 0, 4, 0, 0, 32, 112, 0, 0, 512, 2032, 0, 0, 8192, 32752, 65535, 131071]
theorem spec_l10Copy.tab1 : rtab .any (opsOf Try.f108 1) = spec_l10Copy.T1 := by kernel_rfl
theorem spec_l10Copy.bits1 : waitsOk spec_l10Copy.T1.2 spec_l10Copy.B1 = true := by kernel_rfl
theorem spec_l10Copy.calls (a0_0 : Int) (a0_1 : Int) (A0_2 : Option Addr) (c0_2 : Nat) (l0_2 : List (S67)) (A0_3 : Option Addr) (c0_3 : Nat) (l0_3 : List (S67)) (A0_4 : Option Addr) (c0_4 : Nat) (l0_4 : List Int) (r1 : Int) (r2 : Int) (r3 : List (S67)) (r4 : List (S67)) (r5 : List Int) (w : World) (hr0_2 : Kd.C k67 w A0_2 l0_2.length l0_2) (hc0_2 : l0_2.length ≤ c0_2) (hr0_3 : Kd.C k67 w A0_3 l0_3.length l0_3) (hc0_3 : l0_3.length ≤ c0_3) (hr0_4 : Kd.C (Kd.int .i64) w A0_4 l0_4.length l0_4) (hc0_4 : l0_4.length ≤ c0_4) (h : spec_l10Copy.f a0_0 a0_1 l0_2 l0_3 l0_4 = some (r1, r2, r3, r4, r5)) :
  Calls Try.prog 108 #[.agg #[.int .i64 a0_0, .int .i64 a0_1, .slice A0_2 l0_2.length c0_2, .slice A0_3 l0_3.length c0_3, .slice A0_4 l0_4.length c0_4]] w fun e w' => ∃ v2_ v3_ v4_ : Value, e = .returned (.agg #[.int .i64 r1, .int .i64 r2, v2_, v3_, v4_]) ∧ Mem w [] w' [rowR k67 67 v2_ r3, rowR k67 67 v3_ r4, rowR (Kd.int .i64) 3 v4_ r5] := by
 have hu71 := Try.underlying71
 have HR0_2 := Aside0.mk hr0_2
 have HC0_2 := Aside0.mk hc0_2
 clear hr0_2 hc0_2
 have HR0_3 := Aside0.mk hr0_3
 have HC0_3 := Aside0.mk hc0_3
 clear hr0_3 hc0_3
 have HR0_4 := Aside0.mk hr0_4
 have HC0_4 := Aside0.mk hc0_4
 clear hr0_4 hc0_4
 have HM := Mem.nil w
 have H := h
 clear h
 unfold spec_l10Copy.f at H
 go_enter Try.func108, Try.ntmps108
 try go_wp2_with (first | ((with_reducible refine gN 1 rfl ?_); refine pB 1 71 [.int .i64 a0_0, .int .i64 a0_1, .slice A0_2 l0_2.length c0_2, .slice A0_3 l0_3.length c0_3, .slice A0_4 l0_4.length c0_4] HM rfl ?_; clear HM; intro gb929 w2 HM) | ((with_reducible refine gN 2 rfl ?_); refine pB 2 71 [.int .i64 0, .int .i64 0, .slice none 0 0, .slice none 0 0, .slice none 0 0] HM rfl ?_; clear HM; intro gb930 w3 HM))
 replace H := BLt H; obtain ⟨y931, Ny931, H⟩ := H
 replace Ny931 := Aside0.mk Ny931
 replace H := GD H; obtain ⟨c4, H⟩ := H
 have LMc4 := Aside0.mk c4
 clear c4
 replace H := BLt H; obtain ⟨y937, Ny937, H⟩ := H
 replace Ny937 := Aside0.mk Ny937
 replace H := GD H; obtain ⟨c5, H⟩ := H
 have LMc5 := Aside0.mk c5
 clear c5
 replace H := BLt H; obtain ⟨y943, Ny943, H⟩ := H
 replace Ny943 := Aside0.mk Ny943
 replace H := GD H; obtain ⟨c6, H⟩ := H
 have LMc6 := Aside0.mk c6
 clear c6
 refine RGN 18 [0, 1, 2, 3, 4, 5, 6, 7, 8, 9, 10, 11, 12, 13, 14, 15, 16, 17] (fun a0 b a w' => ∃ (v932 : Value) (v935 : Value) (v938 : Value) (v941 : Value) (v944 : Value) (v947 : Value), a = putSel a0 b [(0, 3, .pointer (some ⟨gb929, 0, none⟩)), (1, 4, .int .i64 a0_0), (2, 5, .pointer (some ⟨gb929, 1, none⟩)), (3, 6, .int .i64 a0_1), (4, 7, v932), (5, 8, .pointer (some ⟨gb929, 2, none⟩)), (6, 9, .slice A0_2 l0_2.length c0_2), (7, 10, v935), (8, 11, v938), (9, 12, .pointer (some ⟨gb929, 3, none⟩)), (10, 13, .slice A0_3 l0_3.length c0_3), (11, 14, v941), (12, 15, v944), (13, 16, .pointer (some ⟨gb929, 4, none⟩)), (14, 17, .slice A0_4 l0_4.length c0_4), (15, 18, v947), (16, 19, .agg #[.int .i64 a0_0, .int .i64 a0_1, v935, v941, v947])] ∧ Mem w [] w' [box 71 gb929 [.int .i64 a0_0, .int .i64 a0_1, .slice A0_2 l0_2.length c0_2, .slice A0_3 l0_3.length c0_3, .slice A0_4 l0_4.length c0_4], sel (b 17) (box 71 gb930 [.int .i64 a0_0, .int .i64 a0_1, v935, v941, v947]) (box 71 gb930 [.int .i64 0, .int .i64 0, .slice none 0 0, .slice none 0 0, .slice none 0 0]), sel (b 7) (rowR k67 67 v935 (y931 ++ l0_2)) (sel (b 4) (rowR k67 67 v932 y931) (emp)), sel (b 11) (rowR k67 67 v941 (y937 ++ l0_3)) (sel (b 8) (rowR k67 67 v938 y937) (emp)), sel (b 15) (rowR (Kd.int .i64) 3 v947 (y943 ++ l0_4)) (sel (b 12) (rowR (Kd.int .i64) 3 v944 y943) (emp))]) spec_l10Copy.tab1 spec_l10Copy.bits1 ?_ ?_ ?_
 ·exact ⟨.bool false, .bool false, .bool false, .bool false, .bool false, .bool false, PS0' rfl _, (HM.drew.ems 3).pick [0, 1, 2, 3, 4]⟩
 ·clear HM
  refine SZ ?_ ?_
  ·rintro b a w ⟨v932, v935, v938, v941, v944, v947, ha, HM⟩ hb hon hoff K hK
   replace ha := Aside0.mk ha
   have e1 := PG ha 1
   exact VL (.pointer (some ⟨gb929, 0, none⟩)) (hK.out _ _ ⟨v932, v935, v938, v941, v944, v947, PUT ha 0 hb, HM⟩)
  refine SZ ?_ ?_
  ·rintro b a w ⟨v932, v935, v938, v941, v944, v947, ha, HM⟩ hb hon hoff K hK
   replace ha := Aside0.mk ha
   obtain ⟨_,_,_,_,_,_,_,_,_,_⟩ := bk5 (HM.bx 0 rfl)
   have e3 := PE ha 0 hon
   exact VL (.int .i64 a0_0) (hK.out _ _ ⟨v932, v935, v938, v941, v944, v947, PUT ha 1 hb, HM⟩)
  refine SZ ?_ ?_
  ·rintro b a w ⟨v932, v935, v938, v941, v944, v947, ha, HM⟩ hb hon hoff K hK
   replace ha := Aside0.mk ha
   have e1 := PG ha 1
   exact VL (.pointer (some ⟨gb929, 1, none⟩)) (hK.out _ _ ⟨v932, v935, v938, v941, v944, v947, PUT ha 2 hb, HM⟩)
  refine SZ ?_ ?_
  ·rintro b a w ⟨v932, v935, v938, v941, v944, v947, ha, HM⟩ hb hon hoff K hK
   replace ha := Aside0.mk ha
   obtain ⟨_,_,_,_,_,_,_,_,_,_⟩ := bk5 (HM.bx 0 rfl)
   have e5 := PE ha 2 hon
   exact VL (.int .i64 a0_1) (hK.out _ _ ⟨v932, v935, v938, v941, v944, v947, PUT ha 3 hb, HM⟩)
  refine SZ ?_ ?_
  ·rintro b a w ⟨v932, v935, v938, v941, v944, v947, ha, HM⟩ hb hon hoff K hK
   replace ha := Aside0.mk ha
   refine ST (eL 7 k67 67 ([] : List (S67)) [] (Reps.none _ _) HM rfl ?_)
   clear HM
   intro v932 w27 HM
   replace HM := HM.nm 5 rfl Ny931.out
   exact hK.out _ _ ⟨v932, v935, v938, v941, v944, v947, PUT ha 4 hb, (HM.iF 5 rfl (hoff 7 rfl)).pick [0, 1, 5, 3, 4]⟩
  refine SZ ?_ ?_
  ·rintro b a w ⟨v932, v935, v938, v941, v944, v947, ha, HM⟩ hb hon hoff K hK
   replace ha := Aside0.mk ha
   have e1 := PG ha 1
   exact VL (.pointer (some ⟨gb929, 2, none⟩)) (hK.out _ _ ⟨v932, v935, v938, v941, v944, v947, PUT ha 5 hb, HM⟩)
  refine SZ ?_ ?_
  ·rintro b a w ⟨v932, v935, v938, v941, v944, v947, ha, HM⟩ hb hon hoff K hK
   replace ha := Aside0.mk ha
   obtain ⟨_,_,_,_,_,_,_,_,_,_⟩ := bk5 (HM.bx 0 rfl)
   have e8 := PE ha 5 hon
   exact VL (.slice A0_2 l0_2.length c0_2) (hK.out _ _ ⟨v932, v935, v938, v941, v944, v947, PUT ha 6 hb, HM⟩)
  refine SZ ?_ ?_
  ·rintro b a w ⟨v932, v935, v938, v941, v944, v947, ha, HM⟩ hb hon hoff K hK
   replace ha := Aside0.mk ha
   replace HM := (HM.sF 2 rfl hb).sT 2 rfl (hon 4 rfl)
   have e7 := PE ha 4 hon
   have e9 := PE ha 6 hon
   refine ST (eA 2 (.tmp 7) (.tmp 9) 68 67 k67 v932 y931 l0_2 A0_2 l0_2.length c0_2 HM rfl Try.underlying68 info67 rfl (HM.came HR0_2.out) (by have h_ := LMc4.out; omega) ?_ (ops := #[]) (hw := by rfl) (hs := (eval_of e7)) (hx := (eval_of e9)))
   clear HM
   intro v935 w29 HM
   exact hK.out _ _ ⟨v932, v935, v938, v941, v944, v947, PUT (PCH ha 16 (hoff 16 rfl)) 7 hb, ((HM.sF 1 rfl (hoff 17 rfl)).iF 1 rfl (hoff 17 rfl)).pick [0, 1, 2, 3, 4]⟩
  refine SZ ?_ ?_
  ·rintro b a w ⟨v932, v935, v938, v941, v944, v947, ha, HM⟩ hb hon hoff K hK
   replace ha := Aside0.mk ha
   refine ST (eL 11 k67 67 ([] : List (S67)) [] (Reps.none _ _) HM rfl ?_)
   clear HM
   intro v938 w30 HM
   replace HM := HM.nm 5 rfl Ny937.out
   exact hK.out _ _ ⟨v932, v935, v938, v941, v944, v947, PUT ha 8 hb, (HM.iF 5 rfl (hoff 11 rfl)).pick [0, 1, 2, 5, 4]⟩
  refine SZ ?_ ?_
  ·rintro b a w ⟨v932, v935, v938, v941, v944, v947, ha, HM⟩ hb hon hoff K hK
   replace ha := Aside0.mk ha
   have e1 := PG ha 1
   exact VL (.pointer (some ⟨gb929, 3, none⟩)) (hK.out _ _ ⟨v932, v935, v938, v941, v944, v947, PUT ha 9 hb, HM⟩)
  refine SZ ?_ ?_
  ·rintro b a w ⟨v932, v935, v938, v941, v944, v947, ha, HM⟩ hb hon hoff K hK
   replace ha := Aside0.mk ha
   obtain ⟨_,_,_,_,_,_,_,_,_,_⟩ := bk5 (HM.bx 0 rfl)
   have e12 := PE ha 9 hon
   exact VL (.slice A0_3 l0_3.length c0_3) (hK.out _ _ ⟨v932, v935, v938, v941, v944, v947, PUT ha 10 hb, HM⟩)
  refine SZ ?_ ?_
  ·rintro b a w ⟨v932, v935, v938, v941, v944, v947, ha, HM⟩ hb hon hoff K hK
   replace ha := Aside0.mk ha
   replace HM := (HM.sF 3 rfl hb).sT 3 rfl (hon 8 rfl)
   have e11 := PE ha 8 hon
   have e13 := PE ha 10 hon
   refine ST (eA 3 (.tmp 11) (.tmp 13) 68 67 k67 v938 y937 l0_3 A0_3 l0_3.length c0_3 HM rfl Try.underlying68 info67 rfl (HM.came HR0_3.out) (by have h_ := LMc5.out; omega) ?_ (ops := #[]) (hw := by rfl) (hs := (eval_of e11)) (hx := (eval_of e13)))
   clear HM
   intro v941 w32 HM
   exact hK.out _ _ ⟨v932, v935, v938, v941, v944, v947, PUT (PCH ha 16 (hoff 16 rfl)) 11 hb, ((HM.sF 1 rfl (hoff 17 rfl)).iF 1 rfl (hoff 17 rfl)).pick [0, 1, 2, 3, 4]⟩
  refine SZ ?_ ?_
  ·rintro b a w ⟨v932, v935, v938, v941, v944, v947, ha, HM⟩ hb hon hoff K hK
   replace ha := Aside0.mk ha
   refine ST (eL 15 (Kd.int .i64) 3 ([] : List Int) [] (Reps.none _ _) HM rfl ?_)
   clear HM
   intro v944 w33 HM
   replace HM := HM.nm 5 rfl Ny943.out
   exact hK.out _ _ ⟨v932, v935, v938, v941, v944, v947, PUT ha 12 hb, (HM.iF 5 rfl (hoff 15 rfl)).pick [0, 1, 2, 3, 5]⟩
  refine SZ ?_ ?_
  ·rintro b a w ⟨v932, v935, v938, v941, v944, v947, ha, HM⟩ hb hon hoff K hK
   replace ha := Aside0.mk ha
   have e1 := PG ha 1
   exact VL (.pointer (some ⟨gb929, 4, none⟩)) (hK.out _ _ ⟨v932, v935, v938, v941, v944, v947, PUT ha 13 hb, HM⟩)
  refine SZ ?_ ?_
  ·rintro b a w ⟨v932, v935, v938, v941, v944, v947, ha, HM⟩ hb hon hoff K hK
   replace ha := Aside0.mk ha
   obtain ⟨_,_,_,_,_,_,_,_,_,_⟩ := bk5 (HM.bx 0 rfl)
   have e16 := PE ha 13 hon
   exact VL (.slice A0_4 l0_4.length c0_4) (hK.out _ _ ⟨v932, v935, v938, v941, v944, v947, PUT ha 14 hb, HM⟩)
  refine SZ ?_ ?_
  ·rintro b a w ⟨v932, v935, v938, v941, v944, v947, ha, HM⟩ hb hon hoff K hK
   replace ha := Aside0.mk ha
   replace HM := (HM.sF 4 rfl hb).sT 4 rfl (hon 12 rfl)
   have e15 := PE ha 12 hon
   have e17 := PE ha 14 hon
   refine ST (eA 4 (.tmp 15) (.tmp 17) 69 3 (Kd.int .i64) v944 y943 l0_4 A0_4 l0_4.length c0_4 HM rfl Try.underlying69 info3 rfl (HM.came HR0_4.out) (by have h_ := LMc6.out; omega) ?_ (ops := #[]) (hw := by rfl) (hs := (eval_of e15)) (hx := (eval_of e17)))
   clear HM
   intro v947 w35 HM
   exact hK.out _ _ ⟨v932, v935, v938, v941, v944, v947, PUT (PCH ha 16 (hoff 16 rfl)) 15 hb, ((HM.sF 1 rfl (hoff 17 rfl)).iF 1 rfl (hoff 17 rfl)).pick [0, 1, 2, 3, 4]⟩
  refine SZ ?_ ?_
  ·rintro b a w ⟨v932, v935, v938, v941, v944, v947, ha, HM⟩ hb hon hoff K hK
   replace ha := Aside0.mk ha
   have HZ := HM
   replace HM := HM.sT 2 rfl (hon 7 rfl)
   replace HM := HM.sT 3 rfl (hon 11 rfl)
   replace HM := HM.sT 4 rfl (hon 15 rfl)
   obtain ⟨Xo36, ko36, rfl⟩ := HM.rdR 4 rfl
   obtain ⟨Xo37, ko37, rfl⟩ := HM.rdR 3 rfl
   obtain ⟨Xo38, ko38, rfl⟩ := HM.rdR 2 rfl
   have e4 := PE ha 1 hon
   have e6 := PE ha 3 hon
   have e10 := PE ha 7 hon
   have e14 := PE ha 11 hon
   have e18 := PE ha 15 hon
   exact VL (.agg #[.int .i64 a0_0, .int .i64 a0_1, .slice Xo38 (y931 ++ l0_2).length ko38, .slice Xo37 (y937 ++ l0_3).length ko37, .slice Xo36 (y943 ++ l0_4).length ko36]) (hK.out _ _ ⟨v932, .slice Xo38 (y931 ++ l0_2).length ko38, v938, .slice Xo37 (y937 ++ l0_3).length ko37, v944, .slice Xo36 (y943 ++ l0_4).length ko36, PUT ha 16 hb, HZ⟩)
  refine SZ ?_ ?_
  ·rintro b a w ⟨v932, v935, v938, v941, v944, v947, ha, HM⟩ hb hon hoff K hK
   replace ha := Aside0.mk ha
   replace HM := HM.sF 1 rfl hb
   replace HM := HM.sT 2 rfl (hon 7 rfl)
   replace HM := HM.sT 3 rfl (hon 11 rfl)
   replace HM := HM.sT 4 rfl (hon 15 rfl)
   obtain ⟨Xo39, ko39, rfl⟩ := HM.rdR 2 rfl
   obtain ⟨Xo40, ko40, rfl⟩ := HM.rdR 3 rfl
   obtain ⟨Xo41, ko41, rfl⟩ := HM.rdR 4 rfl
   have e2 := PG ha 2
   have e19 := PE ha 16 hon
   refine ST (eS 1 2 0 [.int .i64 a0_0, .int .i64 a0_1, .slice Xo39 (y931 ++ l0_2).length ko39, .slice Xo40 (y937 ++ l0_3).length ko40, .slice Xo41 (y943 ++ l0_4).length ko41] HM rfl rfl ?_ (hp := (eval_of e2)) (hx := (by rw [eval_of e19]; rfl)))
   clear HM
   intro w42 HM
   exact hK.out _ _ ⟨v932, .slice Xo39 (y931 ++ l0_2).length ko39, v938, .slice Xo40 (y937 ++ l0_3).length ko40, v944, .slice Xo41 (y943 ++ l0_4).length ko41, PUS ha, (((HM.iT 2 rfl (hon 7 rfl)).iT 3 rfl (hon 11 rfl)).iT 4 rfl (hon 15 rfl)).pick [0, 1, 2, 3, 4]⟩
  exact steps_nil
 rintro _ w43 ⟨v932, v935, v938, v941, v944, v947, rfl, HM⟩
 replace HM := HM.sT 1 rfl rfl
 replace HM := HM.sT 2 rfl rfl
 replace HM := HM.sT 3 rfl rfl
 replace HM := HM.sT 4 rfl rfl
 simp only [putSel, if_true, Act.put, List.setIfInBounds_toArray, List.set_cons_zero, List.set_cons_succ, gt_iff_lt, ge_iff_le]
 simp only [Option.some.injEq, Prod.mk.injEq] at H
 obtain ⟨rfl, rfl, rfl, rfl, rfl⟩ := H
 go_wp2
 refine bodyPost_ret (results_cell_row rfl _ _ gb930 71 #[.int .i64 a0_0, .int .i64 a0_1, v935, v941, v947] (0, 0) _ rfl (HM.bx 1 rfl) Try.underlying71 rfl (by kernel_rfl)) rfl ?_
 exact ⟨_, _, _, ER, (MD HM).pick [2, 3, 4]⟩
def spec_Get.f (k : Nat) (a0_0 : Int) (a0_1 : Int) (l0_2 : List (S67)) (l0_3 : List (S67)) (l0_4 : List Int) (a1 : ByteArray) : Option (Int × Int × (List (S67)) × (List (S67)) × List Int × ByteArray × Bool) := (spec_ThreeOk.f k a0_0 a0_1 l0_2 l0_3 l0_4).bind fun t951 => (if t951 = true then ((spec_l10Copy.f a0_0 a0_1 l0_2 l0_3 l0_4).bind fun bt952 => ((spec_l10Touch.f k bt952.1 bt952.2.1 bt952.2.2.1 bt952.2.2.2.1 bt952.2.2.2.2 a1 false (⟨#[]⟩ : ByteArray)).bind fun bt963 => (some (bt963.1, bt963.2.1, bt963.2.2.1, bt963.2.2.2.1, bt963.2.2.2.2.1, bt963.2.2.2.2.2.1, bt963.2.2.2.2.2.2)))) else (some (0, 0, ([] : List (S67)), ([] : List (S67)), ([] : List Int), (⟨#[]⟩ : ByteArray), false)))
theorem spec_Get.calls (k : Nat) (a0_0 : Int) (a0_1 : Int) (A0_2 : Option Addr) (c0_2 : Nat) (l0_2 : List (S67)) (A0_3 : Option Addr) (c0_3 : Nat) (l0_3 : List (S67)) (A0_4 : Option Addr) (c0_4 : Nat) (l0_4 : List Int) (a1 : ByteArray) (r1 : Int) (r2 : Int) (r3 : List (S67)) (r4 : List (S67)) (r5 : List Int) (r6 : ByteArray) (r7 : Bool) (w : World) (hr0_2 : Kd.C k67 w A0_2 l0_2.length l0_2) (hc0_2 : l0_2.length ≤ c0_2) (hr0_3 : Kd.C k67 w A0_3 l0_3.length l0_3) (hc0_3 : l0_3.length ≤ c0_3) (hr0_4 : Kd.C (Kd.int .i64) w A0_4 l0_4.length l0_4) (hc0_4 : l0_4.length ≤ c0_4) (h : spec_Get.f k a0_0 a0_1 l0_2 l0_3 l0_4 a1 = some (r1, r2, r3, r4, r5, r6, r7)) :
  Calls Try.prog 92 #[.agg #[.int .i64 a0_0, .int .i64 a0_1, .slice A0_2 l0_2.length c0_2, .slice A0_3 l0_3.length c0_3, .slice A0_4 l0_4.length c0_4], .string a1] w fun e w' => ∃ v2_ v3_ v4_ : Value, e = .returned (.tuple #[.agg #[.int .i64 r1, .int .i64 r2, v2_, v3_, v4_], .string r6, .bool r7]) ∧ Mem w [] w' [rowR k67 67 v2_ r3, rowR k67 67 v3_ r4, rowR (Kd.int .i64) 3 v4_ r5] := by
 have hu71 := Try.underlying71
 have HR0_2 := Aside0.mk hr0_2
 have HC0_2 := Aside0.mk hc0_2
 clear hr0_2 hc0_2
 have HR0_3 := Aside0.mk hr0_3
 have HC0_3 := Aside0.mk hc0_3
 clear hr0_3 hc0_3
 have HR0_4 := Aside0.mk hr0_4
 have HC0_4 := Aside0.mk hc0_4
 clear hr0_4 hc0_4
 have HM := Mem.nil w
 have H := h
 clear h
 unfold spec_Get.f at H
 go_enter Try.func92, Try.ntmps92
 replace H := BN H; obtain ⟨t951, A6, H⟩ := H
 go_upto_if 9 with (first | ((with_reducible refine gN 2 rfl ?_); refine pB 2 71 [.int .i64 a0_0, .int .i64 a0_1, .slice A0_2 l0_2.length c0_2, .slice A0_3 l0_3.length c0_3, .slice A0_4 l0_4.length c0_4] HM rfl ?_; clear HM; intro gb949 w3 HM) | ((with_reducible refine gN 4 rfl ?_); refine pB 4 71 [.int .i64 0, .int .i64 0, .slice none 0 0, .slice none 0 0, .slice none 0 0] HM rfl ?_; clear HM; intro gb950 w4 HM; obtain ⟨_,_,_,_,_,_,_,_,_,_⟩ := bk5 (HM.bx 0 rfl)) | ((with_reducible refine gC 91 rfl ?_); refine pC (some 8) rfl #[.agg #[.int .i64 a0_0, .int .i64 a0_1, .slice A0_2 l0_2.length c0_2, .slice A0_3 l0_3.length c0_3, .slice A0_4 l0_4.length c0_4]] rfl Try.func91 (spec_ThreeOk.calls k a0_0 a0_1 _ _ l0_2 _ _ l0_3 _ _ l0_4 t951 _ (HM.came HR0_2.out) HC0_2.out (HM.came HR0_3.out) HC0_3.out (HM.came HR0_4.out) HC0_4.out A6.out) ?_; rintro e w7 ⟨rfl, hR⟩; refine ⟨_, rfl, ?_⟩; replace HM := HM.call hR; clear hR))
 replace HM := nzM HM
 replace H := IB H
 rcases H with ⟨c8, H⟩ | ⟨c8, H⟩
 ·subst c8
  replace H := BN H; obtain ⟨⟨t952, t953, t954, t957, t960⟩, A10, H⟩ := H
  replace H := BN H; obtain ⟨⟨t963, t964, t965, t968, t971, t974, t975⟩, A12, H⟩ := H
  simp only [Option.some.injEq, Prod.mk.injEq] at H
  obtain ⟨rfl, rfl, rfl, rfl, rfl, rfl, rfl⟩ := H
  obtain ⟨_,_,_,_,_,_,_,_,_,_⟩ := bk5 (HM.bx 0 rfl)
  go_wp2_with (first | ((with_reducible refine gC 108 rfl ?_); refine pC (some 12) rfl #[.agg #[.int .i64 a0_0, .int .i64 a0_1, .slice A0_2 l0_2.length c0_2, .slice A0_3 l0_3.length c0_3, .slice A0_4 l0_4.length c0_4]] rfl Try.func108 (spec_l10Copy.calls a0_0 a0_1 _ _ l0_2 _ _ l0_3 _ _ l0_4 t952 t953 t954 t957 t960 _ (HM.came HR0_2.out) HC0_2.out (HM.came HR0_3.out) HC0_3.out (HM.came HR0_4.out) HC0_4.out A10.out) ?_; rintro e w11 ⟨v955, v958, v961, rfl, hR⟩; refine ⟨_, rfl, ?_⟩; replace HM := HM.call hR; clear hR) | ((with_reducible refine gC 107 rfl ?_); refine pC (some 14) rfl #[.agg #[.int .i64 t952, .int .i64 t953, v955, v958, v961], .string a1, .bool false, .string (⟨#[]⟩ : ByteArray)] rfl Try.func107 (spec_l10Touch.calls k t952 t953 v955 t954 v958 t957 v961 t960 a1 false (⟨#[]⟩ : ByteArray) t963 t964 t965 t968 t971 t974 t975 _ _ _ (HM.focus [0, 1] [2, 3, 4]) A12.out) ?_; rintro e w13 ⟨v966, v969, v972, rfl, hR⟩; refine ⟨_, rfl, ?_⟩; replace HM := nzM hR.unfocus; clear hR; obtain ⟨Xo14, ko14, rfl⟩ := HM.rdR 2 rfl; obtain ⟨Xo15, ko15, rfl⟩ := HM.rdR 3 rfl; obtain ⟨Xo16, ko16, rfl⟩ := HM.rdR 4 rfl) | ((with_reducible refine gS 4 rfl ?_); refine pS 1 4 0 [.int .i64 t963, .int .i64 t964, .slice Xo14 t965.length ko14, .slice Xo15 t968.length ko15, .slice Xo16 t971.length ko16] HM rfl rfl ?_; clear HM; intro w17 HM))
  refine bodyPost_ret (results_ctt rfl _ _ gb950 71 #[.int .i64 t963, .int .i64 t964, .slice Xo14 t965.length ko14, .slice Xo15 t968.length ko15, .slice Xo16 t971.length ko16] (0, 0) _ rfl (HM.bx 1 rfl) Try.underlying71 rfl (by kernel_rfl)) rfl ?_
  exact ⟨_, _, _, ER, (MD HM).pick [2, 3, 4]⟩
 ·subst c8
  simp only [Option.some.injEq, Prod.mk.injEq] at H
  obtain ⟨rfl, rfl, rfl, rfl, rfl, rfl, rfl⟩ := H
  go_wp2_with (first | ((with_reducible refine gS 4 rfl ?_); refine pS 1 4 0 [.int .i64 0, .int .i64 0, .slice none 0 0, .slice none 0 0, .slice none 0 0] HM rfl rfl ?_; clear HM; intro w18 HM; replace HM := HM.nl k67 67; replace HM := HM.nl k67 67; replace HM := HM.nl (Kd.int .i64) 3))
  refine bodyPost_ret (results_ctt rfl _ _ gb950 71 #[.int .i64 0, .int .i64 0, .slice none 0 0, .slice none 0 0, .slice none 0 0] (0, 0) _ rfl (HM.bx 1 rfl) Try.underlying71 rfl (by kernel_rfl)) rfl ?_
  exact ⟨_, _, _, ER, (MD HM).pick [2, 3, 4]⟩
end Go.Proofs.Ytlokjgngjgbpmaa.G

namespace Go.Proofs.Ytlokjgngjgbpmaa.G
open Go.RowKit Go.Proofs.YtlokjgngjgbpmaaW.PrintWords Go.Proofs.YtlokjgngjgbpmaaW.PrintLast Go.Proofs.YtlokjgngjgbpmaaW.PrintMore Go.Proofs.Ytlokjgngjgbpmaa.Sh
attribute [local go_sem] max2_int min2_int max_two min_two max_three min_three max_four min_four
set_option linter.unusedVariables false
set_option linter.unusedSimpArgs false
def spec_Hash.l0 : Nat → ByteArray → Int → Int → Option (Int)
 | 0, _, _, _ => none
 | k + 1, x0, x3, x4 => if x4 < (x0.size : Int) then (if 0 ≤ x4 then (spec_Hash.l0 k x0 (Int.tmod (wrap64 ((Go.bits .xor .i64 x3 (wrap64 (bt x0 x4))) * 16777619)) 4294967296) (wrap64 (x4 + 1))) else (none)) else (some x3)
def spec_Hash.f (k : Nat) (a0 : ByteArray) : Option (Int) := spec_Hash.l0 k a0 2166136261 0
theorem spec_Hash.calls (k : Nat) (a0 : ByteArray) (r : Int) (w : World) (h : spec_Hash.f k a0 = some r) :
  Calls Try.prog 110 #[.string a0] w fun e w' => e = .returned (.int .i64 r) ∧ Drawn0 w w' := by
 have H : (spec_Hash.l0 k a0 2166136261 0) = some r := h
 clear h
 have H' := Aside0.mk H
 clear H
 go_enter Try.func110, Try.ntmps110
 go_wp2
 go_loopg [3, 4] k (fun kq v3 v4 w' => ∃ (x3_1 : Int) (x4_1 : Int), v3 = .int .i64 x3_1 ∧ v4 = .int .i64 x4_1 ∧ Aside0 (spec_Hash.l0 kq a0 x3_1 x4_1 = some r) ∧ Aside0 (kq ≤ k) ∧ Drawn0 w w')
 case atStart => exact ⟨(2166136261), (0), RS, RS, H', ⟨Nat.le_refl _⟩, DR⟩
 case round =>
  clear H'
  try clear c1
  obtain ⟨x3_1, x4_1, rfl, rfl, HA, HK1, ⟨m1, rfl⟩⟩ := hrel
  cases gk with
  | zero => exact absurd HA.out (by simp [spec_Hash.l0])
  | succ k1 =>
   have H := HA.out
   clear HA
   simp only [spec_Hash.l0] at H
   by_cases c2 : x4_1 < (a0.size : Int)
   ·rw [if_pos c2] at H
    have c2b0 : decide (x4_1 < (a0.size : Int)) = true := decide_eq_true c2
    clear c2
    by_cases c3 : 0 ≤ x4_1
    ·rw [if_pos c3] at H
     have c3b0 : decide (0 ≤ x4_1) = true := decide_eq_true c3
     clear c3
     have H' := Aside0.mk H
     clear H
     have p4 : 0 ≤ (x4_1 : Int) := of_decide_eq_true AS
     have q4 : x4_1 < (a0.size : Int) := of_decide_eq_true AS
     have hx4 := bt_at a0 x4_1
     replace p4 := eq_true p4
     replace q4 := eq_true q4
     go_wp2
     go_roundg k1
     case measure => have := HK1.out; omega
     case rel => exact ⟨(Int.tmod (wrap64 ((Go.bits .xor .i64 x3_1 (wrap64 (bt a0 x4_1))) * 16777619)) 4294967296), (wrap64 (x4_1 + 1)), RS, RS, H', ⟨by have := HK1.out; omega⟩, DR⟩
    ·rw [if_neg c3] at H
     exact absurd H (by simp)
   ·rw [if_neg c2] at H
    have c2b0 : decide (x4_1 < (a0.size : Int)) = false := decide_eq_false c2
    clear c2
    obtain rfl := Option.some.inj H
    go_wp2
    go_ret
    exact ⟨by first | rfl | (simp; done) | (simp [*]; done), DR⟩
end Go.Proofs.Ytlokjgngjgbpmaa.G

namespace Go.Proofs.Ytlokjgngjgbpmaa.G
open Go.RowKit Go.Proofs.YtlokjgngjgbpmaaW.PrintWords Go.Proofs.YtlokjgngjgbpmaaW.PrintLast Go.Proofs.YtlokjgngjgbpmaaW.PrintMore Go.Proofs.Ytlokjgngjgbpmaa.Sh
attribute [local go_sem] max2_int min2_int max_two min_two max_three min_three max_four min_four
set_option linter.unusedVariables false
set_option linter.unusedSimpArgs false
open Go.Proofs.Ytlokjgngjgbpmaa.Mm
def spec_l08But.l0 : Nat → Int → List Int → List Int → Int → Int → Option (List Int)
 | 0, _, _, _, _, _ => none
 | k + 1, x1, x5, x9, x10, x11 => if x11 < x10 then (if 0 ≤ x11 then (if x11 < (x9.length : Int) then (if (rd x9 x11) = x1 then (spec_l08But.l0 k x1 x5 x9 x10 (wrap64 (x11 + 1))) else (if x5.length < 17592186044416 then (spec_l08But.l0 k x1 (x5 ++ [rd x9 x11]) x9 x10 (wrap64 (x11 + 1))) else (none))) else (none)) else (none)) else (some x5)
def spec_l08But.f (k : Nat) (l0 : List Int) (a1 : Int) : Option (List Int) := spec_l08But.l0 k a1 (([] : List Int)) l0 (l0.length : Int) 0
theorem spec_l08But.calls (k : Nat) (A0 : Option Addr) (c0 : Nat) (l0 : List Int) (a1 : Int) (r : List Int) (w : World) (hr0 : Kd.C (Kd.int .i64) w A0 l0.length l0) (hc0 : l0.length ≤ c0) (h : spec_l08But.f k l0 a1 = some r) :
  Calls Try.prog 111 #[.slice A0 l0.length c0, .int .i64 a1] w fun e w' => ∃ v0_ : Value, e = .returned (v0_) ∧ Mem w [] w' [rowR (Kd.int .i64) 3 v0_ r] := by
 have HR0 := Aside0.mk hr0
 have HC0 := Aside0.mk hc0
 clear hr0 hc0
 have HM := Mem.nil w
 have H := h
 clear h
 unfold spec_l08But.f at H
 go_enter Try.func111, Try.ntmps111
 have H' := Aside0.mk H
 clear H
 go_wp2_with (first | ((with_reducible refine gN 8 rfl ?_); refine pL 8 (Kd.int .i64) 3 ([] : List Int) [] (Reps.none _ _) HM rfl ?_; clear HM; intro v980 w3 HM))
 go_loopg [5, 11] k (fun kq v5 v11 w' => ∃ (x5_1 : List Int) (x11_1 : Int), v11 = .int .i64 x11_1 ∧ Aside0 (spec_l08But.l0 kq a1 x5_1 l0 (l0.length : Int) x11_1 = some r) ∧ Aside0 (kq ≤ k) ∧ Mem w [] w' [rowR (Kd.int .i64) 3 v5 x5_1])
 case atStart => exact ⟨((([] : List Int))), (0), RS, H', ⟨Nat.le_refl _⟩, (MD HM).pick [0]⟩
 case round =>
  clear H' HM
  obtain ⟨x5_1, x11_1, rfl, HA, HK1, HM⟩ := hrel
  cases gk with
  | zero => exact absurd HA.out (by simp [spec_l08But.l0])
  | succ k1 =>
   have H := HA.out
   clear HA
   simp only [spec_l08But.l0] at H
   go_upto_if 12 with (fail)
   replace H := IT H; rcases H with ⟨c4, H⟩ | ⟨c4, H⟩
   ·have c4b0 := decide_eq_true c4
    clear c4
    first|rw [c4b0]|(simp only [i64_w, i32_w]; rw [c4b0])|skip
    replace H := GD H; obtain ⟨c5, H⟩ := H
    have c5b0 := decide_eq_true c5
    clear c5
    replace H := GD H; obtain ⟨c6, H⟩ := H
    have c6b0 := decide_eq_true c6
    clear c6
    have p982 : 0 ≤ (x11_1 : Int) := of_decide_eq_true AS
    have q982 : (x11_1 : Int) < (l0.length : Int) := of_decide_eq_true AS
    obtain ⟨ad982, e982, hx982_0⟩ := Kd.at_int (HM.came HR0.out) x11_1 p982 q982
    cases e982
    replace p982 := eq_true p982
    replace q982 := eq_true q982
    go_upto_if 17 with (fail)
    replace H := IT H; rcases H with ⟨c7, H⟩ | ⟨c7, H⟩
    ·obtain ⟨c7b0, c7b1⟩ := BE c7
     clear c7
     first|rw [c7b0]|(simp only [i64_w, i32_w]; rw [c7b0])|skip
     have H' := Aside0.mk H
     clear H
     go_wp2
     go_roundg k1
     case measure => have := HK1.out; omega
     case rel => exact ⟨(x5_1), (wrap64 (x11_1 + 1)), RS, H', ⟨by have := HK1.out; omega⟩, (MD HM).pick [0]⟩
    ·obtain ⟨c7b0, c7b1⟩ := BF c7
     first|rw [c7b0]|(simp only [i64_w, i32_w]; rw [c7b0])|skip
     replace H := GD H; obtain ⟨c8, H⟩ := H
     have LMc8 := Aside0.mk c8
     clear c8
     have H' := Aside0.mk H
     clear H
     go_wp2_with (first | ((with_reducible refine gN 20 rfl ?_); refine pL 20 (Kd.int .i64) 3 [rd l0 x11_1] [.int .i64 (rd l0 x11_1)] (Reps.one (show Kd.M (Kd.int .i64) _ _ _ (rd l0 x11_1) [.int .i64 (rd l0 x11_1)] from rfl) (Reps.none _ _)) HM rfl ?_; clear HM; intro v10 w9 HM; obtain ⟨Xv10, kv10, rfl⟩ := HM.rdR 1 rfl) | ((with_reducible refine gate_builtin (b := .append) (xs := #[.tmp 18, .tmp 20]) rfl ?_); refine pA 0 (.tmp 18) (.tmp 20) 69 3 (Kd.int .i64) u5 x5_1 [rd l0 x11_1] Xv10 ([rd l0 x11_1].length) kv10 HM rfl Try.underlying69 info3 rfl (HM.CR 1 rfl).2.2 (by have h_ := LMc8.out; simp only [List.length_singleton]; omega) ?_; clear HM; intro v984 w11 HM))
     go_roundg k1
     case measure => have := HK1.out; omega
     case rel => exact ⟨((x5_1 ++ [rd l0 x11_1])), (wrap64 (x11_1 + 1)), RS, H', ⟨by have := HK1.out; omega⟩, (MD HM).pick [0]⟩
   ·have c4b0 := decide_eq_false c4
    clear c4
    first|rw [c4b0]|(simp only [i64_w, i32_w]; rw [c4b0])|skip
    obtain rfl := Option.some.inj H
    go_wp2
    go_ret
    exact ⟨_, ER, (MD HM).pick [0]⟩
def spec_l10Haunt.f (k : Nat) (a0_0 : Int) (a0_1 : Int) (l0_2 : List (S67)) (l0_3 : List (S67)) (l0_4 : List Int) (a1 : Int) : Option (Int × Int × (List (S67)) × (List (S67)) × List Int) := (spec_l08But.f k l0_4 a1).bind fun t988 => (if t988.length < 17592186044416 then ((some (t988 ++ [a1] : List Int)).bind fun y991 => ((spec_l10Ghosts.f a0_0 a0_1 l0_2 l0_3 y991).bind fun t994 => (if (y991.length : Int) > t994 then (if 1 ≤ (y991.length : Int) then (some (a0_0, a0_1, l0_2, l0_3, (y991.drop (1 : Int).toNat))) else (none)) else (some (a0_0, a0_1, l0_2, l0_3, y991))))) else (none))
def spec_l10Haunt.T2 : Bool × List (List Nat × List Nat) := (true, [([], []), ([0], [0]), ([1], [1]), ([], []), ([3], [3]), ([2, 4], [2, 4])])
def spec_l10Haunt.B2 : List Nat := [0, 1, 3, 0, 8, 31]
theorem spec_l10Haunt.tab2 : rtab .any (opsOf Try.f119 2) = spec_l10Haunt.T2 := by kernel_rfl
theorem spec_l10Haunt.bits2 : waitsOk spec_l10Haunt.T2.2 spec_l10Haunt.B2 = true := by kernel_rfl
theorem spec_l10Haunt.calls (k : Nat) (a0_0 : Int) (a0_1 : Int) (u9000_ : Value) (l0_2 : List (S67)) (u9001_ : Value) (l0_3 : List (S67)) (A0_4 : Option Addr) (c0_4 : Nat) (l0_4 : List Int) (a1 : Int) (r1 : Int) (r2 : Int) (r3 : List (S67)) (r4 : List (S67)) (r5 : List Int) (w0 w : World) (F : List SP)  (hM : Mem w0 F w [rowR k67 67 u9000_ l0_2, rowR k67 67 u9001_ l0_3, row (Kd.int .i64) 3 (.slice A0_4 l0_4.length c0_4) l0_4]) (h : spec_l10Haunt.f k a0_0 a0_1 l0_2 l0_3 l0_4 a1 = some (r1, r2, r3, r4, r5)) :
  Calls Try.prog 119 #[.agg #[.int .i64 a0_0, .int .i64 a0_1, u9000_, u9001_, .slice A0_4 l0_4.length c0_4], .int .i64 a1] w fun e w' => ∃ v2_ v3_ v4_ : Value, e = .returned (.agg #[.int .i64 r1, .int .i64 r2, v2_, v3_, v4_]) ∧ Mem w0 F w' [rowR k67 67 v2_ r3, rowR k67 67 v3_ r4, row (Kd.int .i64) 3 v4_ r5, row (Kd.int .i64) 3 (.slice A0_4 l0_4.length c0_4) l0_4] := by
 have hu71 := Try.underlying71
 have HM := hM
 clear hM
 have H := h
 clear h
 unfold spec_l10Haunt.f at H
 go_enter Try.func119, Try.ntmps119
 replace H := BN H; obtain ⟨t988, A8, H⟩ := H
 replace H := GD H; obtain ⟨c10, H⟩ := H
 have LMc10 := Aside0.mk c10
 clear c10
 replace H := BLt H; obtain ⟨y991, Ny991, H⟩ := H
 replace Ny991 := Aside0.mk Ny991
 obtain ⟨Xo3, ko3, rfl⟩ := HM.rdR 0 rfl
 obtain ⟨Xo4, ko4, rfl⟩ := HM.rdR 1 rfl
 try go_wp2_with (first | ((with_reducible refine gN 2 rfl ?_); refine pB 2 71 [.int .i64 a0_0, .int .i64 a0_1, .slice Xo3 l0_2.length ko3, .slice Xo4 l0_3.length ko4, .slice A0_4 l0_4.length c0_4] HM rfl ?_; clear HM; intro gb986 w5 HM) | ((with_reducible refine gN 4 rfl ?_); refine pB 4 71 [.int .i64 0, .int .i64 0, .slice none 0 0, .slice none 0 0, .slice none 0 0] HM rfl ?_; clear HM; intro gb987 w6 HM; obtain ⟨_,_,_,_,_,_,_,_,_,_⟩ := bk5 (HM.bx 3 rfl)) | ((with_reducible refine gC 111 rfl ?_); refine pC (some 8) rfl #[.slice A0_4 l0_4.length c0_4, .int .i64 a1] rfl Try.func111 (spec_l08But.calls k _ _ l0_4 a1 t988 _ (HM.C 2 rfl).2.2 (HM.C 2 rfl).2.1 A8.out) ?_; rintro e w9 ⟨v989, rfl, hR⟩; refine ⟨_, rfl, ?_⟩; replace HM := HM.call hR; clear hR) | ((with_reducible refine gN 10 rfl ?_); refine pL 10 (Kd.int .i64) 3 [a1] [.int .i64 a1] (Reps.one (show Kd.M (Kd.int .i64) _ _ _ a1 [.int .i64 a1] from rfl) (Reps.none _ _)) HM rfl ?_; clear HM; intro v12 w11 HM; obtain ⟨Xv12, kv12, rfl⟩ := HM.rdR 6 rfl) | ((with_reducible refine gate_builtin (b := .append) (xs := #[.tmp 8, .tmp 10]) rfl ?_); refine pA 5 (.tmp 8) (.tmp 10) 69 3 (Kd.int .i64) v989 t988 [a1] Xv12 ([a1].length) kv12 HM rfl Try.underlying69 info3 rfl (HM.CR 6 rfl).2.2 (by have h_ := LMc10.out; simp only [List.length_singleton]; omega) ?_; clear HM; intro v992 w13 HM; replace HM := HM.nm 5 rfl Ny991.out; obtain ⟨Xo14, ko14, rfl⟩ := HM.rdR 5 rfl) | ((with_reducible refine gS 12 rfl ?_); refine pS 3 12 4 [.slice Xo14 y991.length ko14] HM rfl rfl ?_; clear HM; intro w15 HM))
 replace H := BN H; obtain ⟨t994, A16, H⟩ := H
 refine RGN 6 [0, 1, 2, 3, 4, 5] (fun a0 b a w' => a = putSel a0 b [(0, 13, .pointer (some ⟨gb986, 4, none⟩)), (1, 14, .slice Xo14 y991.length ko14), (2, 15, .int .i64 (y991.length : Int)), (3, 16, .agg #[.int .i64 a0_0, .int .i64 a0_1, .slice Xo3 l0_2.length ko3, .slice Xo4 l0_3.length ko4, .slice Xo14 y991.length ko14]), (4, 17, .int .i64 t994), (5, 18, .bool (decide ((y991.length : Int) > t994)))] ∧ Mem w0 F w' [rowR k67 67 (.slice Xo3 l0_2.length ko3) l0_2, rowR k67 67 (.slice Xo4 l0_3.length ko4) l0_3, row (Kd.int .i64) 3 (.slice A0_4 l0_4.length c0_4) l0_4, box 71 gb986 [.int .i64 a0_0, .int .i64 a0_1, .slice Xo3 l0_2.length ko3, .slice Xo4 l0_3.length ko4, .slice Xo14 y991.length ko14], box 71 gb987 [.int .i64 0, .int .i64 0, .slice none 0 0, .slice none 0 0, .slice none 0 0], rowR (Kd.int .i64) 3 (.slice Xo14 y991.length ko14) y991, rowR (Kd.int .i64) 3 (.slice Xv12 [a1].length kv12) [a1]]) spec_l10Haunt.tab2 spec_l10Haunt.bits2 ?_ ?_ ?_
 ·exact ⟨PS0' rfl _, (HM.drew).pick [0, 1, 2, 3, 4, 5, 6]⟩
 ·clear HM
  refine SY ?_ ?_
  ·intro b a w ha HM hb hon hoff K hK
   have e2 := PG ha 2
   exact VL (.pointer (some ⟨gb986, 4, none⟩)) (hK.out _ _ ⟨PUT ha 0 hb, HM⟩)
  refine SY ?_ ?_
  ·intro b a w ha HM hb hon hoff K hK
   obtain ⟨_,_,_,_,_,_,_,_,_,_⟩ := bk5 (HM.bx 3 rfl)
   have e13 := PE ha 0 hon
   exact VL (.slice Xo14 y991.length ko14) (hK.out _ _ ⟨PUT ha 1 hb, HM⟩)
  refine SY ?_ ?_
  ·intro b a w ha HM hb hon hoff K hK
   have e14 := PE ha 1 hon
   exact VL (.int .i64 (y991.length : Int)) (hK.out _ _ ⟨PUT ha 2 hb, HM⟩)
  refine SY ?_ ?_
  ·intro b a w ha HM hb hon hoff K hK
   obtain ⟨_,_,_,_,_,_,_,_,_,_⟩ := bk5 (HM.bx 3 rfl)
   have e2 := PG ha 2
   exact VL (.agg #[.int .i64 a0_0, .int .i64 a0_1, .slice Xo3 l0_2.length ko3, .slice Xo4 l0_3.length ko4, .slice Xo14 y991.length ko14]) (hK.out _ _ ⟨PUT ha 3 hb, HM⟩)
  refine SY ?_ ?_
  ·intro b a w ha HM hb hon hoff K hK
   have e16 := PE ha 3 hon
   refine ST (eC (some 17) rfl #[.agg #[.int .i64 a0_0, .int .i64 a0_1, .slice Xo3 l0_2.length ko3, .slice Xo4 l0_3.length ko4, .slice Xo14 y991.length ko14]] rfl Try.func105 (spec_l10Ghosts.calls a0_0 a0_1 _ _ l0_2 _ _ l0_3 _ _ y991 t994 _ (HM.CR 0 rfl).2.2 (HM.CR 0 rfl).2.1 (HM.CR 1 rfl).2.2 (HM.CR 1 rfl).2.1 (HM.CR 5 rfl).2.2 (HM.CR 5 rfl).2.1 A16.out) ?_ (hargs := by (simp only [List.map_toArray, List.map_cons, List.map_nil, evc, eval_of e16]) <;> rfl))
   rintro e w22 ⟨rfl, hR⟩
   refine ⟨_, rfl, ?_⟩
   replace HM := HM.call hR
   clear hR
   exact hK.out _ _ ⟨PUT ha 4 hb, (HM).pick [0, 1, 2, 3, 4, 5, 6]⟩
  refine SY ?_ ?_
  ·intro b a w ha HM hb hon hoff K hK
   have e15 := PE ha 2 hon
   have e17 := PE ha 4 hon
   exact VL (.bool (decide ((y991.length : Int) > t994))) (hK.out _ _ ⟨PUT ha 5 hb, HM⟩)
  exact steps_nil
 rintro _ w23 ⟨rfl, HM⟩
 simp only [putSel, if_true, Act.put, List.setIfInBounds_toArray, List.set_cons_zero, List.set_cons_succ, gt_iff_lt, ge_iff_le]
 go_upto_if 18 with (fail)
 replace H := IT H; rcases H with ⟨c24, H⟩ | ⟨c24, H⟩
 ·have c24b0 : decide (t994 < (y991.length : Int)) = true := decide_eq_true c24
  clear c24
  first|rw [c24b0]|(simp only [i64_w, i32_w]; rw [c24b0])|skip
  replace H := GD H; obtain ⟨c26, H⟩ := H
  have c26b0 := eq_true c26
  have c26b1 : decide (1 ≤ (y991.length : Int)) = true := decide_eq_true c26
  clear c26
  simp only [Option.some.injEq, Prod.mk.injEq] at H
  obtain ⟨rfl, rfl, rfl, rfl, rfl⟩ := H
  obtain ⟨_,_,_,_,_,_,_,_,_,_⟩ := bk5 (HM.bx 3 rfl)
  go_wp2_with (first | ((with_reducible refine gate_sl (t := 69) rfl ?_); refine pD 5 69 3 (Kd.int .i64) _ _ 1 y991 Xo14 ko14 HM rfl Try.underlying69 info3 rfl (fun _ _ h => Kd.Q_of_R h) (by omega) (by have h_ : (1 : Int) ≤ ((y991.length : Int) : Int) := of_decide_eq_true AS; first | exact h_ | (have e_ := (HM.CR 5 rfl).1; omega)) ?_; clear HM; intro v996 HM; obtain ⟨Xo27, ko27, rfl⟩ := HM.rd 5 rfl) | ((with_reducible refine gS 22 rfl ?_); refine pS 3 22 4 [.slice Xo27 (y991.drop (1 : Int).toNat).length ko27] HM rfl rfl ?_; clear HM; intro w28 HM; obtain ⟨_,_,_,_,_,_,_,_,_,_⟩ := bk5 (HM.bx 3 rfl)) | ((with_reducible refine gS 4 rfl ?_); refine pS 4 4 0 [.int .i64 a0_0, .int .i64 a0_1, .slice Xo3 l0_2.length ko3, .slice Xo4 l0_3.length ko4, .slice Xo27 (y991.drop (1 : Int).toNat).length ko27] HM rfl rfl ?_; clear HM; intro w30 HM))
  refine bodyPost_ret (results_cell_row rfl _ _ gb987 71 #[.int .i64 a0_0, .int .i64 a0_1, .slice Xo3 l0_2.length ko3, .slice Xo4 l0_3.length ko4, .slice Xo27 (y991.drop (1 : Int).toNat).length ko27] (0, 0) _ rfl (HM.bx 4 rfl) Try.underlying71 rfl (by kernel_rfl)) rfl ?_
  exact ⟨_, _, _, ER, (MD HM).pick [0, 1, 5, 2]⟩
 ·have c24b0 : decide (t994 < (y991.length : Int)) = false := decide_eq_false c24
  clear c24
  first|rw [c24b0]|(simp only [i64_w, i32_w]; rw [c24b0])|skip
  simp only [Option.some.injEq, Prod.mk.injEq] at H
  obtain ⟨rfl, rfl, rfl, rfl, rfl⟩ := H
  obtain ⟨_,_,_,_,_,_,_,_,_,_⟩ := bk5 (HM.bx 3 rfl)
  go_wp2_with (first | ((with_reducible refine gS 4 rfl ?_); refine pS 4 4 0 [.int .i64 a0_0, .int .i64 a0_1, .slice Xo3 l0_2.length ko3, .slice Xo4 l0_3.length ko4, .slice Xo14 y991.length ko14] HM rfl rfl ?_; clear HM; intro w32 HM; replace HM := HM.toQ 5 rfl))
  refine bodyPost_ret (results_cell_row rfl _ _ gb987 71 #[.int .i64 a0_0, .int .i64 a0_1, .slice Xo3 l0_2.length ko3, .slice Xo4 l0_3.length ko4, .slice Xo14 y991.length ko14] (0, 0) _ rfl (HM.bx 4 rfl) Try.underlying71 rfl (by kernel_rfl)) rfl ?_
  exact ⟨_, _, _, ER, (MD HM).pick [0, 1, 5, 2]⟩
def spec_EvictSmall.l0 : Nat → Int → Int → List (S67) → List (S67) → List Int → Option (Int × Int × (List (S67)) × (List (S67)) × List Int × ByteArray × Bool)
 | 0, _, _, _, _, _ => none
 | k + 1, x1013000, x1013001, x1013002, x1013003, x1013004 => if (x1013002.length : Int) > 0 then (if 0 < (x1013002.length : Int) then ((some (([] : List (S67)) : List (S67))).bind fun y1015 => (if 1 ≤ (x1013002.length : Int) then ((some (x1013002.drop 1 : List (S67))).bind fun y1018 => (if y1015.length + y1018.length < 3518437208883 then ((some (y1015 ++ y1018 : List (S67))).bind fun y1022 => (if ((rd_T67 x1013002 0).f2) ≤ 1 then ((spec_Hash.f k ((rd_T67 x1013002 0).f0)).bind fun t1025 => ((spec_l10Haunt.f k x1013000 x1013001 y1022 x1013003 x1013004 t1025).bind fun bt1026 => (some (bt1026.1, bt1026.2.1, bt1026.2.2.1, bt1026.2.2.2.1, bt1026.2.2.2.2, (rd_T67 x1013002 0).f0, true)))) else (if x1013003.length < 3518437208883 then (spec_EvictSmall.l0 k x1013000 x1013001 y1022 (x1013003 ++ [(⟨(rd_T67 x1013002 0).f0, (rd_T67 x1013002 0).f1, 0⟩ : S67)]) x1013004) else (none)))) else (none))) else (none))) else (none)) else (some (x1013000, x1013001, x1013002, x1013003, x1013004, (⟨#[]⟩ : ByteArray), false))
def spec_EvictSmall.f (k : Nat) (a0_0 : Int) (a0_1 : Int) (l0_2 : List (S67)) (l0_3 : List (S67)) (l0_4 : List Int) : Option (Int × Int × (List (S67)) × (List (S67)) × List Int × ByteArray × Bool) := (spec_ThreeOk.f k a0_0 a0_1 l0_2 l0_3 l0_4).bind fun t1000 => (if t1000 = true then ((spec_l10Copy.f a0_0 a0_1 l0_2 l0_3 l0_4).bind fun bt1001 => (spec_EvictSmall.l0 k bt1001.1 bt1001.2.1 bt1001.2.2.1 bt1001.2.2.2.1 bt1001.2.2.2.2)) else (some (0, 0, ([] : List (S67)), ([] : List (S67)), ([] : List Int), (⟨#[]⟩ : ByteArray), false)))
def spec_EvictSmall.T8 : Bool × List (List Nat × List Nat) := (true, [([], []), ([], []), ([1], [1]), ([2], [2]), ([0, 3, 3], [0, 3]), ([], []), ([5], [5]), ([4, 4, 0, 1, 2, 3, 4], [4]), ([6, 7, 0, 1, 2, 3, 4, 5, 6, 7], [6]), ([8, 0, 1, 2, 3, 4, 5, 6, 7, 8], [])])
def spec_EvictSmall.B8 : List Nat := [0, 0, 2, 6, 15, 0, 32, 31, 255, 511]
theorem spec_EvictSmall.tab8 : rtab .any (opsOf Try.f116 8) = spec_EvictSmall.T8 := by kernel_rfl
theorem spec_EvictSmall.bits8 : waitsOk spec_EvictSmall.T8.2 spec_EvictSmall.B8 = true := by kernel_rfl
theorem spec_EvictSmall.calls (k : Nat) (a0_0 : Int) (a0_1 : Int) (A0_2 : Option Addr) (c0_2 : Nat) (l0_2 : List (S67)) (A0_3 : Option Addr) (c0_3 : Nat) (l0_3 : List (S67)) (A0_4 : Option Addr) (c0_4 : Nat) (l0_4 : List Int) (r1 : Int) (r2 : Int) (r3 : List (S67)) (r4 : List (S67)) (r5 : List Int) (r6 : ByteArray) (r7 : Bool) (w : World) (hr0_2 : Kd.C k67 w A0_2 l0_2.length l0_2) (hc0_2 : l0_2.length ≤ c0_2) (hr0_3 : Kd.C k67 w A0_3 l0_3.length l0_3) (hc0_3 : l0_3.length ≤ c0_3) (hr0_4 : Kd.C (Kd.int .i64) w A0_4 l0_4.length l0_4) (hc0_4 : l0_4.length ≤ c0_4) (h : spec_EvictSmall.f k a0_0 a0_1 l0_2 l0_3 l0_4 = some (r1, r2, r3, r4, r5, r6, r7)) :
  Calls Try.prog 116 #[.agg #[.int .i64 a0_0, .int .i64 a0_1, .slice A0_2 l0_2.length c0_2, .slice A0_3 l0_3.length c0_3, .slice A0_4 l0_4.length c0_4]] w fun e w' => ∃ v2_ v3_ v4_ : Value, e = .returned (.tuple #[.agg #[.int .i64 r1, .int .i64 r2, v2_, v3_, v4_], .string r6, .bool r7]) ∧ Mem w [] w' [rowR k67 67 v2_ r3, rowR k67 67 v3_ r4, row (Kd.int .i64) 3 v4_ r5] := by
 have hu71 := Try.underlying71
 have hu67 := Try.underlying67
 have HR0_2 := Aside0.mk hr0_2
 have HC0_2 := Aside0.mk hc0_2
 clear hr0_2 hc0_2
 have HR0_3 := Aside0.mk hr0_3
 have HC0_3 := Aside0.mk hc0_3
 clear hr0_3 hc0_3
 have HR0_4 := Aside0.mk hr0_4
 have HC0_4 := Aside0.mk hc0_4
 clear hr0_4 hc0_4
 have HM := Mem.nil w
 have H := h
 clear h
 unfold spec_EvictSmall.f at H
 go_enter Try.func116, Try.ntmps116
 replace H := BN H; obtain ⟨t1000, A5, H⟩ := H
 go_upto_if 9 with (first | ((with_reducible refine gN 1 rfl ?_); refine pB 1 71 [.int .i64 a0_0, .int .i64 a0_1, .slice A0_2 l0_2.length c0_2, .slice A0_3 l0_3.length c0_3, .slice A0_4 l0_4.length c0_4] HM rfl ?_; clear HM; intro gb998 w2 HM) | ((with_reducible refine gN 2 rfl ?_); refine pB 2 71 [.int .i64 0, .int .i64 0, .slice none 0 0, .slice none 0 0, .slice none 0 0] HM rfl ?_; clear HM; intro gb999 w3 HM; obtain ⟨_,_,_,_,_,_,_,_,_,_⟩ := bk5 (HM.bx 0 rfl)) | ((with_reducible refine gC 91 rfl ?_); refine pC (some 8) rfl #[.agg #[.int .i64 a0_0, .int .i64 a0_1, .slice A0_2 l0_2.length c0_2, .slice A0_3 l0_3.length c0_3, .slice A0_4 l0_4.length c0_4]] rfl Try.func91 (spec_ThreeOk.calls k a0_0 a0_1 _ _ l0_2 _ _ l0_3 _ _ l0_4 t1000 _ (HM.came HR0_2.out) HC0_2.out (HM.came HR0_3.out) HC0_3.out (HM.came HR0_4.out) HC0_4.out A5.out) ?_; rintro e w6 ⟨rfl, hR⟩; refine ⟨_, rfl, ?_⟩; replace HM := HM.call hR; clear hR))
 replace HM := nzM HM
 replace H := IB H
 rcases H with ⟨c7, H⟩ | ⟨c7, H⟩
 ·subst c7
  replace H := BN H; obtain ⟨⟨t1001, t1002, t1003, t1006, t1009⟩, A9, H⟩ := H
  have H' := Aside0.mk H
  clear H
  obtain ⟨_,_,_,_,_,_,_,_,_,_⟩ := bk5 (HM.bx 0 rfl)
  go_wp2_with (first | ((with_reducible refine gC 108 rfl ?_); refine pC (some 12) rfl #[.agg #[.int .i64 a0_0, .int .i64 a0_1, .slice A0_2 l0_2.length c0_2, .slice A0_3 l0_3.length c0_3, .slice A0_4 l0_4.length c0_4]] rfl Try.func108 (spec_l10Copy.calls a0_0 a0_1 _ _ l0_2 _ _ l0_3 _ _ l0_4 t1001 t1002 t1003 t1006 t1009 _ (HM.came HR0_2.out) HC0_2.out (HM.came HR0_3.out) HC0_3.out (HM.came HR0_4.out) HC0_4.out A9.out) ?_; rintro e w10 ⟨v1004, v1007, v1010, rfl, hR⟩; refine ⟨_, rfl, ?_⟩; replace HM := HM.call hR; clear hR) | ((with_reducible refine gN 5 rfl ?_); refine pB 5 71 [.int .i64 0, .int .i64 0, .slice none 0 0, .slice none 0 0, .slice none 0 0] HM rfl ?_; clear HM; intro gb1012 w11 HM; obtain ⟨Xo12, ko12, rfl⟩ := HM.rdR 2 rfl; obtain ⟨Xo13, ko13, rfl⟩ := HM.rdR 3 rfl; obtain ⟨Xo14, ko14, rfl⟩ := HM.rdR 4 rfl) | ((with_reducible refine gS 5 rfl ?_); refine pS 5 5 0 [.int .i64 t1001, .int .i64 t1002, .slice Xo12 t1003.length ko12, .slice Xo13 t1006.length ko13, .slice Xo14 t1009.length ko14] HM rfl rfl ?_; clear HM; intro w15 HM; replace HM := HM.toQ 4 rfl))
  go_loopg [] k (fun kq w' => ∃ (x1000000_1 : Int) (x1000001_1 : Int) (x1013002_1 : List (S67)) (x1013003_1 : List (S67)) (u1013002 : Value) (u1013003 : Value), Aside0 (spec_EvictSmall.l0 kq t1001 t1002 x1013002_1 x1013003_1 t1009 = some (r1, r2, r3, r4, r5, r6, r7)) ∧ Aside0 (kq ≤ k) ∧ Mem w [] w' [rowR k67 67 u1013002 x1013002_1, rowR k67 67 u1013003 x1013003_1, row (Kd.int .i64) 3 (.slice Xo14 t1009.length ko14) t1009, box 71 gb998 [.int .i64 a0_0, .int .i64 a0_1, .slice A0_2 l0_2.length c0_2, .slice A0_3 l0_3.length c0_3, .slice A0_4 l0_4.length c0_4], box 71 gb999 [.int .i64 x1000000_1, .int .i64 x1000001_1, .slice none 0 0, .slice none 0 0, .slice none 0 0], box 71 gb1012 [.int .i64 t1001, .int .i64 t1002, u1013002, u1013003, (.slice Xo14 t1009.length ko14)]])
  case atStart => exact ⟨(0), (0), (t1003), (t1006), (.slice Xo12 t1003.length ko12), (.slice Xo13 t1006.length ko13), H', ⟨Nat.le_refl _⟩, (MD HM).pick [2, 3, 4, 0, 1, 5]⟩
  case round =>
   clear H' HM
   obtain ⟨x1000000_1, x1000001_1, x1013002_1, x1013003_1, u1013002, u1013003, HA, HK1, HM⟩ := hrel
   cases gk with
   | zero => exact absurd HA.out (by simp [spec_EvictSmall.l0])
   | succ k1 =>
    have H := HA.out
    clear HA
    simp only [spec_EvictSmall.l0] at H
    obtain ⟨_,_,_,_,_,_,_,_,_,_⟩ := bk5 (HM.bx 5 rfl)
    obtain ⟨Xo17, ko17, rfl⟩ := HM.rdR 0 rfl
    go_upto_if 16 with (fail)
    replace H := IT H; rcases H with ⟨c18, H⟩ | ⟨c18, H⟩
    ·replace c18 : (x1013002_1.length : Int) > 0 := c18
     have c18b0 : decide (0 < (x1013002_1.length : Int)) = true := decide_eq_true c18
     have c18b1 : decide (0 < x1013002_1.length) = true := decide_eq_true (by omega)
     have c18b9 : decide (0 < x1013002_1.length) = true := decide_eq_true (by omega)
     clear c18
     first|rw [c18b0]|rw [c18b9]|(simp only [i64_w, i32_w]; rw [c18b0])|skip
     replace H := GD H; obtain ⟨c19, H⟩ := H
     replace c19 : 0 < (x1013002_1.length : Int) := c19
     have c19b0 : decide (0 < (x1013002_1.length : Int)) = true := decide_eq_true c19
     have c19b1 : decide (0 < x1013002_1.length) = true := decide_eq_true (by omega)
     have c19b9 : decide (0 < x1013002_1.length) = true := decide_eq_true (by omega)
     clear c19
     replace H := BLt H; obtain ⟨y1015, Ny1015, H⟩ := H
     replace Ny1015 := Aside0.mk Ny1015
     replace H := GD H; obtain ⟨c24, H⟩ := H
     have c24b0 := eq_true c24
     have c24b1 : decide (1 ≤ (x1013002_1.length : Int)) = true := decide_eq_true c24
     clear c24
     replace H := BLt H; obtain ⟨_, rfl, H⟩ := H
     replace H := GD H; obtain ⟨c26, H⟩ := H
     have LMc26 := Aside0.mk c26
     clear c26
     replace H := BLt H; obtain ⟨y1022, Ny1022, H⟩ := H
     replace Ny1022 := Aside0.mk Ny1022
     have p1013 : 0 ≤ (0 : Int) := (by omega)
     have q1013 : (0 : Int) < (x1013002_1.length : Int) := of_decide_eq_true AS
     obtain ⟨ad1013, e1013, hx1013_0, hx1013_1, hx1013_2⟩ := at_T67 (HM.CR 0 rfl).2.2 0 p1013 q1013
     cases e1013
     have qi1013 : (0 < x1013002_1.length) = True := eq_true (by omega)
     (try rw [show ((0 : Int)).toNat = 0 from rfl] at hx1013_0)
     (try rw [show 0 * 3 = 0 from rfl] at hx1013_0)
     (try rw [Addr.add_zero'] at hx1013_0)
     (try rw [show ((0 : Int)).toNat = 0 from rfl] at hx1013_1)
     (try rw [show 0 * 3 = 0 from rfl] at hx1013_1)
     (try rw [Addr.add_zero'] at hx1013_1)
     (try rw [show ((0 : Int)).toNat = 0 from rfl] at hx1013_2)
     (try rw [show 0 * 3 = 0 from rfl] at hx1013_2)
     (try rw [Addr.add_zero'] at hx1013_2)
     replace p1013 := eq_true p1013
     replace q1013 := eq_true q1013
     go_upto_if 29 with (first | ((with_reducible refine gN 6 rfl ?_); refine pB 6 67 [.string (⟨#[]⟩ : ByteArray), .string (⟨#[]⟩ : ByteArray), .int .i64 0] HM rfl ?_; clear HM; intro gb1014 w20 HM) | ((with_reducible refine gS 6 rfl ?_); refine pS 6 6 0 [.string ((rd_T67 x1013002_1 0).f0), .string ((rd_T67 x1013002_1 0).f1), .int .i64 ((rd_T67 x1013002_1 0).f2)] HM rfl rfl ?_; clear HM; intro w21 HM) | ((with_reducible refine gN 21 rfl ?_); refine pL 21 k67 67 ([] : List (S67)) [] (Reps.none _ _) HM rfl ?_; clear HM; intro v1016 w22 HM; replace HM := HM.nm 7 rfl Ny1015.out; obtain ⟨_,_,_,_,_,_,_,_,_,_⟩ := bk5 (HM.bx 5 rfl)) | ((with_reducible refine gate_sl (t := 68) rfl ?_); refine pRd 68 67 k67 _ _ 1 x1013002_1 (some ad1013) ko17 rfl Try.underlying68 info67 (HM.CR 0 rfl).2.2 (HM.CR 0 rfl).2.1 (by omega) (of_decide_eq_true AS) ?_; intro Yx25 bx25 hYx25 hbx25; have HYx25 := Aside0.mk hYx25; have HBx25 := Aside0.mk hbx25; clear hYx25 hbx25) | ((with_reducible refine gate_builtin (b := .append) (xs := #[.tmp 21, .tmp 24]) rfl ?_); refine pA 7 (.tmp 21) (.tmp 24) 68 67 k67 v1016 y1015 (x1013002_1.drop 1) Yx25 ((x1013002_1.drop 1).length) bx25 HM rfl Try.underlying68 info67 rfl HYx25.out (by have h_ := LMc26.out; omega) ?_; clear HM; intro v1023 w27 HM; replace HM := HM.nm 7 rfl Ny1022.out; obtain ⟨Xo28, ko28, rfl⟩ := HM.rdR 7 rfl) | ((with_reducible refine gS 26 rfl ?_); refine pS 5 26 2 [.slice Xo28 y1022.length ko28] HM rfl rfl ?_; clear HM; intro w29 HM; obtain ⟨_,_,_,_,_,_⟩ := bk3 (HM.bx 6 rfl)))
     replace HM := nzM HM
     replace H := IT H; rcases H with ⟨c31, H⟩ | ⟨c31, H⟩
     ·have c31b0 : decide (((rd_T67 x1013002_1 0).f2) ≤ 1) = true := decide_eq_true c31
      clear c31
      first|rw [c31b0]|(simp only [i64_w, i32_w]; rw [c31b0])|skip
      try go_wp2
      replace H := BN H; obtain ⟨t1025, A32, H⟩ := H
      replace H := BN H; obtain ⟨⟨t1026, t1027, t1028, t1031, t1034⟩, A33, H⟩ := H
      obtain ⟨Xo43, ko43, rfl⟩ := HM.rdR 1 rfl
      refine RGN 10 [0, 1, 2, 3, 4, 5, 6, 7, 8, 9] (fun a0 b a w' => ∃ (v1029 : Value) (v1032 : Value) (v1035 : Value), a = putSel a0 b [(0, 30, .agg #[.int .i64 t1001, .int .i64 t1002, .slice Xo28 y1022.length ko28, .slice Xo43 x1013003_1.length ko43, .slice Xo14 t1009.length ko14]), (1, 31, .pointer (some ⟨gb1014, 0, none⟩)), (2, 32, .string ((rd_T67 x1013002_1 0).f0)), (3, 33, .int .i64 t1025), (4, 34, .agg #[.int .i64 t1026, .int .i64 t1027, v1029, v1032, v1035]), (5, 35, .pointer (some ⟨gb1014, 0, none⟩)), (6, 36, .string ((rd_T67 x1013002_1 0).f0)), (8, 3, .string ((rd_T67 x1013002_1 0).f0)), (9, 4, .bool true)] ∧ Mem w [] w' [rowR k67 67 (.slice (some ad1013) x1013002_1.length ko17) x1013002_1, sel (b 4) (emp) (rowR k67 67 (.slice Xo43 x1013003_1.length ko43) x1013003_1), row (Kd.int .i64) 3 (.slice Xo14 t1009.length ko14) t1009, box 71 gb998 [.int .i64 a0_0, .int .i64 a0_1, .slice A0_2 l0_2.length c0_2, .slice A0_3 l0_3.length c0_3, .slice A0_4 l0_4.length c0_4], sel (b 7) (box 71 gb999 [.int .i64 t1026, .int .i64 t1027, v1029, v1032, v1035]) (box 71 gb999 [.int .i64 x1000000_1, .int .i64 x1000001_1, .slice none 0 0, .slice none 0 0, .slice none 0 0]), box 71 gb1012 [.int .i64 t1001, .int .i64 t1002, .slice Xo28 y1022.length ko28, .slice Xo43 x1013003_1.length ko43, .slice Xo14 t1009.length ko14], box 67 gb1014 [.string ((rd_T67 x1013002_1 0).f0), .string ((rd_T67 x1013002_1 0).f1), .int .i64 ((rd_T67 x1013002_1 0).f2)], sel (b 4) (emp) (rowR k67 67 (.slice Xo28 y1022.length ko28) y1022), sel (b 4) (rowR k67 67 v1029 t1028) (emp), sel (b 4) (rowR k67 67 v1032 t1031) (emp), sel (b 4) (row (Kd.int .i64) 3 v1035 t1034) (emp)]) spec_EvictSmall.tab8 spec_EvictSmall.bits8 ?_ ?_ ?_
      ·exact ⟨.bool false, .bool false, .bool false, PS0' rfl _, (HM.drew.ems 3).pick [0, 1, 2, 3, 4, 5, 6, 7, 8, 9, 10]⟩
      ·clear HM
       refine SZ ?_ ?_
       ·rintro b a w ⟨v1029, v1032, v1035, ha, HM⟩ hb hon hoff K hK
        replace ha := Aside0.mk ha
        obtain ⟨_,_,_,_,_,_,_,_,_,_⟩ := bk5 (HM.bx 5 rfl)
        have e5 := PG ha 5
        exact VL (.agg #[.int .i64 t1001, .int .i64 t1002, .slice Xo28 y1022.length ko28, .slice Xo43 x1013003_1.length ko43, .slice Xo14 t1009.length ko14]) (hK.out _ _ ⟨v1029, v1032, v1035, PUT ha 0 hb, HM⟩)
       refine SZ ?_ ?_
       ·rintro b a w ⟨v1029, v1032, v1035, ha, HM⟩ hb hon hoff K hK
        replace ha := Aside0.mk ha
        have e6 := PG ha 6
        exact VL (.pointer (some ⟨gb1014, 0, none⟩)) (hK.out _ _ ⟨v1029, v1032, v1035, PUT ha 1 hb, HM⟩)
       refine SZ ?_ ?_
       ·rintro b a w ⟨v1029, v1032, v1035, ha, HM⟩ hb hon hoff K hK
        replace ha := Aside0.mk ha
        obtain ⟨_,_,_,_,_,_⟩ := bk3 (HM.bx 6 rfl)
        have e31 := PE ha 1 hon
        exact VL (.string ((rd_T67 x1013002_1 0).f0)) (hK.out _ _ ⟨v1029, v1032, v1035, PUT ha 2 hb, HM⟩)
       refine SZ ?_ ?_
       ·rintro b a w ⟨v1029, v1032, v1035, ha, HM⟩ hb hon hoff K hK
        replace ha := Aside0.mk ha
        have e32 := PE ha 2 hon
        refine ST (eC (some 33) rfl #[.string ((rd_T67 x1013002_1 0).f0)] rfl Try.func110 (spec_Hash.calls k1 ((rd_T67 x1013002_1 0).f0) t1025 _ A32.out) ?_ (hargs := by (simp only [List.map_toArray, List.map_cons, List.map_nil, evc, eval_of e32]) <;> rfl))
        rintro e w46 ⟨rfl, hd⟩
        refine ⟨_, rfl, ?_⟩
        replace HM := HM.drawn hd
        clear hd
        exact hK.out _ _ ⟨v1029, v1032, v1035, PUT ha 3 hb, (HM).pick [0, 1, 2, 3, 4, 5, 6, 7, 8, 9, 10]⟩
       refine SZ ?_ ?_
       ·rintro b a w ⟨v1029, v1032, v1035, ha, HM⟩ hb hon hoff K hK
        replace ha := Aside0.mk ha
        replace HM := HM.sF 1 rfl hb
        replace HM := HM.sF 7 rfl hb
        have e30 := PE ha 0 hon
        have e33 := PE ha 3 hon
        refine ST (eC (some 34) rfl #[.agg #[.int .i64 t1001, .int .i64 t1002, .slice Xo28 y1022.length ko28, .slice Xo43 x1013003_1.length ko43, .slice Xo14 t1009.length ko14], .int .i64 t1025] rfl Try.func119 (spec_l10Haunt.calls k1 t1001 t1002 (.slice Xo28 y1022.length ko28) y1022 (.slice Xo43 x1013003_1.length ko43) x1013003_1 Xo14 ko14 t1009 t1025 t1026 t1027 t1028 t1031 t1034 _ _ _ (HM.focus [0, 3, 4, 5, 6, 8, 9, 10] [7, 1, 2]) A33.out) ?_ (hargs := by (simp only [List.map_toArray, List.map_cons, List.map_nil, evc, eval_of e30, eval_of e33]) <;> rfl))
        rintro e w47 ⟨v1029, v1032, v1035, rfl, hR⟩
        refine ⟨_, rfl, ?_⟩
        replace HM := nzM hR.unfocus
        clear hR
        exact hK.out _ _ ⟨v1029, v1032, v1035, PUT ha 4 hb, ((HM.em.em.sF 2 rfl (hoff 7 rfl)).iF 2 rfl (hoff 7 rfl)).pick [0, 12, 11, 1, 2, 3, 4, 13, 8, 9, 10]⟩
       refine SZ ?_ ?_
       ·rintro b a w ⟨v1029, v1032, v1035, ha, HM⟩ hb hon hoff K hK
        replace ha := Aside0.mk ha
        have e6 := PG ha 6
        exact VL (.pointer (some ⟨gb1014, 0, none⟩)) (hK.out _ _ ⟨v1029, v1032, v1035, PUT ha 5 hb, HM⟩)
       refine SZ ?_ ?_
       ·rintro b a w ⟨v1029, v1032, v1035, ha, HM⟩ hb hon hoff K hK
        replace ha := Aside0.mk ha
        obtain ⟨_,_,_,_,_,_⟩ := bk3 (HM.bx 6 rfl)
        have e35 := PE ha 5 hon
        exact VL (.string ((rd_T67 x1013002_1 0).f0)) (hK.out _ _ ⟨v1029, v1032, v1035, PUT ha 6 hb, HM⟩)
       refine SZ ?_ ?_
       ·rintro b a w ⟨v1029, v1032, v1035, ha, HM⟩ hb hon hoff K hK
        replace ha := Aside0.mk ha
        replace HM := HM.sF 4 rfl hb
        replace HM := HM.sT 8 rfl (hon 4 rfl)
        replace HM := HM.sT 9 rfl (hon 4 rfl)
        replace HM := HM.sT 10 rfl (hon 4 rfl)
        obtain ⟨Xo49, ko49, rfl⟩ := HM.rdR 8 rfl
        obtain ⟨Xo50, ko50, rfl⟩ := HM.rdR 9 rfl
        obtain ⟨Xo51, ko51, rfl⟩ := HM.rd 10 rfl
        have e2 := PG ha 2
        have e34 := PE ha 4 hon
        refine ST (eS 4 2 0 [.int .i64 t1026, .int .i64 t1027, .slice Xo49 t1028.length ko49, .slice Xo50 t1031.length ko50, .slice Xo51 t1034.length ko51] HM rfl rfl ?_ (hp := (eval_of e2)) (hx := (by rw [eval_of e34]; rfl)))
        clear HM
        intro w52 HM
        exact hK.out _ _ ⟨.slice Xo49 t1028.length ko49, .slice Xo50 t1031.length ko50, .slice Xo51 t1034.length ko51, PUS ha, (((HM.iT 8 rfl (hon 4 rfl)).iT 9 rfl (hon 4 rfl)).iT 10 rfl (hon 4 rfl)).pick [0, 1, 2, 3, 4, 5, 6, 7, 8, 9, 10]⟩
       refine SZ ?_ ?_
       ·rintro b a w ⟨v1029, v1032, v1035, ha, HM⟩ hb hon hoff K hK
        replace ha := Aside0.mk ha
        have e36 := PE ha 6 hon
        exact VL (.string ((rd_T67 x1013002_1 0).f0)) (hK.out _ _ ⟨v1029, v1032, v1035, PUT ha 7 hb, HM⟩)
       refine SZ ?_ ?_
       ·rintro b a w ⟨v1029, v1032, v1035, ha, HM⟩ hb hon hoff K hK
        replace ha := Aside0.mk ha
        exact VL (.bool true) (hK.out _ _ ⟨v1029, v1032, v1035, PUT ha 8 hb, HM⟩)
       exact steps_nil
      rintro _ w53 ⟨v1029, v1032, v1035, rfl, HM⟩
      replace HM := HM.sT 1 rfl rfl
      replace HM := HM.sT 4 rfl rfl
      replace HM := HM.sT 7 rfl rfl
      replace HM := HM.sT 8 rfl rfl
      replace HM := HM.sT 9 rfl rfl
      replace HM := HM.sT 10 rfl rfl
      simp only [putSel, if_true, Act.put, List.setIfInBounds_toArray, List.set_cons_zero, List.set_cons_succ, gt_iff_lt, ge_iff_le]
      simp only [Option.some.injEq, Prod.mk.injEq] at H
      obtain ⟨rfl, rfl, rfl, rfl, rfl, rfl, rfl⟩ := H
      go_wp2
      refine bodyPost_ret (results_ctt rfl _ _ gb999 71 #[.int .i64 t1026, .int .i64 t1027, v1029, v1032, v1035] (0, 0) _ rfl (HM.bx 4 rfl) Try.underlying71 rfl (by kernel_rfl)) rfl ?_
      exact ⟨_, _, _, ER, (MD HM).pick [8, 9, 10]⟩
     ·have c31b0 : decide (((rd_T67 x1013002_1 0).f2) ≤ 1) = false := decide_eq_false c31
      clear c31
      first|rw [c31b0]|(simp only [i64_w, i32_w]; rw [c31b0])|skip
      replace H := GD H; obtain ⟨c57, H⟩ := H
      have LMc57 := Aside0.mk c57
      clear c57
      have H' := Aside0.mk H
      clear H
      go_wp2_with (first | ((with_reducible refine gS 37 rfl ?_); refine pS 6 37 2 [.int .i64 0] HM rfl rfl ?_; clear HM; intro w54 HM; obtain ⟨_,_,_,_,_,_,_,_,_,_⟩ := bk5 (HM.bx 5 rfl); obtain ⟨_,_,_,_,_,_⟩ := bk3 (HM.bx 6 rfl)) | ((with_reducible refine gN 41 rfl ?_); refine pL 41 k67 67 [(⟨(rd_T67 x1013002_1 0).f0, (rd_T67 x1013002_1 0).f1, 0⟩ : S67)] [.string ((rd_T67 x1013002_1 0).f0), .string ((rd_T67 x1013002_1 0).f1), .int .i64 0] (Reps.c3 (show Kd.M k67 _ _ _ (⟨(rd_T67 x1013002_1 0).f0, (rd_T67 x1013002_1 0).f1, 0⟩ : S67) [.string ((rd_T67 x1013002_1 0).f0), .string ((rd_T67 x1013002_1 0).f1), .int .i64 0] from (k67_mkM _ _ _ (⟨(rd_T67 x1013002_1 0).f0, (rd_T67 x1013002_1 0).f1, 0⟩ : S67))) (Reps.none _ _)) HM rfl ?_; clear HM; intro v59 w58 HM; obtain ⟨Xv59, kv59, rfl⟩ := HM.rdR 8 rfl) | ((with_reducible refine gate_builtin (b := .append) (xs := #[.tmp 39, .tmp 41]) rfl ?_); refine pA 1 (.tmp 39) (.tmp 41) 68 67 k67 u1013003 x1013003_1 [(⟨(rd_T67 x1013002_1 0).f0, (rd_T67 x1013002_1 0).f1, 0⟩ : S67)] Xv59 ([(⟨(rd_T67 x1013002_1 0).f0, (rd_T67 x1013002_1 0).f1, 0⟩ : S67)].length) kv59 HM rfl Try.underlying68 info67 rfl (HM.CR 8 rfl).2.2 (by have h_ := LMc57.out; simp only [List.length_singleton]; omega) ?_; clear HM; intro v1038 w60 HM; obtain ⟨Xo61, ko61, rfl⟩ := HM.rdR 1 rfl) | ((with_reducible refine gS 43 rfl ?_); refine pS 5 43 3 [.slice Xo61 (x1013003_1 ++ [(⟨(rd_T67 x1013002_1 0).f0, (rd_T67 x1013002_1 0).f1, 0⟩ : S67)]).length ko61] HM rfl rfl ?_; clear HM; intro w62 HM))
      go_roundg k1
      case measure => have := HK1.out; omega
      case rel => exact ⟨(x1000000_1), (x1000001_1), (y1022), ((x1013003_1 ++ [(⟨(rd_T67 x1013002_1 0).f0, (rd_T67 x1013002_1 0).f1, 0⟩ : S67)])), (.slice Xo28 y1022.length ko28), (.slice Xo61 (x1013003_1 ++ [(⟨(rd_T67 x1013002_1 0).f0, (rd_T67 x1013002_1 0).f1, 0⟩ : S67)]).length ko61), H', ⟨by have := HK1.out; omega⟩, (MD HM).pick [7, 1, 2, 3, 4, 5]⟩
    ·replace c18 : ¬ ((x1013002_1.length : Int) > 0) := c18
     have c18b0 : decide (0 < (x1013002_1.length : Int)) = false := decide_eq_false c18
     have c18b1 : decide (0 < x1013002_1.length) = false := decide_eq_false (by omega)
     have c18b9 : decide (0 < x1013002_1.length) = false := decide_eq_false (by omega)
     clear c18
     first|rw [c18b0]|rw [c18b9]|(simp only [i64_w, i32_w]; rw [c18b0])|skip
     simp only [Option.some.injEq, Prod.mk.injEq] at H
     obtain ⟨rfl, rfl, rfl, rfl, rfl, rfl, rfl⟩ := H
     obtain ⟨Xo63, ko63, rfl⟩ := HM.rdR 1 rfl
     go_wp2_with (first | ((with_reducible refine gS 2 rfl ?_); refine pS 4 2 0 [.int .i64 t1001, .int .i64 t1002, .slice Xo17 x1013002_1.length ko17, .slice Xo63 x1013003_1.length ko63, .slice Xo14 t1009.length ko14] HM rfl rfl ?_; clear HM; intro w64 HM))
     refine bodyPost_ret (results_ctt rfl _ _ gb999 71 #[.int .i64 t1001, .int .i64 t1002, .slice Xo17 x1013002_1.length ko17, .slice Xo63 x1013003_1.length ko63, .slice Xo14 t1009.length ko14] (0, 0) _ rfl (HM.bx 4 rfl) Try.underlying71 rfl (by kernel_rfl)) rfl ?_
     exact ⟨_, _, _, ER, (MD HM).pick [0, 1, 2]⟩
 ·subst c7
  simp only [Option.some.injEq, Prod.mk.injEq] at H
  obtain ⟨rfl, rfl, rfl, rfl, rfl, rfl, rfl⟩ := H
  go_wp2_with (first | ((with_reducible refine gS 2 rfl ?_); refine pS 1 2 0 [.int .i64 0, .int .i64 0, .slice none 0 0, .slice none 0 0, .slice none 0 0] HM rfl rfl ?_; clear HM; intro w65 HM; replace HM := HM.nl k67 67; replace HM := HM.nl k67 67; replace HM := HM.nl (Kd.int .i64) 3; replace HM := HM.toQ 4 rfl))
  refine bodyPost_ret (results_ctt rfl _ _ gb999 71 #[.int .i64 0, .int .i64 0, .slice none 0 0, .slice none 0 0, .slice none 0 0] (0, 0) _ rfl (HM.bx 1 rfl) Try.underlying71 rfl (by kernel_rfl)) rfl ?_
  exact ⟨_, _, _, ER, (MD HM).pick [2, 3, 4]⟩
def spec_EvictMain.l0 : Nat → Int → Int → List (S67) → List (S67) → List Int → Option (Int × Int × (List (S67)) × (List (S67)) × List Int × ByteArray × Bool)
 | 0, _, _, _, _, _ => none
 | k + 1, x1058000, x1058001, x1058002, x1058003, x1058004 => if (x1058003.length : Int) > 0 then (if 0 < (x1058003.length : Int) then ((some (([] : List (S67)) : List (S67))).bind fun y1060 => (if 1 ≤ (x1058003.length : Int) then ((some (x1058003.drop 1 : List (S67))).bind fun y1063 => (if y1060.length + y1063.length < 3518437208883 then ((some (y1060 ++ y1063 : List (S67))).bind fun y1067 => (if ((rd_T67 x1058003 0).f2) = 0 then (some (x1058000, x1058001, x1058002, y1067, x1058004, (rd_T67 x1058003 0).f0, true)) else (if y1067.length < 3518437208883 then (spec_EvictMain.l0 k x1058000 x1058001 x1058002 (y1067 ++ [(⟨(rd_T67 x1058003 0).f0, (rd_T67 x1058003 0).f1, wrap64 (((rd_T67 x1058003 0).f2) - 1)⟩ : S67)]) x1058004) else (none)))) else (none))) else (none))) else (none)) else (some (x1058000, x1058001, x1058002, x1058003, x1058004, (⟨#[]⟩ : ByteArray), false))
def spec_EvictMain.f (k : Nat) (a0_0 : Int) (a0_1 : Int) (l0_2 : List (S67)) (l0_3 : List (S67)) (l0_4 : List Int) : Option (Int × Int × (List (S67)) × (List (S67)) × List Int × ByteArray × Bool) := (spec_ThreeOk.f k a0_0 a0_1 l0_2 l0_3 l0_4).bind fun t1045 => (if t1045 = true then ((spec_l10Copy.f a0_0 a0_1 l0_2 l0_3 l0_4).bind fun bt1046 => (spec_EvictMain.l0 k bt1046.1 bt1046.2.1 bt1046.2.2.1 bt1046.2.2.2.1 bt1046.2.2.2.2)) else (some (0, 0, ([] : List (S67)), ([] : List (S67)), ([] : List Int), (⟨#[]⟩ : ByteArray), false)))
def spec_EvictMain.T8 : Bool × List (List Nat × List Nat) := (true, [([], []), ([], []), ([1], [1]), ([0, 0], [0]), ([2, 3, 0, 1, 2, 3], [2]), ([4, 0, 1, 2, 3, 4], [])])
def spec_EvictMain.B8 : List Nat := [0, 0, 2, 1, 15, 31]
theorem spec_EvictMain.tab8 : rtab .any (opsOf Try.f117 8) = spec_EvictMain.T8 := by kernel_rfl
theorem spec_EvictMain.bits8 : waitsOk spec_EvictMain.T8.2 spec_EvictMain.B8 = true := by kernel_rfl
theorem spec_EvictMain.calls (k : Nat) (a0_0 : Int) (a0_1 : Int) (A0_2 : Option Addr) (c0_2 : Nat) (l0_2 : List (S67)) (A0_3 : Option Addr) (c0_3 : Nat) (l0_3 : List (S67)) (A0_4 : Option Addr) (c0_4 : Nat) (l0_4 : List Int) (r1 : Int) (r2 : Int) (r3 : List (S67)) (r4 : List (S67)) (r5 : List Int) (r6 : ByteArray) (r7 : Bool) (w : World) (hr0_2 : Kd.C k67 w A0_2 l0_2.length l0_2) (hc0_2 : l0_2.length ≤ c0_2) (hr0_3 : Kd.C k67 w A0_3 l0_3.length l0_3) (hc0_3 : l0_3.length ≤ c0_3) (hr0_4 : Kd.C (Kd.int .i64) w A0_4 l0_4.length l0_4) (hc0_4 : l0_4.length ≤ c0_4) (h : spec_EvictMain.f k a0_0 a0_1 l0_2 l0_3 l0_4 = some (r1, r2, r3, r4, r5, r6, r7)) :
  Calls Try.prog 117 #[.agg #[.int .i64 a0_0, .int .i64 a0_1, .slice A0_2 l0_2.length c0_2, .slice A0_3 l0_3.length c0_3, .slice A0_4 l0_4.length c0_4]] w fun e w' => ∃ v2_ v3_ v4_ : Value, e = .returned (.tuple #[.agg #[.int .i64 r1, .int .i64 r2, v2_, v3_, v4_], .string r6, .bool r7]) ∧ Mem w [] w' [rowR k67 67 v2_ r3, rowR k67 67 v3_ r4, rowR (Kd.int .i64) 3 v4_ r5] := by
 have hu71 := Try.underlying71
 have hu67 := Try.underlying67
 have HR0_2 := Aside0.mk hr0_2
 have HC0_2 := Aside0.mk hc0_2
 clear hr0_2 hc0_2
 have HR0_3 := Aside0.mk hr0_3
 have HC0_3 := Aside0.mk hc0_3
 clear hr0_3 hc0_3
 have HR0_4 := Aside0.mk hr0_4
 have HC0_4 := Aside0.mk hc0_4
 clear hr0_4 hc0_4
 have HM := Mem.nil w
 have H := h
 clear h
 unfold spec_EvictMain.f at H
 go_enter Try.func117, Try.ntmps117
 replace H := BN H; obtain ⟨t1045, A5, H⟩ := H
 go_upto_if 9 with (first | ((with_reducible refine gN 1 rfl ?_); refine pB 1 71 [.int .i64 a0_0, .int .i64 a0_1, .slice A0_2 l0_2.length c0_2, .slice A0_3 l0_3.length c0_3, .slice A0_4 l0_4.length c0_4] HM rfl ?_; clear HM; intro gb1043 w2 HM) | ((with_reducible refine gN 2 rfl ?_); refine pB 2 71 [.int .i64 0, .int .i64 0, .slice none 0 0, .slice none 0 0, .slice none 0 0] HM rfl ?_; clear HM; intro gb1044 w3 HM; obtain ⟨_,_,_,_,_,_,_,_,_,_⟩ := bk5 (HM.bx 0 rfl)) | ((with_reducible refine gC 91 rfl ?_); refine pC (some 8) rfl #[.agg #[.int .i64 a0_0, .int .i64 a0_1, .slice A0_2 l0_2.length c0_2, .slice A0_3 l0_3.length c0_3, .slice A0_4 l0_4.length c0_4]] rfl Try.func91 (spec_ThreeOk.calls k a0_0 a0_1 _ _ l0_2 _ _ l0_3 _ _ l0_4 t1045 _ (HM.came HR0_2.out) HC0_2.out (HM.came HR0_3.out) HC0_3.out (HM.came HR0_4.out) HC0_4.out A5.out) ?_; rintro e w6 ⟨rfl, hR⟩; refine ⟨_, rfl, ?_⟩; replace HM := HM.call hR; clear hR))
 replace HM := nzM HM
 replace H := IB H
 rcases H with ⟨c7, H⟩ | ⟨c7, H⟩
 ·subst c7
  replace H := BN H; obtain ⟨⟨t1046, t1047, t1048, t1051, t1054⟩, A9, H⟩ := H
  have H' := Aside0.mk H
  clear H
  obtain ⟨_,_,_,_,_,_,_,_,_,_⟩ := bk5 (HM.bx 0 rfl)
  go_wp2_with (first | ((with_reducible refine gC 108 rfl ?_); refine pC (some 12) rfl #[.agg #[.int .i64 a0_0, .int .i64 a0_1, .slice A0_2 l0_2.length c0_2, .slice A0_3 l0_3.length c0_3, .slice A0_4 l0_4.length c0_4]] rfl Try.func108 (spec_l10Copy.calls a0_0 a0_1 _ _ l0_2 _ _ l0_3 _ _ l0_4 t1046 t1047 t1048 t1051 t1054 _ (HM.came HR0_2.out) HC0_2.out (HM.came HR0_3.out) HC0_3.out (HM.came HR0_4.out) HC0_4.out A9.out) ?_; rintro e w10 ⟨v1049, v1052, v1055, rfl, hR⟩; refine ⟨_, rfl, ?_⟩; replace HM := HM.call hR; clear hR) | ((with_reducible refine gN 5 rfl ?_); refine pB 5 71 [.int .i64 0, .int .i64 0, .slice none 0 0, .slice none 0 0, .slice none 0 0] HM rfl ?_; clear HM; intro gb1057 w11 HM; obtain ⟨Xo12, ko12, rfl⟩ := HM.rdR 2 rfl; obtain ⟨Xo13, ko13, rfl⟩ := HM.rdR 3 rfl; obtain ⟨Xo14, ko14, rfl⟩ := HM.rdR 4 rfl) | ((with_reducible refine gS 5 rfl ?_); refine pS 5 5 0 [.int .i64 t1046, .int .i64 t1047, .slice Xo12 t1048.length ko12, .slice Xo13 t1051.length ko13, .slice Xo14 t1054.length ko14] HM rfl rfl ?_; clear HM; intro w15 HM))
  go_loopg [] k (fun kq w' => ∃ (x1045000_1 : Int) (x1045001_1 : Int) (x1058003_1 : List (S67)) (u1058003 : Value), Aside0 (spec_EvictMain.l0 kq t1046 t1047 t1048 x1058003_1 t1054 = some (r1, r2, r3, r4, r5, r6, r7)) ∧ Aside0 (kq ≤ k) ∧ Mem w [] w' [rowR k67 67 (.slice Xo12 t1048.length ko12) t1048, rowR k67 67 u1058003 x1058003_1, rowR (Kd.int .i64) 3 (.slice Xo14 t1054.length ko14) t1054, box 71 gb1043 [.int .i64 a0_0, .int .i64 a0_1, .slice A0_2 l0_2.length c0_2, .slice A0_3 l0_3.length c0_3, .slice A0_4 l0_4.length c0_4], box 71 gb1044 [.int .i64 x1045000_1, .int .i64 x1045001_1, .slice none 0 0, .slice none 0 0, .slice none 0 0], box 71 gb1057 [.int .i64 t1046, .int .i64 t1047, (.slice Xo12 t1048.length ko12), u1058003, (.slice Xo14 t1054.length ko14)]])
  case atStart => exact ⟨(0), (0), (t1051), (.slice Xo13 t1051.length ko13), H', ⟨Nat.le_refl _⟩, (MD HM).pick [2, 3, 4, 0, 1, 5]⟩
  case round =>
   clear H' HM
   obtain ⟨x1045000_1, x1045001_1, x1058003_1, u1058003, HA, HK1, HM⟩ := hrel
   cases gk with
   | zero => exact absurd HA.out (by simp [spec_EvictMain.l0])
   | succ k1 =>
    have H := HA.out
    clear HA
    simp only [spec_EvictMain.l0] at H
    obtain ⟨_,_,_,_,_,_,_,_,_,_⟩ := bk5 (HM.bx 5 rfl)
    obtain ⟨Xo17, ko17, rfl⟩ := HM.rdR 1 rfl
    go_upto_if 16 with (fail)
    replace H := IT H; rcases H with ⟨c18, H⟩ | ⟨c18, H⟩
    ·replace c18 : (x1058003_1.length : Int) > 0 := c18
     have c18b0 : decide (0 < (x1058003_1.length : Int)) = true := decide_eq_true c18
     have c18b1 : decide (0 < x1058003_1.length) = true := decide_eq_true (by omega)
     have c18b9 : decide (0 < x1058003_1.length) = true := decide_eq_true (by omega)
     clear c18
     first|rw [c18b0]|rw [c18b9]|(simp only [i64_w, i32_w]; rw [c18b0])|skip
     replace H := GD H; obtain ⟨c19, H⟩ := H
     replace c19 : 0 < (x1058003_1.length : Int) := c19
     have c19b0 : decide (0 < (x1058003_1.length : Int)) = true := decide_eq_true c19
     have c19b1 : decide (0 < x1058003_1.length) = true := decide_eq_true (by omega)
     have c19b9 : decide (0 < x1058003_1.length) = true := decide_eq_true (by omega)
     clear c19
     replace H := BLt H; obtain ⟨y1060, Ny1060, H⟩ := H
     replace Ny1060 := Aside0.mk Ny1060
     replace H := GD H; obtain ⟨c24, H⟩ := H
     have c24b0 := eq_true c24
     have c24b1 : decide (1 ≤ (x1058003_1.length : Int)) = true := decide_eq_true c24
     clear c24
     replace H := BLt H; obtain ⟨_, rfl, H⟩ := H
     replace H := GD H; obtain ⟨c26, H⟩ := H
     have LMc26 := Aside0.mk c26
     clear c26
     replace H := BLt H; obtain ⟨y1067, Ny1067, H⟩ := H
     replace Ny1067 := Aside0.mk Ny1067
     have p1058 : 0 ≤ (0 : Int) := (by omega)
     have q1058 : (0 : Int) < (x1058003_1.length : Int) := of_decide_eq_true AS
     obtain ⟨ad1058, e1058, hx1058_0, hx1058_1, hx1058_2⟩ := at_T67 (HM.CR 1 rfl).2.2 0 p1058 q1058
     cases e1058
     have qi1058 : (0 < x1058003_1.length) = True := eq_true (by omega)
     (try rw [show ((0 : Int)).toNat = 0 from rfl] at hx1058_0)
     (try rw [show 0 * 3 = 0 from rfl] at hx1058_0)
     (try rw [Addr.add_zero'] at hx1058_0)
     (try rw [show ((0 : Int)).toNat = 0 from rfl] at hx1058_1)
     (try rw [show 0 * 3 = 0 from rfl] at hx1058_1)
     (try rw [Addr.add_zero'] at hx1058_1)
     (try rw [show ((0 : Int)).toNat = 0 from rfl] at hx1058_2)
     (try rw [show 0 * 3 = 0 from rfl] at hx1058_2)
     (try rw [Addr.add_zero'] at hx1058_2)
     replace p1058 := eq_true p1058
     replace q1058 := eq_true q1058
     go_upto_if 29 with (first | ((with_reducible refine gN 6 rfl ?_); refine pB 6 67 [.string (⟨#[]⟩ : ByteArray), .string (⟨#[]⟩ : ByteArray), .int .i64 0] HM rfl ?_; clear HM; intro gb1059 w20 HM) | ((with_reducible refine gS 6 rfl ?_); refine pS 6 6 0 [.string ((rd_T67 x1058003_1 0).f0), .string ((rd_T67 x1058003_1 0).f1), .int .i64 ((rd_T67 x1058003_1 0).f2)] HM rfl rfl ?_; clear HM; intro w21 HM) | ((with_reducible refine gN 21 rfl ?_); refine pL 21 k67 67 ([] : List (S67)) [] (Reps.none _ _) HM rfl ?_; clear HM; intro v1061 w22 HM; replace HM := HM.nm 7 rfl Ny1060.out; obtain ⟨_,_,_,_,_,_,_,_,_,_⟩ := bk5 (HM.bx 5 rfl)) | ((with_reducible refine gate_sl (t := 68) rfl ?_); refine pRd 68 67 k67 _ _ 1 x1058003_1 (some ad1058) ko17 rfl Try.underlying68 info67 (HM.CR 1 rfl).2.2 (HM.CR 1 rfl).2.1 (by omega) (of_decide_eq_true AS) ?_; intro Yx25 bx25 hYx25 hbx25; have HYx25 := Aside0.mk hYx25; have HBx25 := Aside0.mk hbx25; clear hYx25 hbx25) | ((with_reducible refine gate_builtin (b := .append) (xs := #[.tmp 21, .tmp 24]) rfl ?_); refine pA 7 (.tmp 21) (.tmp 24) 68 67 k67 v1061 y1060 (x1058003_1.drop 1) Yx25 ((x1058003_1.drop 1).length) bx25 HM rfl Try.underlying68 info67 rfl HYx25.out (by have h_ := LMc26.out; omega) ?_; clear HM; intro v1068 w27 HM; replace HM := HM.nm 7 rfl Ny1067.out; obtain ⟨Xo28, ko28, rfl⟩ := HM.rdR 7 rfl) | ((with_reducible refine gS 26 rfl ?_); refine pS 5 26 3 [.slice Xo28 y1067.length ko28] HM rfl rfl ?_; clear HM; intro w29 HM; obtain ⟨_,_,_,_,_,_⟩ := bk3 (HM.bx 6 rfl)))
     replace HM := nzM HM
     replace H := IT H; rcases H with ⟨c31, H⟩ | ⟨c31, H⟩
     ·have c31b0 : (((rd_T67 x1058003_1 0).f2) == 0) = true := beq_iff_eq.mpr c31
      have c31b1 : (((rd_T67 x1058003_1 0).f2) != 0) = false := bne_eq_false_iff_eq.mpr c31
      clear c31
      first|rw [c31b0]|(simp only [i64_w, i32_w]; rw [c31b0])|skip
      try go_wp2
      refine RGN 6 [0, 1, 2, 3, 4, 5] (fun a0 b a w' => a = putSel a0 b [(0, 30, .agg #[.int .i64 t1046, .int .i64 t1047, .slice Xo12 t1048.length ko12, .slice Xo28 y1067.length ko28, .slice Xo14 t1054.length ko14]), (1, 31, .pointer (some ⟨gb1059, 0, none⟩)), (2, 32, .string ((rd_T67 x1058003_1 0).f0)), (4, 3, .string ((rd_T67 x1058003_1 0).f0)), (5, 4, .bool true)] ∧ Mem w [] w' [rowR k67 67 (.slice Xo12 t1048.length ko12) t1048, rowR k67 67 (.slice (some ad1058) x1058003_1.length ko17) x1058003_1, rowR (Kd.int .i64) 3 (.slice Xo14 t1054.length ko14) t1054, box 71 gb1043 [.int .i64 a0_0, .int .i64 a0_1, .slice A0_2 l0_2.length c0_2, .slice A0_3 l0_3.length c0_3, .slice A0_4 l0_4.length c0_4], sel (b 3) (box 71 gb1044 [.int .i64 t1046, .int .i64 t1047, .slice Xo12 t1048.length ko12, .slice Xo28 y1067.length ko28, .slice Xo14 t1054.length ko14]) (box 71 gb1044 [.int .i64 x1045000_1, .int .i64 x1045001_1, .slice none 0 0, .slice none 0 0, .slice none 0 0]), box 71 gb1057 [.int .i64 t1046, .int .i64 t1047, .slice Xo12 t1048.length ko12, .slice Xo28 y1067.length ko28, .slice Xo14 t1054.length ko14], box 67 gb1059 [.string ((rd_T67 x1058003_1 0).f0), .string ((rd_T67 x1058003_1 0).f1), .int .i64 ((rd_T67 x1058003_1 0).f2)], rowR k67 67 (.slice Xo28 y1067.length ko28) y1067]) spec_EvictMain.tab8 spec_EvictMain.bits8 ?_ ?_ ?_
      ·exact ⟨PS0' rfl _, (HM.drew).pick [0, 1, 2, 3, 4, 5, 6, 7]⟩
      ·clear HM
       refine SY ?_ ?_
       ·intro b a w ha HM hb hon hoff K hK
        obtain ⟨_,_,_,_,_,_,_,_,_,_⟩ := bk5 (HM.bx 5 rfl)
        have e5 := PG ha 5
        exact VL (.agg #[.int .i64 t1046, .int .i64 t1047, .slice Xo12 t1048.length ko12, .slice Xo28 y1067.length ko28, .slice Xo14 t1054.length ko14]) (hK.out _ _ ⟨PUT ha 0 hb, HM⟩)
       refine SY ?_ ?_
       ·intro b a w ha HM hb hon hoff K hK
        have e6 := PG ha 6
        exact VL (.pointer (some ⟨gb1059, 0, none⟩)) (hK.out _ _ ⟨PUT ha 1 hb, HM⟩)
       refine SY ?_ ?_
       ·intro b a w ha HM hb hon hoff K hK
        obtain ⟨_,_,_,_,_,_⟩ := bk3 (HM.bx 6 rfl)
        have e31 := PE ha 1 hon
        exact VL (.string ((rd_T67 x1058003_1 0).f0)) (hK.out _ _ ⟨PUT ha 2 hb, HM⟩)
       refine SY ?_ ?_
       ·intro b a w ha HM hb hon hoff K hK
        replace HM := HM.sF 4 rfl hb
        have e2 := PG ha 2
        have e30 := PE ha 0 hon
        refine ST (eS 4 2 0 [.int .i64 t1046, .int .i64 t1047, .slice Xo12 t1048.length ko12, .slice Xo28 y1067.length ko28, .slice Xo14 t1054.length ko14] HM rfl rfl ?_ (hp := (eval_of e2)) (hx := (by rw [eval_of e30]; rfl)))
        clear HM
        intro w37 HM
        exact hK.out _ _ ⟨PUS ha, (HM).pick [0, 1, 2, 3, 4, 5, 6, 7]⟩
       refine SY ?_ ?_
       ·intro b a w ha HM hb hon hoff K hK
        have e32 := PE ha 2 hon
        exact VL (.string ((rd_T67 x1058003_1 0).f0)) (hK.out _ _ ⟨PUT ha 3 hb, HM⟩)
       refine SY ?_ ?_
       ·intro b a w ha HM hb hon hoff K hK
        exact VL (.bool true) (hK.out _ _ ⟨PUT ha 4 hb, HM⟩)
       exact steps_nil
      rintro _ w38 ⟨rfl, HM⟩
      replace HM := HM.sT 4 rfl rfl
      simp only [putSel, if_true, Act.put, List.setIfInBounds_toArray, List.set_cons_zero, List.set_cons_succ, gt_iff_lt, ge_iff_le]
      simp only [Option.some.injEq, Prod.mk.injEq] at H
      obtain ⟨rfl, rfl, rfl, rfl, rfl, rfl, rfl⟩ := H
      go_wp2
      refine bodyPost_ret (results_ctt rfl _ _ gb1044 71 #[.int .i64 t1046, .int .i64 t1047, .slice Xo12 t1048.length ko12, .slice Xo28 y1067.length ko28, .slice Xo14 t1054.length ko14] (0, 0) _ rfl (HM.bx 4 rfl) Try.underlying71 rfl (by kernel_rfl)) rfl ?_
      exact ⟨_, _, _, ER, (MD HM).pick [0, 7, 2]⟩
     ·have c31b0 : (((rd_T67 x1058003_1 0).f2) == 0) = false := beq_eq_false_iff_ne.mpr c31
      have c31b1 : (((rd_T67 x1058003_1 0).f2) != 0) = true := bne_iff_ne.mpr c31
      first|rw [c31b0]|(simp only [i64_w, i32_w]; rw [c31b0])|skip
      replace H := GD H; obtain ⟨c42, H⟩ := H
      have LMc42 := Aside0.mk c42
      clear c42
      have H' := Aside0.mk H
      clear H
      go_wp2_with (first | ((with_reducible refine gS 36 rfl ?_); refine pS 6 36 2 [.int .i64 (wrap64 (((rd_T67 x1058003_1 0).f2) - 1))] HM rfl rfl ?_; clear HM; intro w39 HM; obtain ⟨_,_,_,_,_,_,_,_,_,_⟩ := bk5 (HM.bx 5 rfl); obtain ⟨_,_,_,_,_,_⟩ := bk3 (HM.bx 6 rfl)) | ((with_reducible refine gN 40 rfl ?_); refine pL 40 k67 67 [(⟨(rd_T67 x1058003_1 0).f0, (rd_T67 x1058003_1 0).f1, wrap64 (((rd_T67 x1058003_1 0).f2) - 1)⟩ : S67)] [.string ((rd_T67 x1058003_1 0).f0), .string ((rd_T67 x1058003_1 0).f1), .int .i64 (wrap64 (((rd_T67 x1058003_1 0).f2) - 1))] (Reps.c3 (show Kd.M k67 _ _ _ (⟨(rd_T67 x1058003_1 0).f0, (rd_T67 x1058003_1 0).f1, wrap64 (((rd_T67 x1058003_1 0).f2) - 1)⟩ : S67) [.string ((rd_T67 x1058003_1 0).f0), .string ((rd_T67 x1058003_1 0).f1), .int .i64 (wrap64 (((rd_T67 x1058003_1 0).f2) - 1))] from (k67_mkM _ _ _ (⟨(rd_T67 x1058003_1 0).f0, (rd_T67 x1058003_1 0).f1, wrap64 (((rd_T67 x1058003_1 0).f2) - 1)⟩ : S67))) (Reps.none _ _)) HM rfl ?_; clear HM; intro v44 w43 HM; obtain ⟨Xv44, kv44, rfl⟩ := HM.rdR 8 rfl) | ((with_reducible refine gate_builtin (b := .append) (xs := #[.tmp 38, .tmp 40]) rfl ?_); refine pA 7 (.tmp 38) (.tmp 40) 68 67 k67 (.slice Xo28 y1067.length ko28) y1067 [(⟨(rd_T67 x1058003_1 0).f0, (rd_T67 x1058003_1 0).f1, wrap64 (((rd_T67 x1058003_1 0).f2) - 1)⟩ : S67)] Xv44 ([(⟨(rd_T67 x1058003_1 0).f0, (rd_T67 x1058003_1 0).f1, wrap64 (((rd_T67 x1058003_1 0).f2) - 1)⟩ : S67)].length) kv44 HM rfl Try.underlying68 info67 rfl (HM.CR 8 rfl).2.2 (by have h_ := LMc42.out; simp only [List.length_singleton]; omega) ?_; clear HM; intro v1071 w45 HM; obtain ⟨Xo46, ko46, rfl⟩ := HM.rdR 7 rfl) | ((with_reducible refine gS 42 rfl ?_); refine pS 5 42 3 [.slice Xo46 (y1067 ++ [(⟨(rd_T67 x1058003_1 0).f0, (rd_T67 x1058003_1 0).f1, wrap64 (((rd_T67 x1058003_1 0).f2) - 1)⟩ : S67)]).length ko46] HM rfl rfl ?_; clear HM; intro w47 HM))
      go_roundg k1
      case measure => have := HK1.out; omega
      case rel => exact ⟨(x1045000_1), (x1045001_1), ((y1067 ++ [(⟨(rd_T67 x1058003_1 0).f0, (rd_T67 x1058003_1 0).f1, wrap64 (((rd_T67 x1058003_1 0).f2) - 1)⟩ : S67)])), (.slice Xo46 (y1067 ++ [(⟨(rd_T67 x1058003_1 0).f0, (rd_T67 x1058003_1 0).f1, wrap64 (((rd_T67 x1058003_1 0).f2) - 1)⟩ : S67)]).length ko46), H', ⟨by have := HK1.out; omega⟩, (MD HM).pick [0, 7, 2, 3, 4, 5]⟩
    ·replace c18 : ¬ ((x1058003_1.length : Int) > 0) := c18
     have c18b0 : decide (0 < (x1058003_1.length : Int)) = false := decide_eq_false c18
     have c18b1 : decide (0 < x1058003_1.length) = false := decide_eq_false (by omega)
     have c18b9 : decide (0 < x1058003_1.length) = false := decide_eq_false (by omega)
     clear c18
     first|rw [c18b0]|rw [c18b9]|(simp only [i64_w, i32_w]; rw [c18b0])|skip
     simp only [Option.some.injEq, Prod.mk.injEq] at H
     obtain ⟨rfl, rfl, rfl, rfl, rfl, rfl, rfl⟩ := H
     go_wp2_with (first | ((with_reducible refine gS 2 rfl ?_); refine pS 4 2 0 [.int .i64 t1046, .int .i64 t1047, .slice Xo12 t1048.length ko12, .slice Xo17 x1058003_1.length ko17, .slice Xo14 t1054.length ko14] HM rfl rfl ?_; clear HM; intro w48 HM))
     refine bodyPost_ret (results_ctt rfl _ _ gb1044 71 #[.int .i64 t1046, .int .i64 t1047, .slice Xo12 t1048.length ko12, .slice Xo17 x1058003_1.length ko17, .slice Xo14 t1054.length ko14] (0, 0) _ rfl (HM.bx 4 rfl) Try.underlying71 rfl (by kernel_rfl)) rfl ?_
     exact ⟨_, _, _, ER, (MD HM).pick [0, 1, 2]⟩
 ·subst c7
  simp only [Option.some.injEq, Prod.mk.injEq] at H
  obtain ⟨rfl, rfl, rfl, rfl, rfl, rfl, rfl⟩ := H
  go_wp2_with (first | ((with_reducible refine gS 2 rfl ?_); refine pS 1 2 0 [.int .i64 0, .int .i64 0, .slice none 0 0, .slice none 0 0, .slice none 0 0] HM rfl rfl ?_; clear HM; intro w49 HM; replace HM := HM.nl k67 67; replace HM := HM.nl k67 67; replace HM := HM.nl (Kd.int .i64) 3))
  refine bodyPost_ret (results_ctt rfl _ _ gb1044 71 #[.int .i64 0, .int .i64 0, .slice none 0 0, .slice none 0 0, .slice none 0 0] (0, 0) _ rfl (HM.bx 1 rfl) Try.underlying71 rfl (by kernel_rfl)) rfl ?_
  exact ⟨_, _, _, ER, (MD HM).pick [2, 3, 4]⟩
def spec_Evict.j0 : Nat → Bool → Int → Int → List (S67) → List (S67) → List Int → Option (Int × Int × (List (S67)) × (List (S67)) × List Int × ByteArray × Bool)
 | 0, _, _, _, _, _, _ => none
 | k + 1, x23, x1077000, x1077001, x1077002, x1077003, x1077004 => if x23 = true then ((spec_EvictSmall.f k x1077000 x1077001 x1077002 x1077003 x1077004).bind fun bt1079 => (if bt1079.2.2.2.2.2.2 = true then (some (bt1079.1, bt1079.2.1, bt1079.2.2.1, bt1079.2.2.2.1, bt1079.2.2.2.2.1, bt1079.2.2.2.2.2.1, true)) else ((spec_EvictMain.f k bt1079.1 bt1079.2.1 bt1079.2.2.1 bt1079.2.2.2.1 bt1079.2.2.2.2.1).bind fun bt1093 => (some (bt1093.1, bt1093.2.1, bt1093.2.2.1, bt1093.2.2.2.1, bt1093.2.2.2.2.1, bt1093.2.2.2.2.2.1, bt1093.2.2.2.2.2.2))))) else ((spec_EvictMain.f k x1077000 x1077001 x1077002 x1077003 x1077004).bind fun bt1106 => (some (bt1106.1, bt1106.2.1, bt1106.2.2.1, bt1106.2.2.2.1, bt1106.2.2.2.2.1, bt1106.2.2.2.2.2.1, bt1106.2.2.2.2.2.2)))
def spec_Evict.f (k : Nat) (a0_0 : Int) (a0_1 : Int) (l0_2 : List (S67)) (l0_3 : List (S67)) (l0_4 : List Int) : Option (Int × Int × (List (S67)) × (List (S67)) × List Int × ByteArray × Bool) := (spec_ThreeOk.f k a0_0 a0_1 l0_2 l0_3 l0_4).bind fun t1078 => (if t1078 = true then (if (l0_2.length : Int) ≥ a0_1 then (spec_Evict.j0 k true a0_0 a0_1 l0_2 l0_3 l0_4) else (spec_Evict.j0 k ((l0_3.length : Int) == 0) a0_0 a0_1 l0_2 l0_3 l0_4)) else (some (0, 0, ([] : List (S67)), ([] : List (S67)), ([] : List Int), (⟨#[]⟩ : ByteArray), false)))
theorem spec_Evict.calls (k : Nat) (a0_0 : Int) (a0_1 : Int) (A0_2 : Option Addr) (c0_2 : Nat) (l0_2 : List (S67)) (A0_3 : Option Addr) (c0_3 : Nat) (l0_3 : List (S67)) (A0_4 : Option Addr) (c0_4 : Nat) (l0_4 : List Int) (r1 : Int) (r2 : Int) (r3 : List (S67)) (r4 : List (S67)) (r5 : List Int) (r6 : ByteArray) (r7 : Bool) (w : World) (hr0_2 : Kd.C k67 w A0_2 l0_2.length l0_2) (hc0_2 : l0_2.length ≤ c0_2) (hr0_3 : Kd.C k67 w A0_3 l0_3.length l0_3) (hc0_3 : l0_3.length ≤ c0_3) (hr0_4 : Kd.C (Kd.int .i64) w A0_4 l0_4.length l0_4) (hc0_4 : l0_4.length ≤ c0_4) (h : spec_Evict.f k a0_0 a0_1 l0_2 l0_3 l0_4 = some (r1, r2, r3, r4, r5, r6, r7)) :
  Calls Try.prog 109 #[.agg #[.int .i64 a0_0, .int .i64 a0_1, .slice A0_2 l0_2.length c0_2, .slice A0_3 l0_3.length c0_3, .slice A0_4 l0_4.length c0_4]] w fun e w' => ∃ v2_ v3_ v4_ : Value, e = .returned (.tuple #[.agg #[.int .i64 r1, .int .i64 r2, v2_, v3_, v4_], .string r6, .bool r7]) ∧ Mem w [] w' [rowR k67 67 v2_ r3, rowR k67 67 v3_ r4, row (Kd.int .i64) 3 v4_ r5] := by
 have hu71 := Try.underlying71
 have HR0_2 := Aside0.mk hr0_2
 have HC0_2 := Aside0.mk hc0_2
 clear hr0_2 hc0_2
 have HR0_3 := Aside0.mk hr0_3
 have HC0_3 := Aside0.mk hc0_3
 clear hr0_3 hc0_3
 have HR0_4 := Aside0.mk hr0_4
 have HC0_4 := Aside0.mk hc0_4
 clear hr0_4 hc0_4
 have HM := Mem.nil w
 have H := h
 clear h
 unfold spec_Evict.f at H
 go_enter Try.func109, Try.ntmps109
 replace H := BN H; obtain ⟨t1078, A5, H⟩ := H
 go_upto_if 10 with (first | ((with_reducible refine gN 1 rfl ?_); refine pB 1 71 [.int .i64 a0_0, .int .i64 a0_1, .slice A0_2 l0_2.length c0_2, .slice A0_3 l0_3.length c0_3, .slice A0_4 l0_4.length c0_4] HM rfl ?_; clear HM; intro gb1076 w2 HM) | ((with_reducible refine gN 2 rfl ?_); refine pB 2 71 [.int .i64 0, .int .i64 0, .slice none 0 0, .slice none 0 0, .slice none 0 0] HM rfl ?_; clear HM; intro gb1077 w3 HM; obtain ⟨_,_,_,_,_,_,_,_,_,_⟩ := bk5 (HM.bx 0 rfl)) | ((with_reducible refine gC 91 rfl ?_); refine pC (some 9) rfl #[.agg #[.int .i64 a0_0, .int .i64 a0_1, .slice A0_2 l0_2.length c0_2, .slice A0_3 l0_3.length c0_3, .slice A0_4 l0_4.length c0_4]] rfl Try.func91 (spec_ThreeOk.calls k a0_0 a0_1 _ _ l0_2 _ _ l0_3 _ _ l0_4 t1078 _ (HM.came HR0_2.out) HC0_2.out (HM.came HR0_3.out) HC0_3.out (HM.came HR0_4.out) HC0_4.out A5.out) ?_; rintro e w6 ⟨rfl, hR⟩; refine ⟨_, rfl, ?_⟩; replace HM := HM.call hR; clear hR))
 replace HM := nzM HM
 replace H := IB H
 rcases H with ⟨c7, H⟩ | ⟨c7, H⟩
 ·subst c7
  have HC8 := Aside0.mk H
  clear H
  go_upto_region 3 with (fail)
  go_cut [23] (fun v23 wc => ∃ (kq : Nat) (x23_7 : Bool), v23 = .bool x23_7 ∧ Aside0 (spec_Evict.j0 kq x23_7 a0_0 a0_1 l0_2 l0_3 l0_4 = some (r1, r2, r3, r4, r5, r6, r7)) ∧ Aside0 (kq ≤ k) ∧ Mem w [] wc [box 71 gb1076 [.int .i64 a0_0, .int .i64 a0_1, .slice A0_2 l0_2.length c0_2, .slice A0_3 l0_3.length c0_3, .slice A0_4 l0_4.length c0_4], box 71 gb1077 [.int .i64 0, .int .i64 0, .slice none 0 0, .slice none 0 0, .slice none 0 0]])
  case first =>
   have H := HC8.out
   clear HC8
   replace H := IT H; rcases H with ⟨c10, H⟩ | ⟨c10, H⟩
   ·have c10b0 : decide (a0_1 ≤ (l0_2.length : Int)) = true := decide_eq_true c10
    clear c10
    have H' := Aside0.mk H
    clear H
    obtain ⟨_,_,_,_,_,_,_,_,_,_⟩ := bk5 (HM.bx 0 rfl)
    go_wp2
    go_meet
    case rel => exact ⟨_, (true), RS, H', ⟨by first | omega | exact Nat.le_refl _⟩, (MD HM).pick [0, 1]⟩
   ·have c10b0 : decide (a0_1 ≤ (l0_2.length : Int)) = false := decide_eq_false c10
    clear c10
    have H' := Aside0.mk H
    clear H
    obtain ⟨_,_,_,_,_,_,_,_,_,_⟩ := bk5 (HM.bx 0 rfl)
    go_wp2
    go_meet
    case rel => exact ⟨_, (((l0_3.length : Int) == 0)), RS, H', ⟨by first | omega | exact Nat.le_refl _⟩, (MD HM).pick [0, 1]⟩
  case rest =>
   clear HC8 HM
   obtain ⟨kq, x23_7, rfl, HA, HJ7, HM⟩ := hcut
   cases kq with
   | zero => exact absurd HA.out (by simp [spec_Evict.j0])
   | succ kj7 =>
    have H := HA.out
    clear HA
    simp only [spec_Evict.j0] at H
    go_upto_if 23 with (fail)
    replace H := IB H
    rcases H with ⟨c11, H⟩ | ⟨c11, H⟩
    ·subst c11
     replace H := BN H; obtain ⟨⟨t1079, t1080, t1081, t1084, t1087, t1090, t1091⟩, A13, H⟩ := H
     obtain ⟨_,_,_,_,_,_,_,_,_,_⟩ := bk5 (HM.bx 0 rfl)
     go_upto_if 30 with (first | ((with_reducible refine gC 116 rfl ?_); refine pC (some 26) rfl #[.agg #[.int .i64 a0_0, .int .i64 a0_1, .slice A0_2 l0_2.length c0_2, .slice A0_3 l0_3.length c0_3, .slice A0_4 l0_4.length c0_4]] rfl Try.func116 (spec_EvictSmall.calls kj7 a0_0 a0_1 _ _ l0_2 _ _ l0_3 _ _ l0_4 t1079 t1080 t1081 t1084 t1087 t1090 t1091 _ (HM.came HR0_2.out) HC0_2.out (HM.came HR0_3.out) HC0_3.out (HM.came HR0_4.out) HC0_4.out A13.out) ?_; rintro e w14 ⟨v1082, v1085, v1088, rfl, hR⟩; refine ⟨_, rfl, ?_⟩; replace HM := HM.call hR; clear hR) | ((with_reducible refine gN 5 rfl ?_); refine pB 5 71 [.int .i64 0, .int .i64 0, .slice none 0 0, .slice none 0 0, .slice none 0 0] HM rfl ?_; clear HM; intro gb1092 w15 HM; obtain ⟨Xo16, ko16, rfl⟩ := HM.rdR 2 rfl; obtain ⟨Xo17, ko17, rfl⟩ := HM.rdR 3 rfl; obtain ⟨Xo18, ko18, rfl⟩ := HM.rd 4 rfl) | ((with_reducible refine gS 5 rfl ?_); refine pS 5 5 0 [.int .i64 t1079, .int .i64 t1080, .slice Xo16 t1081.length ko16, .slice Xo17 t1084.length ko17, .slice Xo18 t1087.length ko18] HM rfl rfl ?_; clear HM; intro w19 HM))
     replace HM := nzM HM
     replace H := IB H
     rcases H with ⟨c20, H⟩ | ⟨c20, H⟩
     ·subst c20
      simp only [Option.some.injEq, Prod.mk.injEq] at H
      obtain ⟨rfl, rfl, rfl, rfl, rfl, rfl, rfl⟩ := H
      obtain ⟨_,_,_,_,_,_,_,_,_,_⟩ := bk5 (HM.bx 5 rfl)
      go_wp2_with (first | ((with_reducible refine gS 2 rfl ?_); refine pS 1 2 0 [.int .i64 t1079, .int .i64 t1080, .slice Xo16 t1081.length ko16, .slice Xo17 t1084.length ko17, .slice Xo18 t1087.length ko18] HM rfl rfl ?_; clear HM; intro w22 HM))
      refine bodyPost_ret (results_ctt rfl _ _ gb1077 71 #[.int .i64 t1079, .int .i64 t1080, .slice Xo16 t1081.length ko16, .slice Xo17 t1084.length ko17, .slice Xo18 t1087.length ko18] (0, 0) _ rfl (HM.bx 1 rfl) Try.underlying71 rfl (by kernel_rfl)) rfl ?_
      exact ⟨_, _, _, ER, (MD HM).pick [2, 3, 4]⟩
     ·subst c20
      replace H := BN H; obtain ⟨⟨t1093, t1094, t1095, t1098, t1101, t1104, t1105⟩, A24, H⟩ := H
      simp only [Option.some.injEq, Prod.mk.injEq] at H
      obtain ⟨rfl, rfl, rfl, rfl, rfl, rfl, rfl⟩ := H
      obtain ⟨_,_,_,_,_,_,_,_,_,_⟩ := bk5 (HM.bx 5 rfl)
      go_wp2_with (first | ((with_reducible refine gC 117 rfl ?_); refine pC (some 34) rfl #[.agg #[.int .i64 t1079, .int .i64 t1080, .slice Xo16 t1081.length ko16, .slice Xo17 t1084.length ko17, .slice Xo18 t1087.length ko18]] rfl Try.func117 (spec_EvictMain.calls kj7 t1079 t1080 _ _ t1081 _ _ t1084 _ _ t1087 t1093 t1094 t1095 t1098 t1101 t1104 t1105 _ (HM.CR 2 rfl).2.2 (HM.CR 2 rfl).2.1 (HM.CR 3 rfl).2.2 (HM.CR 3 rfl).2.1 (HM.C 4 rfl).2.2 (HM.C 4 rfl).2.1 A24.out) ?_; rintro e w25 ⟨v1096, v1099, v1102, rfl, hR⟩; refine ⟨_, rfl, ?_⟩; replace HM := HM.call hR; clear hR; obtain ⟨Xo26, ko26, rfl⟩ := HM.rdR 6 rfl; obtain ⟨Xo27, ko27, rfl⟩ := HM.rdR 7 rfl; obtain ⟨Xo28, ko28, rfl⟩ := HM.rdR 8 rfl) | ((with_reducible refine gS 2 rfl ?_); refine pS 1 2 0 [.int .i64 t1093, .int .i64 t1094, .slice Xo26 t1095.length ko26, .slice Xo27 t1098.length ko27, .slice Xo28 t1101.length ko28] HM rfl rfl ?_; clear HM; intro w29 HM; replace HM := HM.toQ 8 rfl))
      refine bodyPost_ret (results_ctt rfl _ _ gb1077 71 #[.int .i64 t1093, .int .i64 t1094, .slice Xo26 t1095.length ko26, .slice Xo27 t1098.length ko27, .slice Xo28 t1101.length ko28] (0, 0) _ rfl (HM.bx 1 rfl) Try.underlying71 rfl (by kernel_rfl)) rfl ?_
      exact ⟨_, _, _, ER, (MD HM).pick [6, 7, 8]⟩
    ·subst c11
     replace H := BN H; obtain ⟨⟨t1106, t1107, t1108, t1111, t1114, t1117, t1118⟩, A31, H⟩ := H
     simp only [Option.some.injEq, Prod.mk.injEq] at H
     obtain ⟨rfl, rfl, rfl, rfl, rfl, rfl, rfl⟩ := H
     obtain ⟨_,_,_,_,_,_,_,_,_,_⟩ := bk5 (HM.bx 0 rfl)
     go_wp2_with (first | ((with_reducible refine gC 117 rfl ?_); refine pC (some 39) rfl #[.agg #[.int .i64 a0_0, .int .i64 a0_1, .slice A0_2 l0_2.length c0_2, .slice A0_3 l0_3.length c0_3, .slice A0_4 l0_4.length c0_4]] rfl Try.func117 (spec_EvictMain.calls kj7 a0_0 a0_1 _ _ l0_2 _ _ l0_3 _ _ l0_4 t1106 t1107 t1108 t1111 t1114 t1117 t1118 _ (HM.came HR0_2.out) HC0_2.out (HM.came HR0_3.out) HC0_3.out (HM.came HR0_4.out) HC0_4.out A31.out) ?_; rintro e w32 ⟨v1109, v1112, v1115, rfl, hR⟩; refine ⟨_, rfl, ?_⟩; replace HM := HM.call hR; clear hR; obtain ⟨Xo33, ko33, rfl⟩ := HM.rdR 2 rfl; obtain ⟨Xo34, ko34, rfl⟩ := HM.rdR 3 rfl; obtain ⟨Xo35, ko35, rfl⟩ := HM.rdR 4 rfl) | ((with_reducible refine gS 2 rfl ?_); refine pS 1 2 0 [.int .i64 t1106, .int .i64 t1107, .slice Xo33 t1108.length ko33, .slice Xo34 t1111.length ko34, .slice Xo35 t1114.length ko35] HM rfl rfl ?_; clear HM; intro w36 HM; replace HM := HM.toQ 4 rfl))
     refine bodyPost_ret (results_ctt rfl _ _ gb1077 71 #[.int .i64 t1106, .int .i64 t1107, .slice Xo33 t1108.length ko33, .slice Xo34 t1111.length ko34, .slice Xo35 t1114.length ko35] (0, 0) _ rfl (HM.bx 1 rfl) Try.underlying71 rfl (by kernel_rfl)) rfl ?_
     exact ⟨_, _, _, ER, (MD HM).pick [2, 3, 4]⟩
 ·subst c7
  simp only [Option.some.injEq, Prod.mk.injEq] at H
  obtain ⟨rfl, rfl, rfl, rfl, rfl, rfl, rfl⟩ := H
  go_wp2_with (first | ((with_reducible refine gS 2 rfl ?_); refine pS 1 2 0 [.int .i64 0, .int .i64 0, .slice none 0 0, .slice none 0 0, .slice none 0 0] HM rfl rfl ?_; clear HM; intro w37 HM; replace HM := HM.nl k67 67; replace HM := HM.nl k67 67; replace HM := HM.nl (Kd.int .i64) 3; replace HM := HM.toQ 4 rfl))
  refine bodyPost_ret (results_ctt rfl _ _ gb1077 71 #[.int .i64 0, .int .i64 0, .slice none 0 0, .slice none 0 0, .slice none 0 0] (0, 0) _ rfl (HM.bx 1 rfl) Try.underlying71 rfl (by kernel_rfl)) rfl ?_
  exact ⟨_, _, _, ER, (MD HM).pick [2, 3, 4]⟩
mutual
def spec_Put.j0 : Nat → ByteArray → ByteArray → Bool → Int → Int → List (S67) → List (S67) → List Int → Option (Int × Int × (List (S67)) × (List (S67)) × List Int × List ByteArray × Bool)
 | 0, _, _, _, _, _, _, _, _ => none
 | k + 1, x1, x2, x26, x1123000, x1123001, x1123002, x1123003, x1123004 => if x26 = true then (some (0, 0, ([] : List (S67)), ([] : List (S67)), ([] : List Int), ([] : List ByteArray), false)) else ((spec_l10Copy.f x1123000 x1123001 x1123002 x1123003 x1123004).bind fun bt1126 => ((spec_l10Touch.f k bt1126.1 bt1126.2.1 bt1126.2.2.1 bt1126.2.2.2.1 bt1126.2.2.2.2 x1 true x2).bind fun bt1137 => (if bt1137.2.2.2.2.2.2 = true then (some (bt1137.1, bt1137.2.1, bt1137.2.2.1, bt1137.2.2.2.1, bt1137.2.2.2.2.1, ([] : List ByteArray), true)) else (spec_Put.l0 k x1 x2 (([] : List ByteArray)) bt1137.1 bt1137.2.1 bt1137.2.2.1 bt1137.2.2.2.1 bt1137.2.2.2.2.1))))
def spec_Put.l0 : Nat → ByteArray → ByteArray → List ByteArray → Int → Int → List (S67) → List (S67) → List Int → Option (Int × Int × (List (S67)) × (List (S67)) × List Int × List ByteArray × Bool)
 | 0, _, _, _, _, _, _, _, _ => none
 | k + 1, x1, x2, x12, x1151000, x1151001, x1151002, x1151003, x1151004 => if (wrap64 ((x1151002.length : Int) + (x1151003.length : Int))) ≥ x1151000 then ((spec_Evict.f k x1151000 x1151001 x1151002 x1151003 x1151004).bind fun bt1154 => (if x12.length < 8796093022208 then (spec_Put.l0 k x1 x2 (x12 ++ [bt1154.2.2.2.2.2.1]) bt1154.1 bt1154.2.1 bt1154.2.2.1 bt1154.2.2.2.1 bt1154.2.2.2.2.1) else (none))) else ((spec_Hash.f k x1).bind fun t1172 => ((spec_l03Has.f k x1151004 t1172).bind fun t1173 => (if t1173 = true then ((spec_Hash.f k x1).bind fun t1174 => ((spec_l08But.f k x1151004 t1174).bind fun t1175 => (if x1151003.length < 3518437208883 then (some (x1151000, x1151001, x1151002, (x1151003 ++ [(⟨x1, x2, 0⟩ : S67)]), t1175, x12, true)) else (none)))) else (if x1151002.length < 3518437208883 then (some (x1151000, x1151001, (x1151002 ++ [(⟨x1, x2, 0⟩ : S67)]), x1151003, x1151004, x12, true)) else (none)))))
end
def spec_Put.f (k : Nat) (a0_0 : Int) (a0_1 : Int) (l0_2 : List (S67)) (l0_3 : List (S67)) (l0_4 : List Int) (a1 : ByteArray) (a2 : ByteArray) : Option (Int × Int × (List (S67)) × (List (S67)) × List Int × List ByteArray × Bool) := (spec_ThreeOk.f k a0_0 a0_1 l0_2 l0_3 l0_4).bind fun t1124 => (if t1124 = true then ((spec_ItemOk.f k a1 a2 0).bind fun t1125 => (spec_Put.j0 k a1 a2 (!t1125) a0_0 a0_1 l0_2 l0_3 l0_4)) else (spec_Put.j0 k a1 a2 true a0_0 a0_1 l0_2 l0_3 l0_4))
def spec_Put.T12 : Bool × List (List Nat × List Nat) := (true, [([], []), ([0], [0]), ([], []), ([2], [2]), ([1, 3, 3], [1, 3])])
def spec_Put.B12 : List Nat := [0, 1, 0, 4, 15]
theorem spec_Put.tab12 : rtab .any (opsOf Try.f93 12) = spec_Put.T12 := by kernel_rfl
theorem spec_Put.bits12 : waitsOk spec_Put.T12.2 spec_Put.B12 = true := by kernel_rfl
def spec_Put.T13 : Bool × List (List Nat × List Nat) := (true, [([], []), ([0], [0]), ([], []), ([2], [2]), ([1, 3, 3], [1, 3]), ([0, 1, 2, 3, 4], []), ([5, 4, 4, 0, 1, 2, 3, 4], [4, 5])])
def spec_Put.B13 : List Nat := [0, 1, 0, 4, 15, 31, 63]
theorem spec_Put.tab13 : rtab .any (opsOf Try.f93 13) = spec_Put.T13 := by kernel_rfl
theorem spec_Put.bits13 : waitsOk spec_Put.T13.2 spec_Put.B13 = true := by kernel_rfl
theorem spec_Put.calls (k : Nat) (a0_0 : Int) (a0_1 : Int) (A0_2 : Option Addr) (c0_2 : Nat) (l0_2 : List (S67)) (A0_3 : Option Addr) (c0_3 : Nat) (l0_3 : List (S67)) (A0_4 : Option Addr) (c0_4 : Nat) (l0_4 : List Int) (a1 : ByteArray) (a2 : ByteArray) (r1 : Int) (r2 : Int) (r3 : List (S67)) (r4 : List (S67)) (r5 : List Int) (r6 : List ByteArray) (r7 : Bool) (w : World) (hr0_2 : Kd.C k67 w A0_2 l0_2.length l0_2) (hc0_2 : l0_2.length ≤ c0_2) (hr0_3 : Kd.C k67 w A0_3 l0_3.length l0_3) (hc0_3 : l0_3.length ≤ c0_3) (hr0_4 : Kd.C (Kd.int .i64) w A0_4 l0_4.length l0_4) (hc0_4 : l0_4.length ≤ c0_4) (h : spec_Put.f k a0_0 a0_1 l0_2 l0_3 l0_4 a1 a2 = some (r1, r2, r3, r4, r5, r6, r7)) :
  Calls Try.prog 93 #[.agg #[.int .i64 a0_0, .int .i64 a0_1, .slice A0_2 l0_2.length c0_2, .slice A0_3 l0_3.length c0_3, .slice A0_4 l0_4.length c0_4], .string a1, .string a2] w fun e w' => ∃ v2_ v3_ v4_ v5_ : Value, e = .returned (.tuple #[.agg #[.int .i64 r1, .int .i64 r2, v2_, v3_, v4_], v5_, .bool r7]) ∧ Mem w [] w' [rowR k67 67 v2_ r3, rowR k67 67 v3_ r4, row (Kd.int .i64) 3 v4_ r5, rowR Kd.string 9 v5_ r6] := by
 have hu71 := Try.underlying71
 have hu67 := Try.underlying67
 have HR0_2 := Aside0.mk hr0_2
 have HC0_2 := Aside0.mk hc0_2
 clear hr0_2 hc0_2
 have HR0_3 := Aside0.mk hr0_3
 have HC0_3 := Aside0.mk hc0_3
 clear hr0_3 hc0_3
 have HR0_4 := Aside0.mk hr0_4
 have HC0_4 := Aside0.mk hc0_4
 clear hr0_4 hc0_4
 have HM := Mem.nil w
 have H := h
 clear h
 unfold spec_Put.f at H
 go_enter Try.func93, Try.ntmps93
 have HC6 := Aside0.mk H
 clear H
 go_upto_region 1 with (first | ((with_reducible refine gN 3 rfl ?_); refine pB 3 71 [.int .i64 a0_0, .int .i64 a0_1, .slice A0_2 l0_2.length c0_2, .slice A0_3 l0_3.length c0_3, .slice A0_4 l0_4.length c0_4] HM rfl ?_; clear HM; intro gb1122 w4 HM) | ((with_reducible refine gN 6 rfl ?_); refine pB 6 71 [.int .i64 0, .int .i64 0, .slice none 0 0, .slice none 0 0, .slice none 0 0] HM rfl ?_; clear HM; intro gb1123 w5 HM))
 replace HM := nzM HM
 try simp only [Act.put, List.setIfInBounds_toArray, List.set_cons_zero, List.set_cons_succ]
 go_cut [26] (fun v26 wc => ∃ (kq : Nat) (x26_5 : Bool), v26 = .bool x26_5 ∧ Aside0 (spec_Put.j0 kq a1 a2 x26_5 a0_0 a0_1 l0_2 l0_3 l0_4 = some (r1, r2, r3, r4, r5, r6, r7)) ∧ Aside0 (kq ≤ k) ∧ Mem w [] wc [box 71 gb1122 [.int .i64 a0_0, .int .i64 a0_1, .slice A0_2 l0_2.length c0_2, .slice A0_3 l0_3.length c0_3, .slice A0_4 l0_4.length c0_4], box 71 gb1123 [.int .i64 0, .int .i64 0, .slice none 0 0, .slice none 0 0, .slice none 0 0]])
 case first =>
  have H := HC6.out
  clear HC6
  replace H := BN H; obtain ⟨t1124, A8, H⟩ := H
  replace H := IB H
  rcases H with ⟨c10, H⟩ | ⟨c10, H⟩
  ·subst c10
   replace H := BN H; obtain ⟨t1125, A11, H⟩ := H
   have H' := Aside0.mk H
   clear H
   obtain ⟨_,_,_,_,_,_,_,_,_,_⟩ := bk5 (HM.bx 0 rfl)
   go_wp2_with (first | ((with_reducible refine gC 91 rfl ?_); refine pC (some 18) rfl #[.agg #[.int .i64 a0_0, .int .i64 a0_1, .slice A0_2 l0_2.length c0_2, .slice A0_3 l0_3.length c0_3, .slice A0_4 l0_4.length c0_4]] rfl Try.func91 (spec_ThreeOk.calls k a0_0 a0_1 _ _ l0_2 _ _ l0_3 _ _ l0_4 true _ (HM.came HR0_2.out) HC0_2.out (HM.came HR0_3.out) HC0_3.out (HM.came HR0_4.out) HC0_4.out A8.out) ?_; rintro e w9 ⟨rfl, hR⟩; refine ⟨_, rfl, ?_⟩; replace HM := HM.call hR; clear hR) | ((with_reducible refine gC 67 rfl ?_); refine pC (some 24) rfl #[.agg #[.string a1, .string a2, .int .i64 0]] rfl Try.func67 (spec_ItemOk.calls k a1 a2 0 t1125 _ A11.out) ?_; rintro e w12 ⟨rfl, hR⟩; refine ⟨_, rfl, ?_⟩; replace HM := HM.call hR; clear hR))
   go_meet
   case rel => exact ⟨_, (!t1125), RS, H', ⟨by first | omega | exact Nat.le_refl _⟩, (MD HM).pick [0, 1]⟩
  ·subst c10
   have H' := Aside0.mk H
   clear H
   obtain ⟨_,_,_,_,_,_,_,_,_,_⟩ := bk5 (HM.bx 0 rfl)
   go_wp2_with (first | ((with_reducible refine gC 91 rfl ?_); refine pC (some 18) rfl #[.agg #[.int .i64 a0_0, .int .i64 a0_1, .slice A0_2 l0_2.length c0_2, .slice A0_3 l0_3.length c0_3, .slice A0_4 l0_4.length c0_4]] rfl Try.func91 (spec_ThreeOk.calls k a0_0 a0_1 _ _ l0_2 _ _ l0_3 _ _ l0_4 false _ (HM.came HR0_2.out) HC0_2.out (HM.came HR0_3.out) HC0_3.out (HM.came HR0_4.out) HC0_4.out A8.out) ?_; rintro e w9 ⟨rfl, hR⟩; refine ⟨_, rfl, ?_⟩; replace HM := HM.call hR; clear hR))
   go_meet
   case rel => exact ⟨_, (true), RS, H', ⟨by first | omega | exact Nat.le_refl _⟩, (MD HM).pick [0, 1]⟩
 case rest =>
  clear HC6 HM
  obtain ⟨kq, x26_5, rfl, HA, HJ5, HM⟩ := hcut
  cases kq with
  | zero => exact absurd HA.out (by simp [spec_Put.j0])
  | succ kj5 =>
   have H := HA.out
   clear HA
   simp only [spec_Put.j0] at H
   go_upto_if 26 with (fail)
   replace H := IB H
   rcases H with ⟨c13, H⟩ | ⟨c13, H⟩
   ·subst c13
    simp only [Option.some.injEq, Prod.mk.injEq] at H
    obtain ⟨rfl, rfl, rfl, rfl, rfl, rfl, rfl⟩ := H
    go_wp2_with (first | ((with_reducible refine gS 6 rfl ?_); refine pS 1 6 0 [.int .i64 0, .int .i64 0, .slice none 0 0, .slice none 0 0, .slice none 0 0] HM rfl rfl ?_; clear HM; intro w14 HM; replace HM := HM.nl k67 67; replace HM := HM.nl k67 67; replace HM := HM.nl (Kd.int .i64) 3; replace HM := HM.toQ 4 rfl; replace HM := HM.nl Kd.string 9))
    refine bodyPost_ret (results_ctt rfl _ _ gb1123 71 #[.int .i64 0, .int .i64 0, .slice none 0 0, .slice none 0 0, .slice none 0 0] (0, 0) _ rfl (HM.bx 1 rfl) Try.underlying71 rfl (by kernel_rfl)) rfl ?_
    exact ⟨_, _, _, _, ER, (MD HM).pick [2, 3, 4, 5]⟩
   ·subst c13
    replace H := BN H; obtain ⟨⟨t1126, t1127, t1128, t1131, t1134⟩, A16, H⟩ := H
    replace H := BN H; obtain ⟨⟨t1137, t1138, t1139, t1142, t1145, t1148, t1149⟩, A18, H⟩ := H
    obtain ⟨_,_,_,_,_,_,_,_,_,_⟩ := bk5 (HM.bx 0 rfl)
    go_upto_if 37 with (first | ((with_reducible refine gC 108 rfl ?_); refine pC (some 30) rfl #[.agg #[.int .i64 a0_0, .int .i64 a0_1, .slice A0_2 l0_2.length c0_2, .slice A0_3 l0_3.length c0_3, .slice A0_4 l0_4.length c0_4]] rfl Try.func108 (spec_l10Copy.calls a0_0 a0_1 _ _ l0_2 _ _ l0_3 _ _ l0_4 t1126 t1127 t1128 t1131 t1134 _ (HM.came HR0_2.out) HC0_2.out (HM.came HR0_3.out) HC0_3.out (HM.came HR0_4.out) HC0_4.out A16.out) ?_; rintro e w17 ⟨v1129, v1132, v1135, rfl, hR⟩; refine ⟨_, rfl, ?_⟩; replace HM := HM.call hR; clear hR) | ((with_reducible refine gC 107 rfl ?_); refine pC (some 33) rfl #[.agg #[.int .i64 t1126, .int .i64 t1127, v1129, v1132, v1135], .string a1, .bool true, .string a2] rfl Try.func107 (spec_l10Touch.calls kj5 t1126 t1127 v1129 t1128 v1132 t1131 v1135 t1134 a1 true a2 t1137 t1138 t1139 t1142 t1145 t1148 t1149 _ _ _ (HM.focus [0, 1] [2, 3, 4]) A18.out) ?_; rintro e w19 ⟨v1140, v1143, v1146, rfl, hR⟩; refine ⟨_, rfl, ?_⟩; replace HM := nzM hR.unfocus; clear hR) | ((with_reducible refine gN 9 rfl ?_); refine pB 9 71 [.int .i64 0, .int .i64 0, .slice none 0 0, .slice none 0 0, .slice none 0 0] HM rfl ?_; clear HM; intro gb1150 w20 HM; obtain ⟨Xo21, ko21, rfl⟩ := HM.rdR 2 rfl; obtain ⟨Xo22, ko22, rfl⟩ := HM.rdR 3 rfl; obtain ⟨Xo23, ko23, rfl⟩ := HM.rdR 4 rfl) | ((with_reducible refine gS 9 rfl ?_); refine pS 5 9 0 [.int .i64 t1137, .int .i64 t1138, .slice Xo21 t1139.length ko21, .slice Xo22 t1142.length ko22, .slice Xo23 t1145.length ko23] HM rfl rfl ?_; clear HM; intro w24 HM))
    replace HM := nzM HM
    replace H := IB H
    rcases H with ⟨c25, H⟩ | ⟨c25, H⟩
    ·subst c25
     simp only [Option.some.injEq, Prod.mk.injEq] at H
     obtain ⟨rfl, rfl, rfl, rfl, rfl, rfl, rfl⟩ := H
     obtain ⟨_,_,_,_,_,_,_,_,_,_⟩ := bk5 (HM.bx 5 rfl)
     go_wp2_with (first | ((with_reducible refine gS 6 rfl ?_); refine pS 1 6 0 [.int .i64 t1137, .int .i64 t1138, .slice Xo21 t1139.length ko21, .slice Xo22 t1142.length ko22, .slice Xo23 t1145.length ko23] HM rfl rfl ?_; clear HM; intro w27 HM; replace HM := HM.toQ 4 rfl; replace HM := HM.nl Kd.string 9))
     refine bodyPost_ret (results_ctt rfl _ _ gb1123 71 #[.int .i64 t1137, .int .i64 t1138, .slice Xo21 t1139.length ko21, .slice Xo22 t1142.length ko22, .slice Xo23 t1145.length ko23] (0, 0) _ rfl (HM.bx 1 rfl) Try.underlying71 rfl (by kernel_rfl)) rfl ?_
     exact ⟨_, _, _, _, ER, (MD HM).pick [2, 3, 4, 6]⟩
    ·subst c25
     have H' := Aside0.mk H
     clear H
     go_wp2_with (first | ((with_reducible refine gN 39 rfl ?_); refine pL 39 Kd.string 9 ([] : List ByteArray) [] (Reps.none _ _) HM rfl ?_; clear HM; intro v1152 w28 HM; replace HM := HM.toQ 4 rfl))
     go_loopg [12] kj5 (fun kq v12 w' => ∃ (x12_2 : List ByteArray) (x1151000_2 : Int) (x1151001_2 : Int) (x1151002_2 : List (S67)) (x1151003_2 : List (S67)) (x1151004_2 : List Int) (u1151002 : Value) (u1151003 : Value) (u1151004 : Value), Aside0 (spec_Put.l0 kq a1 a2 x12_2 x1151000_2 x1151001_2 x1151002_2 x1151003_2 x1151004_2 = some (r1, r2, r3, r4, r5, r6, r7)) ∧ Aside0 (kq ≤ kj5) ∧ Mem w [] w' [rowR Kd.string 9 v12 x12_2, rowR k67 67 u1151002 x1151002_2, rowR k67 67 u1151003 x1151003_2, row (Kd.int .i64) 3 u1151004 x1151004_2, box 71 gb1122 [.int .i64 a0_0, .int .i64 a0_1, .slice A0_2 l0_2.length c0_2, .slice A0_3 l0_3.length c0_3, .slice A0_4 l0_4.length c0_4], box 71 gb1123 [.int .i64 0, .int .i64 0, .slice none 0 0, .slice none 0 0, .slice none 0 0], box 71 gb1150 [.int .i64 x1151000_2, .int .i64 x1151001_2, u1151002, u1151003, u1151004]])
     case atStart => exact ⟨((([] : List ByteArray))), (t1137), (t1138), (t1139), (t1142), (t1145), (.slice Xo21 t1139.length ko21), (.slice Xo22 t1142.length ko22), (.slice Xo23 t1145.length ko23), H', ⟨Nat.le_refl _⟩, (MD HM).pick [6, 2, 3, 4, 0, 1, 5]⟩
     case round =>
      clear H' HM
      obtain ⟨x12_2, x1151000_2, x1151001_2, x1151002_2, x1151003_2, x1151004_2, u1151002, u1151003, u1151004, HA, HK2, HM⟩ := hrel
      cases gk with
      | zero => exact absurd HA.out (by simp [spec_Put.l0])
      | succ k2 =>
       have H := HA.out
       clear HA
       simp only [spec_Put.l0] at H
       obtain ⟨_,_,_,_,_,_,_,_,_,_⟩ := bk5 (HM.bx 6 rfl)
       obtain ⟨Xo30, ko30, rfl⟩ := HM.rdR 1 rfl
       obtain ⟨Xo31, ko31, rfl⟩ := HM.rdR 2 rfl
       go_upto_if 49 with (fail)
       replace H := IT H; rcases H with ⟨c32, H⟩ | ⟨c32, H⟩
       ·have c32b0 : decide (x1151000_2 ≤ (wrap64 ((x1151002_2.length : Int) + (x1151003_2.length : Int)))) = true := decide_eq_true c32
        clear c32
        first|rw [c32b0]|(simp only [i64_w, i32_w]; rw [c32b0])|skip
        replace H := BN H; obtain ⟨⟨t1154, t1155, t1156, t1159, t1162, t1165, t1166⟩, A33, H⟩ := H
        replace H := GD H; obtain ⟨c43, H⟩ := H
        have LMc43 := Aside0.mk c43
        clear c43
        have H' := Aside0.mk H
        clear H
        obtain ⟨Xo35, ko35, rfl⟩ := HM.rd 3 rfl
        go_wp2_with (first | ((with_reducible refine gC 109 rfl ?_); refine pC (some 52) rfl #[.agg #[.int .i64 x1151000_2, .int .i64 x1151001_2, .slice Xo30 x1151002_2.length ko30, .slice Xo31 x1151003_2.length ko31, .slice Xo35 x1151004_2.length ko35]] rfl Try.func109 (spec_Evict.calls k2 x1151000_2 x1151001_2 _ _ x1151002_2 _ _ x1151003_2 _ _ x1151004_2 t1154 t1155 t1156 t1159 t1162 t1165 t1166 _ (HM.CR 1 rfl).2.2 (HM.CR 1 rfl).2.1 (HM.CR 2 rfl).2.2 (HM.CR 2 rfl).2.1 (HM.C 3 rfl).2.2 (HM.C 3 rfl).2.1 A33.out) ?_; rintro e w34 ⟨v1157, v1160, v1163, rfl, hR⟩; refine ⟨_, rfl, ?_⟩; replace HM := HM.call hR; clear hR) | ((with_reducible refine gN 13 rfl ?_); refine pB 13 71 [.int .i64 0, .int .i64 0, .slice none 0 0, .slice none 0 0, .slice none 0 0] HM rfl ?_; clear HM; intro gb1167 w36 HM; obtain ⟨Xo37, ko37, rfl⟩ := HM.rdR 7 rfl; obtain ⟨Xo38, ko38, rfl⟩ := HM.rdR 8 rfl; obtain ⟨Xo39, ko39, rfl⟩ := HM.rd 9 rfl) | ((with_reducible refine gS 13 rfl ?_); refine pS 10 13 0 [.int .i64 t1154, .int .i64 t1155, .slice Xo37 t1156.length ko37, .slice Xo38 t1159.length ko38, .slice Xo39 t1162.length ko39] HM rfl rfl ?_; clear HM; intro w40 HM; obtain ⟨_,_,_,_,_,_,_,_,_,_⟩ := bk5 (HM.bx 10 rfl)) | ((with_reducible refine gS 9 rfl ?_); refine pS 6 9 0 [.int .i64 t1154, .int .i64 t1155, .slice Xo37 t1156.length ko37, .slice Xo38 t1159.length ko38, .slice Xo39 t1162.length ko39] HM rfl rfl ?_; clear HM; intro w42 HM) | ((with_reducible refine gN 59 rfl ?_); refine pL 59 Kd.string 9 [t1165] [.string t1165] (Reps.one (show Kd.M Kd.string _ _ _ t1165 [.string t1165] from rfl) (Reps.none _ _)) HM rfl ?_; clear HM; intro v45 w44 HM; obtain ⟨Xv45, kv45, rfl⟩ := HM.rdR 11 rfl) | ((with_reducible refine gate_builtin (b := .append) (xs := #[.tmp 57, .tmp 59]) rfl ?_); refine pA 0 (.tmp 57) (.tmp 59) 23 9 Kd.string u12 x12_2 [t1165] Xv45 ([t1165].length) kv45 HM rfl Try.underlying23 info9 rfl (HM.CR 11 rfl).2.2 (by have h_ := LMc43.out; simp only [List.length_singleton]; omega) ?_; clear HM; intro v1169 w46 HM))
        go_roundg k2
        case measure => have := HJ5.out; have := HK2.out; omega
        case rel => exact ⟨((x12_2 ++ [t1165])), (t1154), (t1155), (t1156), (t1159), (t1162), (.slice Xo37 t1156.length ko37), (.slice Xo38 t1159.length ko38), (.slice Xo39 t1162.length ko39), H', ⟨by have := HJ5.out; have := HK2.out; omega⟩, (MD HM).pick [0, 7, 8, 9, 4, 5, 6]⟩
       ·have c32b0 : decide (x1151000_2 ≤ (wrap64 ((x1151002_2.length : Int) + (x1151003_2.length : Int)))) = false := decide_eq_false c32
        clear c32
        first|rw [c32b0]|(simp only [i64_w, i32_w]; rw [c32b0])|skip
        try go_wp2_with (first | ((with_reducible refine gN 16 rfl ?_); refine pB 16 67 [.string (⟨#[]⟩ : ByteArray), .string (⟨#[]⟩ : ByteArray), .int .i64 0] HM rfl ?_; clear HM; intro gb1171 w47 HM) | ((with_reducible refine gS 16 rfl ?_); refine pS 7 16 0 [.string a1, .string a2, .int .i64 0] HM rfl rfl ?_; clear HM; intro w48 HM))
        replace H := BN H; obtain ⟨t1172, A49, H⟩ := H
        replace H := BN H; obtain ⟨t1173, A50, H⟩ := H
        obtain ⟨Xo55, ko55, rfl⟩ := HM.rd 3 rfl
        refine RGN 5 [0, 1, 2, 3, 4] (fun a0 b a w' => a = putSel a0 b [(0, 64, .pointer (some ⟨gb1150, 4, none⟩)), (1, 65, .slice Xo55 x1151004_2.length ko55), (2, 66, .string a1), (3, 67, .int .i64 t1172), (4, 68, .bool t1173)] ∧ Mem w [] w' [rowR Kd.string 9 u12 x12_2, rowR k67 67 (.slice Xo30 x1151002_2.length ko30) x1151002_2, rowR k67 67 (.slice Xo31 x1151003_2.length ko31) x1151003_2, row (Kd.int .i64) 3 (.slice Xo55 x1151004_2.length ko55) x1151004_2, box 71 gb1122 [.int .i64 a0_0, .int .i64 a0_1, .slice A0_2 l0_2.length c0_2, .slice A0_3 l0_3.length c0_3, .slice A0_4 l0_4.length c0_4], box 71 gb1123 [.int .i64 0, .int .i64 0, .slice none 0 0, .slice none 0 0, .slice none 0 0], box 71 gb1150 [.int .i64 x1151000_2, .int .i64 x1151001_2, .slice Xo30 x1151002_2.length ko30, .slice Xo31 x1151003_2.length ko31, .slice Xo55 x1151004_2.length ko55], box 67 gb1171 [.string a1, .string a2, .int .i64 0]]) spec_Put.tab12 spec_Put.bits12 ?_ ?_ ?_
        ·exact ⟨PS0' rfl _, (HM.drew).pick [0, 1, 2, 3, 4, 5, 6, 7]⟩
        ·clear HM
         refine SY ?_ ?_
         ·intro b a w ha HM hb hon hoff K hK
          have e9 := PG ha 9
          exact VL (.pointer (some ⟨gb1150, 4, none⟩)) (hK.out _ _ ⟨PUT ha 0 hb, HM⟩)
         refine SY ?_ ?_
         ·intro b a w ha HM hb hon hoff K hK
          obtain ⟨_,_,_,_,_,_,_,_,_,_⟩ := bk5 (HM.bx 6 rfl)
          have e64 := PE ha 0 hon
          exact VL (.slice Xo55 x1151004_2.length ko55) (hK.out _ _ ⟨PUT ha 1 hb, HM⟩)
         refine SY ?_ ?_
         ·intro b a w ha HM hb hon hoff K hK
          have e1 := PG ha 1
          exact VL (.string a1) (hK.out _ _ ⟨PUT ha 2 hb, HM⟩)
         refine SY ?_ ?_
         ·intro b a w ha HM hb hon hoff K hK
          have e66 := PE ha 2 hon
          refine ST (eC (some 67) rfl #[.string a1] rfl Try.func110 (spec_Hash.calls k2 a1 t1172 _ A49.out) ?_ (hargs := by (simp only [List.map_toArray, List.map_cons, List.map_nil, evc, eval_of e66]) <;> rfl))
          rintro e w57 ⟨rfl, hd⟩
          refine ⟨_, rfl, ?_⟩
          replace HM := HM.drawn hd
          clear hd
          exact hK.out _ _ ⟨PUT ha 3 hb, (HM).pick [0, 1, 2, 3, 4, 5, 6, 7]⟩
         refine SY ?_ ?_
         ·intro b a w ha HM hb hon hoff K hK
          have e65 := PE ha 1 hon
          have e67 := PE ha 3 hon
          refine ST (eC (some 68) rfl #[.slice Xo55 x1151004_2.length ko55, .int .i64 t1172] rfl Try.func106 (spec_l03Has.calls k2 _ _ x1151004_2 t1172 t1173 _ (HM.C 3 rfl).2.2 (HM.C 3 rfl).2.1 A50.out) ?_ (hargs := by (simp only [List.map_toArray, List.map_cons, List.map_nil, evc, eval_of e65, eval_of e67]) <;> rfl))
          rintro e w58 ⟨rfl, hd⟩
          refine ⟨_, rfl, ?_⟩
          replace HM := HM.drawn hd
          clear hd
          exact hK.out _ _ ⟨PUT ha 4 hb, (HM).pick [0, 1, 2, 3, 4, 5, 6, 7]⟩
         exact steps_nil
        rintro _ w59 ⟨rfl, HM⟩
        simp only [putSel, if_true, Act.put, List.setIfInBounds_toArray, List.set_cons_zero, List.set_cons_succ, gt_iff_lt, ge_iff_le]
        go_upto_if 68 with (fail)
        replace H := IB H
        rcases H with ⟨c60, H⟩ | ⟨c60, H⟩
        ·subst c60
         try go_wp2
         replace H := BN H; obtain ⟨t1174, A61, H⟩ := H
         replace H := BN H; obtain ⟨t1175, A62, H⟩ := H
         refine RGN 7 [0, 1, 2, 3, 4, 5, 6] (fun a0 b a w' => ∃ (v1176 : Value), a = putSel a0 b [(0, 69, .pointer (some ⟨gb1150, 4, none⟩)), (1, 70, .slice Xo55 x1151004_2.length ko55), (2, 71, .string a1), (3, 72, .int .i64 t1174), (4, 73, v1176), (5, 74, .pointer (some ⟨gb1150, 4, none⟩))] ∧ Mem w [] w' [rowR Kd.string 9 u12 x12_2, rowR k67 67 (.slice Xo30 x1151002_2.length ko30) x1151002_2, rowR k67 67 (.slice Xo31 x1151003_2.length ko31) x1151003_2, row (Kd.int .i64) 3 (.slice Xo55 x1151004_2.length ko55) x1151004_2, box 71 gb1122 [.int .i64 a0_0, .int .i64 a0_1, .slice A0_2 l0_2.length c0_2, .slice A0_3 l0_3.length c0_3, .slice A0_4 l0_4.length c0_4], box 71 gb1123 [.int .i64 0, .int .i64 0, .slice none 0 0, .slice none 0 0, .slice none 0 0], sel (b 6) (box 71 gb1150 [.int .i64 x1151000_2, .int .i64 x1151001_2, .slice Xo30 x1151002_2.length ko30, .slice Xo31 x1151003_2.length ko31, v1176]) (box 71 gb1150 [.int .i64 x1151000_2, .int .i64 x1151001_2, .slice Xo30 x1151002_2.length ko30, .slice Xo31 x1151003_2.length ko31, .slice Xo55 x1151004_2.length ko55]), box 67 gb1171 [.string a1, .string a2, .int .i64 0], sel (b 4) (rowR (Kd.int .i64) 3 v1176 t1175) (emp)]) spec_Put.tab13 spec_Put.bits13 ?_ ?_ ?_
         ·exact ⟨.bool false, PS0' rfl _, (HM.drew.ems 1).pick [0, 1, 2, 3, 4, 5, 6, 7, 8]⟩
         ·clear HM
          refine SZ ?_ ?_
          ·rintro b a w ⟨v1176, ha, HM⟩ hb hon hoff K hK
           replace ha := Aside0.mk ha
           have e9 := PG ha 9
           exact VL (.pointer (some ⟨gb1150, 4, none⟩)) (hK.out _ _ ⟨v1176, PUT ha 0 hb, HM⟩)
          refine SZ ?_ ?_
          ·rintro b a w ⟨v1176, ha, HM⟩ hb hon hoff K hK
           replace ha := Aside0.mk ha
           have HZ := HM
           replace HM := HM.sF 6 rfl (hoff 6 rfl)
           obtain ⟨_,_,_,_,_,_,_,_,_,_⟩ := bk5 (HM.bx 6 rfl)
           have e69 := PE ha 0 hon
           exact VL (.slice Xo55 x1151004_2.length ko55) (hK.out _ _ ⟨v1176, PUT ha 1 hb, HZ⟩)
          refine SZ ?_ ?_
          ·rintro b a w ⟨v1176, ha, HM⟩ hb hon hoff K hK
           replace ha := Aside0.mk ha
           have e1 := PG ha 1
           exact VL (.string a1) (hK.out _ _ ⟨v1176, PUT ha 2 hb, HM⟩)
          refine SZ ?_ ?_
          ·rintro b a w ⟨v1176, ha, HM⟩ hb hon hoff K hK
           replace ha := Aside0.mk ha
           have e71 := PE ha 2 hon
           refine ST (eC (some 72) rfl #[.string a1] rfl Try.func110 (spec_Hash.calls k2 a1 t1174 _ A61.out) ?_ (hargs := by (simp only [List.map_toArray, List.map_cons, List.map_nil, evc, eval_of e71]) <;> rfl))
           rintro e w69 ⟨rfl, hd⟩
           refine ⟨_, rfl, ?_⟩
           replace HM := HM.drawn hd
           clear hd
           exact hK.out _ _ ⟨v1176, PUT ha 3 hb, (HM).pick [0, 1, 2, 3, 4, 5, 6, 7, 8]⟩
          refine SZ ?_ ?_
          ·rintro b a w ⟨v1176, ha, HM⟩ hb hon hoff K hK
           replace ha := Aside0.mk ha
           have e70 := PE ha 1 hon
           have e72 := PE ha 3 hon
           refine ST (eC (some 73) rfl #[.slice Xo55 x1151004_2.length ko55, .int .i64 t1174] rfl Try.func111 (spec_l08But.calls k2 _ _ x1151004_2 t1174 t1175 _ (HM.C 3 rfl).2.2 (HM.C 3 rfl).2.1 A62.out) ?_ (hargs := by (simp only [List.map_toArray, List.map_cons, List.map_nil, evc, eval_of e70, eval_of e72]) <;> rfl))
           rintro e w70 ⟨v1176, rfl, hR⟩
           refine ⟨_, rfl, ?_⟩
           replace HM := HM.call hR
           clear hR
           exact hK.out _ _ ⟨v1176, PUT ha 4 hb, ((HM.sF 6 rfl (hoff 6 rfl)).iF 6 rfl (hoff 6 rfl)).pick [0, 1, 2, 3, 4, 5, 6, 7, 9]⟩
          refine SZ ?_ ?_
          ·rintro b a w ⟨v1176, ha, HM⟩ hb hon hoff K hK
           replace ha := Aside0.mk ha
           have e9 := PG ha 9
           exact VL (.pointer (some ⟨gb1150, 4, none⟩)) (hK.out _ _ ⟨v1176, PUT ha 5 hb, HM⟩)
          refine SZ ?_ ?_
          ·rintro b a w ⟨v1176, ha, HM⟩ hb hon hoff K hK
           replace ha := Aside0.mk ha
           replace HM := HM.sF 6 rfl hb
           replace HM := HM.sT 8 rfl (hon 4 rfl)
           obtain ⟨Xo71, ko71, rfl⟩ := HM.rdR 8 rfl
           have e74 := PE ha 5 hon
           have e73 := PE ha 4 hon
           refine ST (eS 6 74 4 [.slice Xo71 t1175.length ko71] HM rfl rfl ?_ (hp := (eval_of e74)) (hx := (by rw [eval_of e73]; rfl)))
           clear HM
           intro w72 HM
           exact hK.out _ _ ⟨.slice Xo71 t1175.length ko71, PUS ha, (HM.iT 8 rfl (hon 4 rfl)).pick [0, 1, 2, 3, 4, 5, 6, 7, 8]⟩
          exact steps_nil
         rintro _ w73 ⟨v1176, rfl, HM⟩
         replace HM := HM.sT 6 rfl rfl
         replace HM := HM.sT 8 rfl rfl
         simp only [putSel, if_true, Act.put, List.setIfInBounds_toArray, List.set_cons_zero, List.set_cons_succ, gt_iff_lt, ge_iff_le]
         replace H := GD H; obtain ⟨c76, H⟩ := H
         have LMc76 := Aside0.mk c76
         clear c76
         simp only [Option.some.injEq, Prod.mk.injEq] at H
         obtain ⟨rfl, rfl, rfl, rfl, rfl, rfl, rfl⟩ := H
         obtain ⟨_,_,_,_,_,_,_,_,_,_⟩ := bk5 (HM.bx 6 rfl)
         obtain ⟨_,_,_,_,_,_⟩ := bk3 (HM.bx 7 rfl)
         go_wp2_with (first | ((with_reducible refine gN 78 rfl ?_); refine pL 78 k67 67 [(⟨a1, a2, 0⟩ : S67)] [.string a1, .string a2, .int .i64 0] (Reps.c3 (show Kd.M k67 _ _ _ (⟨a1, a2, 0⟩ : S67) [.string a1, .string a2, .int .i64 0] from (k67_mkM _ _ _ (⟨a1, a2, 0⟩ : S67))) (Reps.none _ _)) HM rfl ?_; clear HM; intro v78 w77 HM; obtain ⟨Xv78, kv78, rfl⟩ := HM.rdR 9 rfl) | ((with_reducible refine gate_builtin (b := .append) (xs := #[.tmp 76, .tmp 78]) rfl ?_); refine pA 2 (.tmp 76) (.tmp 78) 68 67 k67 (.slice Xo31 x1151003_2.length ko31) x1151003_2 [(⟨a1, a2, 0⟩ : S67)] Xv78 ([(⟨a1, a2, 0⟩ : S67)].length) kv78 HM rfl Try.underlying68 info67 rfl (HM.CR 9 rfl).2.2 (by have h_ := LMc76.out; simp only [List.length_singleton]; omega) ?_; clear HM; intro v1179 w79 HM; obtain ⟨Xo80, ko80, rfl⟩ := HM.rdR 2 rfl) | ((with_reducible refine gS 80 rfl ?_); refine pS 6 80 3 [.slice Xo80 (x1151003_2 ++ [(⟨a1, a2, 0⟩ : S67)]).length ko80] HM rfl rfl ?_; clear HM; intro w81 HM; obtain ⟨_,_,_,_,_,_,_,_,_,_⟩ := bk5 (HM.bx 6 rfl); obtain ⟨Xo83, ko83, rfl⟩ := HM.rdR 8 rfl) | ((with_reducible refine gS 6 rfl ?_); refine pS 5 6 0 [.int .i64 x1151000_2, .int .i64 x1151001_2, .slice Xo30 x1151002_2.length ko30, .slice Xo80 (x1151003_2 ++ [(⟨a1, a2, 0⟩ : S67)]).length ko80, .slice Xo83 t1175.length ko83] HM rfl rfl ?_; clear HM; intro w84 HM; replace HM := HM.toQ 8 rfl))
         refine bodyPost_ret (results_ctt rfl _ _ gb1123 71 #[.int .i64 x1151000_2, .int .i64 x1151001_2, .slice Xo30 x1151002_2.length ko30, .slice Xo80 (x1151003_2 ++ [(⟨a1, a2, 0⟩ : S67)]).length ko80, .slice Xo83 t1175.length ko83] (0, 0) _ rfl (HM.bx 5 rfl) Try.underlying71 rfl (by kernel_rfl)) rfl ?_
         exact ⟨_, _, _, _, ER, (MD HM).pick [1, 2, 8, 0]⟩
        ·subst c60
         replace H := GD H; obtain ⟨c87, H⟩ := H
         have LMc87 := Aside0.mk c87
         clear c87
         simp only [Option.some.injEq, Prod.mk.injEq] at H
         obtain ⟨rfl, rfl, rfl, rfl, rfl, rfl, rfl⟩ := H
         obtain ⟨_,_,_,_,_,_,_,_,_,_⟩ := bk5 (HM.bx 6 rfl)
         obtain ⟨_,_,_,_,_,_⟩ := bk3 (HM.bx 7 rfl)
         go_wp2_with (first | ((with_reducible refine gN 84 rfl ?_); refine pL 84 k67 67 [(⟨a1, a2, 0⟩ : S67)] [.string a1, .string a2, .int .i64 0] (Reps.c3 (show Kd.M k67 _ _ _ (⟨a1, a2, 0⟩ : S67) [.string a1, .string a2, .int .i64 0] from (k67_mkM _ _ _ (⟨a1, a2, 0⟩ : S67))) (Reps.none _ _)) HM rfl ?_; clear HM; intro v89 w88 HM; obtain ⟨Xv89, kv89, rfl⟩ := HM.rdR 8 rfl) | ((with_reducible refine gate_builtin (b := .append) (xs := #[.tmp 82, .tmp 84]) rfl ?_); refine pA 1 (.tmp 82) (.tmp 84) 68 67 k67 (.slice Xo30 x1151002_2.length ko30) x1151002_2 [(⟨a1, a2, 0⟩ : S67)] Xv89 ([(⟨a1, a2, 0⟩ : S67)].length) kv89 HM rfl Try.underlying68 info67 rfl (HM.CR 8 rfl).2.2 (by have h_ := LMc87.out; simp only [List.length_singleton]; omega) ?_; clear HM; intro v1182 w90 HM; obtain ⟨Xo91, ko91, rfl⟩ := HM.rdR 1 rfl) | ((with_reducible refine gS 86 rfl ?_); refine pS 6 86 2 [.slice Xo91 (x1151002_2 ++ [(⟨a1, a2, 0⟩ : S67)]).length ko91] HM rfl rfl ?_; clear HM; intro w92 HM; obtain ⟨_,_,_,_,_,_,_,_,_,_⟩ := bk5 (HM.bx 6 rfl)) | ((with_reducible refine gS 6 rfl ?_); refine pS 5 6 0 [.int .i64 x1151000_2, .int .i64 x1151001_2, .slice Xo91 (x1151002_2 ++ [(⟨a1, a2, 0⟩ : S67)]).length ko91, .slice Xo31 x1151003_2.length ko31, .slice Xo55 x1151004_2.length ko55] HM rfl rfl ?_; clear HM; intro w94 HM))
         refine bodyPost_ret (results_ctt rfl _ _ gb1123 71 #[.int .i64 x1151000_2, .int .i64 x1151001_2, .slice Xo91 (x1151002_2 ++ [(⟨a1, a2, 0⟩ : S67)]).length ko91, .slice Xo31 x1151003_2.length ko31, .slice Xo55 x1151004_2.length ko55] (0, 0) _ rfl (HM.bx 5 rfl) Try.underlying71 rfl (by kernel_rfl)) rfl ?_
         exact ⟨_, _, _, _, ER, (MD HM).pick [1, 2, 3, 0]⟩
def spec_l11Copy.f (a0_0 : Int) (a0_1 : Int) (l0_2 : List (S67)) : Option (Int × Int × (List (S67))) := (some (([] : List (S67)) : List (S67))).bind fun y1191 => (if y1191.length + l0_2.length < 3518437208883 then (some (a0_0, a0_1, (y1191 ++ l0_2))) else (none))
theorem spec_l11Copy.calls (a0_0 : Int) (a0_1 : Int) (A0_2 : Option Addr) (c0_2 : Nat) (l0_2 : List (S67)) (r1 : Int) (r2 : Int) (r3 : List (S67)) (w : World) (hr0_2 : Kd.C k67 w A0_2 l0_2.length l0_2) (hc0_2 : l0_2.length ≤ c0_2) (h : spec_l11Copy.f a0_0 a0_1 l0_2 = some (r1, r2, r3)) :
  Calls Try.prog 112 #[.agg #[.int .i64 a0_0, .int .i64 a0_1, .slice A0_2 l0_2.length c0_2]] w fun e w' => ∃ v2_ : Value, e = .returned (.agg #[.int .i64 r1, .int .i64 r2, v2_]) ∧ Mem w [] w' [rowR k67 67 v2_ r3] := by
 have hu75 := Try.underlying75
 have HR0_2 := Aside0.mk hr0_2
 have HC0_2 := Aside0.mk hc0_2
 clear hr0_2 hc0_2
 have HM := Mem.nil w
 have H := h
 clear h
 unfold spec_l11Copy.f at H
 go_enter Try.func112, Try.ntmps112
 replace H := BLt H; obtain ⟨y1191, Ny1191, H⟩ := H
 replace Ny1191 := Aside0.mk Ny1191
 replace H := GD H; obtain ⟨c6, H⟩ := H
 have LMc6 := Aside0.mk c6
 clear c6
 simp only [Option.some.injEq, Prod.mk.injEq] at H
 obtain ⟨rfl, rfl, rfl⟩ := H
 go_wp2_with (first | ((with_reducible refine gN 1 rfl ?_); refine pB 1 75 [.int .i64 a0_0, .int .i64 a0_1, .slice A0_2 l0_2.length c0_2] HM rfl ?_; clear HM; intro gb1189 w2 HM) | ((with_reducible refine gN 2 rfl ?_); refine pB 2 75 [.int .i64 0, .int .i64 0, .slice none 0 0] HM rfl ?_; clear HM; intro gb1190 w3 HM) | ((with_reducible refine gN 3 rfl ?_); refine pL 3 k67 67 ([] : List (S67)) [] (Reps.none _ _) HM rfl ?_; clear HM; intro v1192 w4 HM; replace HM := HM.nm 2 rfl Ny1191.out; obtain ⟨_,_,_,_,_,_⟩ := bk3 (HM.bx 0 rfl)) | ((with_reducible refine gate_builtin (b := .append) (xs := #[.tmp 3, .tmp 5]) rfl ?_); refine pA 2 (.tmp 3) (.tmp 5) 68 67 k67 v1192 y1191 l0_2 A0_2 l0_2.length c0_2 HM rfl Try.underlying68 info67 rfl (HM.came HR0_2.out) (by have h_ := LMc6.out; omega) ?_; clear HM; intro v1195 w7 HM; obtain ⟨Xo8, ko8, rfl⟩ := HM.rdR 2 rfl) | ((with_reducible refine gS 7 rfl ?_); refine pS 0 7 2 [.slice Xo8 (y1191 ++ l0_2).length ko8] HM rfl rfl ?_; clear HM; intro w9 HM; obtain ⟨_,_,_,_,_,_⟩ := bk3 (HM.bx 0 rfl)) | ((with_reducible refine gS 2 rfl ?_); refine pS 1 2 0 [.int .i64 a0_0, .int .i64 a0_1, .slice Xo8 (y1191 ++ l0_2).length ko8] HM rfl rfl ?_; clear HM; intro w11 HM))
 refine bodyPost_ret (results_cell_row rfl _ _ gb1190 75 #[.int .i64 a0_0, .int .i64 a0_1, .slice Xo8 (y1191 ++ l0_2).length ko8] (0, 0) _ rfl (HM.bx 1 rfl) Try.underlying75 rfl (by kernel_rfl)) rfl ?_
 exact ⟨_, ER, (MD HM).pick [2]⟩
end Go.Proofs.Ytlokjgngjgbpmaa.G
