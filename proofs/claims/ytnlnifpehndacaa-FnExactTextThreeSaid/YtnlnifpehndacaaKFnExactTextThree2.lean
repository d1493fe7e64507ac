/- Part 2 of the claim FnExactTextThree, merged by pack.py (this session's program) out of: the print's words, cut to what is needed; texts that gen.py printed (it runs the kit's print in place); texts of this session. -/
import Derived.Test.YtnlnifpehndacaaKFnExactTextThree1
namespace Go.Proofs.Ytnlnifpehndacaa.Mm
end Go.Proofs.Ytnlnifpehndacaa.Mm
namespace Go.Proofs.Ytnlnifpehndacaa.Sh
end Go.Proofs.Ytnlnifpehndacaa.Sh
namespace Go.Proofs.Ytnlnifpehndacaa.G
open Go.RowKit Go.Proofs.YtnlnifpehndacaaW.PrintWords Go.Proofs.YtnlnifpehndacaaW.PrintLast Go.Proofs.YtnlnifpehndacaaW.PrintMore Go.Proofs.Ytnlnifpehndacaa.Sh
attribute [local go_sem] max2_int min2_int max_two min_two max_three min_three max_four min_four
set_option linter.unusedVariables false
set_option linter.unusedSimpArgs false
open Go.Proofs.Ytnlnifpehndacaa.Mm
mutual
def spec_ThreeOk.j0 : Nat → Bool → Int → Int → List (S76) → List (S76) → List Int → Option (Bool)
 | 0, _, _, _, _, _, _ => none
 | k + 1, x39, x206000, x206001, x206002, x206003, x206004 => if x39 = true then (some false) else ((some (([] : List (S76)) : List (S76))).bind fun y209 => (if y209.length + x206002.length < 3518437208883 then ((some (y209 ++ x206002 : List (S76))).bind fun y212 => (if y212.length + x206003.length < 3518437208883 then ((some (y212 ++ x206003 : List (S76))).bind fun y215 => (spec_ThreeOk.l0 k y215 y215 (y215.length : Int) 0 x206000 x206001 x206002 x206003 x206004)) else (none))) else (none)))
def spec_ThreeOk.l0 : Nat → List (S76) → List (S76) → Int → Int → Int → Int → List (S76) → List (S76) → List Int → Option (Bool)
 | 0, _, _, _, _, _, _, _, _, _ => none
 | k + 1, x3, x47, x48, x49, x206000, x206001, x206002, x206003, x206004 => if x49 < x48 then (if 0 ≤ x49 then (if x49 < (x47.length : Int) then ((spec_ItemOk.f k ((rd_T76 x47 x49).f0) ((rd_T76 x47 x49).f1) ((rd_T76 x47 x49).f2)).bind fun t220 => (if t220 = true then ((spec_l10At.f k x3 ((rd_T76 x47 x49).f0)).bind fun t221 => (if t221 = x49 then (spec_ThreeOk.l0 k x3 x47 x48 (wrap64 (x49 + 1)) x206000 x206001 x206002 x206003 x206004) else (some false))) else (some false))) else (none)) else (none)) else (spec_ThreeOk.l1 k x206004 (x206004.length : Int) 0 x206000 x206001 x206002 x206003 x206004)
def spec_ThreeOk.l1 : Nat → List Int → Int → Int → Int → Int → List (S76) → List (S76) → List Int → Option (Bool)
 | 0, _, _, _, _, _, _, _, _ => none
 | k + 1, x67, x68, x69, x206000, x206001, x206002, x206003, x206004 => if x69 < x68 then (if 0 ≤ x69 then (if x69 < (x67.length : Int) then ((spec_l01Num.f (rd x67 x69)).bind fun t223 => (if t223 = true then (if x69 ≤ (x206004.length : Int) then ((spec_l03Has.f k (x206004.take (x69 : Int).toNat) (rd x67 x69)).bind fun t225 => (if t225 = true then (some false) else (spec_ThreeOk.l1 k x67 x68 (wrap64 (x69 + 1)) x206000 x206001 x206002 x206003 x206004))) else (none)) else (some false))) else (none)) else (none)) else (some true)
end
def spec_ThreeOk.f (k : Nat) (a0_0 : Int) (a0_1 : Int) (l0_2 : List (S76)) (l0_3 : List (S76)) (l0_4 : List Int) : Option (Bool) := (spec_l01In.f a0_0 1 60).bind fun t206 => (if t206 = true then ((spec_l01In.f a0_1 1 a0_0).bind fun t207 => (if t207 = true then (if (wrap64 ((l0_2.length : Int) + (l0_3.length : Int))) > a0_0 then (spec_ThreeOk.j0 k true a0_0 a0_1 l0_2 l0_3 l0_4) else ((spec_l10Ghosts.f a0_0 a0_1 l0_2 l0_3 l0_4).bind fun t208 => (spec_ThreeOk.j0 k (decide ((l0_4.length : Int) > t208)) a0_0 a0_1 l0_2 l0_3 l0_4))) else (spec_ThreeOk.j0 k true a0_0 a0_1 l0_2 l0_3 l0_4))) else (spec_ThreeOk.j0 k true a0_0 a0_1 l0_2 l0_3 l0_4))
def spec_ThreeOk.T1 : Bool × List (List Nat × List Nat) := (true, [([], []), ([0], [0]), ([1], [1]), ([2], [2]), ([3, 2], [3]), ([4], [4]), ([5, 4], [4, 5]), ([4], [4]), ([7, 4], [4, 7]), ([6, 8, 4, 4], [4, 6, 8]), ([9, 4], [4, 9]), ([4, 10], [4, 10]), ([11, 9], [11]), ([12], [12]), ([13, 12], [12, 13]), ([14, 12], [12, 14]), ([12], [12]), ([16, 12], [12, 16]), ([17, 12], [12, 17]), ([15, 18, 12], [12, 15, 18]), ([12], [12]), ([20, 12], [12, 20]), ([19, 21, 12], [12, 19, 21]), ([12, 22], [12, 22]), ([23, 12], [23]), ([24], [24]), ([25, 24], [24, 25]), ([26, 24], [24, 26]), ([24], [24]), ([28, 24, 24], [24, 28]), ([27, 29, 24], [24, 27, 29]), ([24, 30], [24, 30])])
def spec_ThreeOk.B1 : List Nat := [0, 1, 3, 7, 15, 31, 63, 31, 159, 511, 1023, 2047, 4095, 8191, 16383, 32767, 8191, 73727, 204799, 524287, 8191, 1056767, 4194303, 8388607, 16777215, 33554431, 67108863, 134217727, 33554431, 301989887, 1073741823, 2147483647]
theorem spec_ThreeOk.tab1 : rtab .any (opsOf Try.f25 1) = spec_ThreeOk.T1 := by kernel_rfl
theorem spec_ThreeOk.bits1 : waitsOk spec_ThreeOk.T1.2 spec_ThreeOk.B1 = true := by kernel_rfl
def spec_ThreeOk.T3 : Bool × List (List Nat × List Nat) := (true, [([], []), ([], []), ([1], [1]), ([0, 2], [0, 2]), ([], []), ([4], [4]), ([3, 5, 3], [3, 5]), ([6, 6, 0, 1, 2, 3, 4, 5, 6], [6])])
def spec_ThreeOk.B3 : List Nat := [0, 0, 2, 7, 0, 16, 63, 127]
theorem spec_ThreeOk.tab3 : rtab .any (opsOf Try.f25 3) = spec_ThreeOk.T3 := by kernel_rfl
theorem spec_ThreeOk.bits3 : waitsOk spec_ThreeOk.T3.2 spec_ThreeOk.B3 = true := by kernel_rfl
set_option maxHeartbeats 8000000 in
set_option maxRecDepth 100000 in
theorem spec_ThreeOk.calls (k : Nat) (a0_0 : Int) (a0_1 : Int) (A0_2 : Option Addr) (c0_2 : Nat) (l0_2 : List (S76)) (A0_3 : Option Addr) (c0_3 : Nat) (l0_3 : List (S76)) (A0_4 : Option Addr) (c0_4 : Nat) (l0_4 : List Int) (r : Bool) (w : World) (hr0_2 : Kd.C k76 w A0_2 l0_2.length l0_2) (hc0_2 : l0_2.length ≤ c0_2) (hr0_3 : Kd.C k76 w A0_3 l0_3.length l0_3) (hc0_3 : l0_3.length ≤ c0_3) (hr0_4 : Kd.C (Kd.int .i64) w A0_4 l0_4.length l0_4) (hc0_4 : l0_4.length ≤ c0_4) (h : spec_ThreeOk.f k a0_0 a0_1 l0_2 l0_3 l0_4 = some r) :
  Calls Try.prog 25 #[.agg #[.int .i64 a0_0, .int .i64 a0_1, .slice A0_2 l0_2.length c0_2, .slice A0_3 l0_3.length c0_3, .slice A0_4 l0_4.length c0_4]] w fun e w' => e = .returned (.bool r) ∧ Mem w [] w' [] := by
 have hu25 := Try.underlying25
 have hu76 := Try.underlying76
 have HR0_2 := Aside0.mk hr0_2
 have HC0_2 := Aside0.mk hc0_2
 clear hr0_2 hc0_2
 have HR0_3 := Aside0.mk hr0_3
 have HC0_3 := Aside0.mk hc0_3
 clear hr0_3 hc0_3
 have HR0_4 := Aside0.mk hr0_4
 have HC0_4 := Aside0.mk hc0_4
 clear hr0_4 hc0_4
 have HM := Mem.nil w
 have H := h
 clear h
 unfold spec_ThreeOk.f at H
 go_enter Try.func25, Try.ntmps25
 have HC3 := Aside0.mk H
 clear H
 go_upto_region 1 with (first | ((with_reducible refine gN 1 rfl ?_); refine pB 1 25 [.int .i64 a0_0, .int .i64 a0_1, .slice A0_2 l0_2.length c0_2, .slice A0_3 l0_3.length c0_3, .slice A0_4 l0_4.length c0_4] HM rfl ?_; clear HM; intro gb205 w2 HM))
 go_cut [39] (fun v39 wc => ∃ (kq : Nat) (x39_2 : Bool), v39 = .bool x39_2 ∧ Aside0 (spec_ThreeOk.j0 kq x39_2 a0_0 a0_1 l0_2 l0_3 l0_4 = some r) ∧ Aside0 (kq ≤ k) ∧ Mem w [] wc [box 25 gb205 [.int .i64 a0_0, .int .i64 a0_1, .slice A0_2 l0_2.length c0_2, .slice A0_3 l0_3.length c0_3, .slice A0_4 l0_4.length c0_4]])
 case first =>
  have H := HC3.out
  clear HC3
  try go_wp2
  replace H := BN H; obtain ⟨t206, A4, H⟩ := H
  replace H := IB H
  rcases H with ⟨c5, H⟩ | ⟨c5, H⟩
  ·subst c5
   replace H := BN H; obtain ⟨t207, A6, H⟩ := H
   replace H := IB H
   rcases H with ⟨c7, H⟩ | ⟨c7, H⟩
   ·subst c7
    replace H := IT H; rcases H with ⟨c8, H⟩ | ⟨c8, H⟩
    ·have c8b0 : decide (a0_0 < (wrap64 ((l0_2.length : Int) + (l0_3.length : Int)))) = true := decide_eq_true c8
     clear c8
     refine RGN 32 [0, 1, 2, 3, 4, 5, 6, 7, 8, 9, 10, 11, 12, 13, 14, 15, 16, 17, 18, 19, 20, 21, 22, 23, 24, 25, 26, 27, 28, 29, 30, 31] (fun a0 b a w' => a = putSel a0 b [(0, 8, .pointer (some ⟨gb205, 0, none⟩)), (1, 9, .int .i64 a0_0), (2, 10, .bool true), (3, 11, .bool (!true)), (4, 12, .bool (!true)), (5, 13, .pointer (some ⟨gb205, 1, none⟩)), (6, 14, .int .i64 a0_1), (7, 15, .pointer (some ⟨gb205, 0, none⟩)), (8, 16, .int .i64 a0_0), (9, 17, .bool true), (10, 18, .bool (!true)), (11, 19, .bool (!true)), (12, 20, .bool (!true)), (13, 21, .pointer (some ⟨gb205, 2, none⟩)), (14, 22, .slice A0_2 l0_2.length c0_2), (15, 23, .int .i64 (l0_2.length : Int)), (16, 24, .pointer (some ⟨gb205, 3, none⟩)), (17, 25, .slice A0_3 l0_3.length c0_3), (18, 26, .int .i64 (l0_3.length : Int)), (19, 27, .int .i64 (wrap64 ((l0_2.length : Int) + (l0_3.length : Int)))), (20, 28, .pointer (some ⟨gb205, 0, none⟩)), (21, 29, .int .i64 a0_0), (22, 30, .bool (decide ((wrap64 ((l0_2.length : Int) + (l0_3.length : Int))) > a0_0))), (23, 31, .bool (decide ((wrap64 ((l0_2.length : Int) + (l0_3.length : Int))) > a0_0))), (24, 32, .bool (decide ((wrap64 ((l0_2.length : Int) + (l0_3.length : Int))) > a0_0))), (25, 33, undef), (26, 34, undef), (27, 35, undef), (28, 36, undef), (29, 37, undef), (30, 38, undef), (31, 39, .bool true)] ∧ Mem w [] w' [box 25 gb205 [.int .i64 a0_0, .int .i64 a0_1, .slice A0_2 l0_2.length c0_2, .slice A0_3 l0_3.length c0_3, .slice A0_4 l0_4.length c0_4]]) spec_ThreeOk.tab1 spec_ThreeOk.bits1 ?_ ?_ ?_
     ·exact ⟨PS0' rfl _, (HM.drew).pick [0]⟩
     ·clear HM
      refine SY ?_ ?_
      ·intro b a w ha HM hb hon hoff K hK
       have e1 := PG ha 1
       exact VL (.pointer (some ⟨gb205, 0, none⟩)) (hK.out _ _ ⟨PUT ha 0 hb, HM⟩)
      refine SY ?_ ?_
      ·intro b a w ha HM hb hon hoff K hK
       obtain ⟨_,_,_,_,_,_,_,_,_,_⟩ := bk5 (HM.bx 0 rfl)
       have e8 := PE ha 0 hon
       exact VL (.int .i64 a0_0) (hK.out _ _ ⟨PUT ha 1 hb, HM⟩)
      refine SY ?_ ?_
      ·intro b a w ha HM hb hon hoff K hK
       have e9 := PE ha 1 hon
       refine ST (eC (some 10) rfl #[.int .i64 a0_0, .int .i64 1, .int .i64 60] rfl Try.func59 (spec_l01In.calls a0_0 1 60 true _ A4.out) ?_ (hargs := by (simp only [List.map_toArray, List.map_cons, List.map_nil, evc, eval_of e9]) <;> rfl))
       rintro e w18 ⟨rfl, hd⟩
       refine ⟨_, rfl, ?_⟩
       replace HM := HM.drawn hd
       clear hd
       exact hK.out _ _ ⟨PUT ha 2 hb, (HM).pick [0]⟩
      refine SY ?_ ?_
      ·intro b a w ha HM hb hon hoff K hK
       have e10 := PE ha 2 hon
       exact VL (.bool (!true)) (hK.out _ _ ⟨PUT ha 3 hb, HM⟩)
      refine SY ?_ ?_
      ·intro b a w ha HM hb hon hoff K hK
       have e11 := PE ha 3 hon
       exact VL (.bool (!true)) (hK.out _ _ ⟨PUT ha 4 hb, HM⟩)
      refine SY ?_ ?_
      ·intro b a w ha HM hb hon hoff K hK
       have e1 := PG ha 1
       have e12 := PE ha 4 hon
       exact VL (.pointer (some ⟨gb205, 1, none⟩)) (hK.out _ _ ⟨PUT ha 5 hb, HM⟩) (hw := wanted_on rfl rfl rfl (e12.trans (by first | rfl | (simp [*]; done))))
      refine SY ?_ ?_
      ·intro b a w ha HM hb hon hoff K hK
       obtain ⟨_,_,_,_,_,_,_,_,_,_⟩ := bk5 (HM.bx 0 rfl)
       have e13 := PE ha 5 hon
       have e12 := PE ha 4 hon
       exact VL (.int .i64 a0_1) (hK.out _ _ ⟨PUT ha 6 hb, HM⟩) (hw := wanted_on rfl rfl rfl (e12.trans (by first | rfl | (simp [*]; done))))
      refine SY ?_ ?_
      ·intro b a w ha HM hb hon hoff K hK
       have e1 := PG ha 1
       have e12 := PE ha 4 hon
       exact VL (.pointer (some ⟨gb205, 0, none⟩)) (hK.out _ _ ⟨PUT ha 7 hb, HM⟩) (hw := wanted_on rfl rfl rfl (e12.trans (by first | rfl | (simp [*]; done))))
      refine SY ?_ ?_
      ·intro b a w ha HM hb hon hoff K hK
       obtain ⟨_,_,_,_,_,_,_,_,_,_⟩ := bk5 (HM.bx 0 rfl)
       have e15 := PE ha 7 hon
       have e12 := PE ha 4 hon
       exact VL (.int .i64 a0_0) (hK.out _ _ ⟨PUT ha 8 hb, HM⟩) (hw := wanted_on rfl rfl rfl (e12.trans (by first | rfl | (simp [*]; done))))
      refine SY ?_ ?_
      ·intro b a w ha HM hb hon hoff K hK
       have e14 := PE ha 6 hon
       have e16 := PE ha 8 hon
       have e12 := PE ha 4 hon
       refine ST (eC (some 17) rfl #[.int .i64 a0_1, .int .i64 1, .int .i64 a0_0] rfl Try.func59 (spec_l01In.calls a0_1 1 a0_0 true _ A6.out) ?_ (hargs := by (simp only [List.map_toArray, List.map_cons, List.map_nil, evc, eval_of e14, eval_of e16]) <;> rfl)) (hw := wanted_on rfl rfl rfl (e12.trans (by first | rfl | (simp [*]; done))))
       rintro e w21 ⟨rfl, hd⟩
       refine ⟨_, rfl, ?_⟩
       replace HM := HM.drawn hd
       clear hd
       exact hK.out _ _ ⟨PUT ha 9 hb, (HM).pick [0]⟩
      refine SY ?_ ?_
      ·intro b a w ha HM hb hon hoff K hK
       have e17 := PE ha 9 hon
       have e12 := PE ha 4 hon
       exact VL (.bool (!true)) (hK.out _ _ ⟨PUT ha 10 hb, HM⟩) (hw := wanted_on rfl rfl rfl (e12.trans (by first | rfl | (simp [*]; done))))
      refine SY ?_ ?_
      ·intro b a w ha HM hb hon hoff K hK
       have e12 := PE ha 4 hon
       have e18 := PE ha 10 hon
       exact VL (.bool (!true)) (hK.out _ _ ⟨PUT ha 11 hb, HM⟩)
      refine SY ?_ ?_
      ·intro b a w ha HM hb hon hoff K hK
       have e19 := PE ha 11 hon
       exact VL (.bool (!true)) (hK.out _ _ ⟨PUT ha 12 hb, HM⟩)
      refine SY ?_ ?_
      ·intro b a w ha HM hb hon hoff K hK
       have e1 := PG ha 1
       have e20 := PE ha 12 hon
       exact VL (.pointer (some ⟨gb205, 2, none⟩)) (hK.out _ _ ⟨PUT ha 13 hb, HM⟩) (hw := wanted_on rfl rfl rfl (e20.trans (by first | rfl | (simp [*]; done))))
      refine SY ?_ ?_
      ·intro b a w ha HM hb hon hoff K hK
       obtain ⟨_,_,_,_,_,_,_,_,_,_⟩ := bk5 (HM.bx 0 rfl)
       have e21 := PE ha 13 hon
       have e20 := PE ha 12 hon
       exact VL (.slice A0_2 l0_2.length c0_2) (hK.out _ _ ⟨PUT ha 14 hb, HM⟩) (hw := wanted_on rfl rfl rfl (e20.trans (by first | rfl | (simp [*]; done))))
      refine SY ?_ ?_
      ·intro b a w ha HM hb hon hoff K hK
       have e22 := PE ha 14 hon
       have e20 := PE ha 12 hon
       exact VL (.int .i64 (l0_2.length : Int)) (hK.out _ _ ⟨PUT ha 15 hb, HM⟩) (hw := wanted_on rfl rfl rfl (e20.trans (by first | rfl | (simp [*]; done))))
      refine SY ?_ ?_
      ·intro b a w ha HM hb hon hoff K hK
       have e1 := PG ha 1
       have e20 := PE ha 12 hon
       exact VL (.pointer (some ⟨gb205, 3, none⟩)) (hK.out _ _ ⟨PUT ha 16 hb, HM⟩) (hw := wanted_on rfl rfl rfl (e20.trans (by first | rfl | (simp [*]; done))))
      refine SY ?_ ?_
      ·intro b a w ha HM hb hon hoff K hK
       obtain ⟨_,_,_,_,_,_,_,_,_,_⟩ := bk5 (HM.bx 0 rfl)
       have e24 := PE ha 16 hon
       have e20 := PE ha 12 hon
       exact VL (.slice A0_3 l0_3.length c0_3) (hK.out _ _ ⟨PUT ha 17 hb, HM⟩) (hw := wanted_on rfl rfl rfl (e20.trans (by first | rfl | (simp [*]; done))))
      refine SY ?_ ?_
      ·intro b a w ha HM hb hon hoff K hK
       have e25 := PE ha 17 hon
       have e20 := PE ha 12 hon
       exact VL (.int .i64 (l0_3.length : Int)) (hK.out _ _ ⟨PUT ha 18 hb, HM⟩) (hw := wanted_on rfl rfl rfl (e20.trans (by first | rfl | (simp [*]; done))))
      refine SY ?_ ?_
      ·intro b a w ha HM hb hon hoff K hK
       have e23 := PE ha 15 hon
       have e26 := PE ha 18 hon
       have e20 := PE ha 12 hon
       exact VL (.int .i64 (wrap64 ((l0_2.length : Int) + (l0_3.length : Int)))) (hK.out _ _ ⟨PUT ha 19 hb, HM⟩) (hw := wanted_on rfl rfl rfl (e20.trans (by first | rfl | (simp [*]; done))))
      refine SY ?_ ?_
      ·intro b a w ha HM hb hon hoff K hK
       have e1 := PG ha 1
       have e20 := PE ha 12 hon
       exact VL (.pointer (some ⟨gb205, 0, none⟩)) (hK.out _ _ ⟨PUT ha 20 hb, HM⟩) (hw := wanted_on rfl rfl rfl (e20.trans (by first | rfl | (simp [*]; done))))
      refine SY ?_ ?_
      ·intro b a w ha HM hb hon hoff K hK
       obtain ⟨_,_,_,_,_,_,_,_,_,_⟩ := bk5 (HM.bx 0 rfl)
       have e28 := PE ha 20 hon
       have e20 := PE ha 12 hon
       exact VL (.int .i64 a0_0) (hK.out _ _ ⟨PUT ha 21 hb, HM⟩) (hw := wanted_on rfl rfl rfl (e20.trans (by first | rfl | (simp [*]; done))))
      refine SY ?_ ?_
      ·intro b a w ha HM hb hon hoff K hK
       have e27 := PE ha 19 hon
       have e29 := PE ha 21 hon
       have e20 := PE ha 12 hon
       exact VL (.bool (decide ((wrap64 ((l0_2.length : Int) + (l0_3.length : Int))) > a0_0))) (hK.out _ _ ⟨PUT ha 22 hb, HM⟩) (hw := wanted_on rfl rfl rfl (e20.trans (by first | rfl | (simp [*]; done))))
      refine SY ?_ ?_
      ·intro b a w ha HM hb hon hoff K hK
       have e20 := PE ha 12 hon
       have e30 := PE ha 22 hon
       exact VL (.bool (decide ((wrap64 ((l0_2.length : Int) + (l0_3.length : Int))) > a0_0))) (hK.out _ _ ⟨PUT ha 23 hb, HM⟩)
      refine SY ?_ ?_
      ·intro b a w ha HM hb hon hoff K hK
       have e31 := PE ha 23 hon
       exact VL (.bool (decide ((wrap64 ((l0_2.length : Int) + (l0_3.length : Int))) > a0_0))) (hK.out _ _ ⟨PUT ha 24 hb, HM⟩)
      refine SY ?_ ?_
      ·intro b a w ha HM hb hon hoff K hK
       have e32 := PE ha 24 hon
       exact VN ( wanted_off rfl rfl rfl (e32.trans (by first | rfl | (simp [*]; done)))) (hK.out _ _ ⟨PUT ha 25 hb, HM⟩)
      refine SY ?_ ?_
      ·intro b a w ha HM hb hon hoff K hK
       have e32 := PE ha 24 hon
       exact VN ( wanted_off rfl rfl rfl (e32.trans (by first | rfl | (simp [*]; done)))) (hK.out _ _ ⟨PUT ha 26 hb, HM⟩)
      refine SY ?_ ?_
      ·intro b a w ha HM hb hon hoff K hK
       have e32 := PE ha 24 hon
       exact VN ( wanted_off rfl rfl rfl (e32.trans (by first | rfl | (simp [*]; done)))) (hK.out _ _ ⟨PUT ha 27 hb, HM⟩)
      refine SY ?_ ?_
      ·intro b a w ha HM hb hon hoff K hK
       have e32 := PE ha 24 hon
       exact VN ( wanted_off rfl rfl rfl (e32.trans (by first | rfl | (simp [*]; done)))) (hK.out _ _ ⟨PUT ha 28 hb, HM⟩)
      refine SY ?_ ?_
      ·intro b a w ha HM hb hon hoff K hK
       have e32 := PE ha 24 hon
       exact VN ( wanted_off rfl rfl rfl (e32.trans (by first | rfl | (simp [*]; done)))) (hK.out _ _ ⟨PUT ha 29 hb, HM⟩)
      refine SY ?_ ?_
      ·intro b a w ha HM hb hon hoff K hK
       have e32 := PE ha 24 hon
       exact VN ( wanted_off rfl rfl rfl (e32.trans (by first | rfl | (simp [*]; done)))) (hK.out _ _ ⟨PUT ha 30 hb, HM⟩)
      refine SY ?_ ?_
      ·intro b a w ha HM hb hon hoff K hK
       have e32 := PE ha 24 hon
       have e38 := PE ha 30 hon
       exact VL (.bool true) (hK.out _ _ ⟨PUT ha 31 hb, HM⟩)
      exact steps_nil
     rintro _ w25 ⟨rfl, HM⟩
     simp only [putSel, if_true, Act.put, List.setIfInBounds_toArray, List.set_cons_zero, List.set_cons_succ, gt_iff_lt, ge_iff_le]
     have H' := Aside0.mk H
     clear H
     go_wp2
     go_meet
     case rel => exact ⟨_, (true), RS, H', ⟨by first | omega | exact Nat.le_refl _⟩, (MD HM).pick [0]⟩
    ·have c8b0 : decide (a0_0 < (wrap64 ((l0_2.length : Int) + (l0_3.length : Int)))) = false := decide_eq_false c8
     clear c8
     replace H := BN H; obtain ⟨t208, A26, H⟩ := H
     refine RGN 32 [0, 1, 2, 3, 4, 5, 6, 7, 8, 9, 10, 11, 12, 13, 14, 15, 16, 17, 18, 19, 20, 21, 22, 23, 24, 25, 26, 27, 28, 29, 30, 31] (fun a0 b a w' => a = putSel a0 b [(0, 8, .pointer (some ⟨gb205, 0, none⟩)), (1, 9, .int .i64 a0_0), (2, 10, .bool true), (3, 11, .bool (!true)), (4, 12, .bool (!true)), (5, 13, .pointer (some ⟨gb205, 1, none⟩)), (6, 14, .int .i64 a0_1), (7, 15, .pointer (some ⟨gb205, 0, none⟩)), (8, 16, .int .i64 a0_0), (9, 17, .bool true), (10, 18, .bool (!true)), (11, 19, .bool (!true)), (12, 20, .bool (!true)), (13, 21, .pointer (some ⟨gb205, 2, none⟩)), (14, 22, .slice A0_2 l0_2.length c0_2), (15, 23, .int .i64 (l0_2.length : Int)), (16, 24, .pointer (some ⟨gb205, 3, none⟩)), (17, 25, .slice A0_3 l0_3.length c0_3), (18, 26, .int .i64 (l0_3.length : Int)), (19, 27, .int .i64 (wrap64 ((l0_2.length : Int) + (l0_3.length : Int)))), (20, 28, .pointer (some ⟨gb205, 0, none⟩)), (21, 29, .int .i64 a0_0), (22, 30, .bool (decide ((wrap64 ((l0_2.length : Int) + (l0_3.length : Int))) > a0_0))), (23, 31, .bool (decide ((wrap64 ((l0_2.length : Int) + (l0_3.length : Int))) > a0_0))), (24, 32, .bool (decide ((wrap64 ((l0_2.length : Int) + (l0_3.length : Int))) > a0_0))), (25, 33, .pointer (some ⟨gb205, 4, none⟩)), (26, 34, .slice A0_4 l0_4.length c0_4), (27, 35, .int .i64 (l0_4.length : Int)), (28, 36, .agg #[.int .i64 a0_0, .int .i64 a0_1, .slice A0_2 l0_2.length c0_2, .slice A0_3 l0_3.length c0_3, .slice A0_4 l0_4.length c0_4]), (29, 37, .int .i64 t208), (30, 38, .bool (decide ((l0_4.length : Int) > t208))), (31, 39, .bool (decide ((l0_4.length : Int) > t208)))] ∧ Mem w [] w' [box 25 gb205 [.int .i64 a0_0, .int .i64 a0_1, .slice A0_2 l0_2.length c0_2, .slice A0_3 l0_3.length c0_3, .slice A0_4 l0_4.length c0_4]]) spec_ThreeOk.tab1 spec_ThreeOk.bits1 ?_ ?_ ?_
     ·exact ⟨PS0' rfl _, (HM.drew).pick [0]⟩
     ·clear HM
      refine SY ?_ ?_
      ·intro b a w ha HM hb hon hoff K hK
       have e1 := PG ha 1
       exact VL (.pointer (some ⟨gb205, 0, none⟩)) (hK.out _ _ ⟨PUT ha 0 hb, HM⟩)
      refine SY ?_ ?_
      ·intro b a w ha HM hb hon hoff K hK
       obtain ⟨_,_,_,_,_,_,_,_,_,_⟩ := bk5 (HM.bx 0 rfl)
       have e8 := PE ha 0 hon
       exact VL (.int .i64 a0_0) (hK.out _ _ ⟨PUT ha 1 hb, HM⟩)
      refine SY ?_ ?_
      ·intro b a w ha HM hb hon hoff K hK
       have e9 := PE ha 1 hon
       refine ST (eC (some 10) rfl #[.int .i64 a0_0, .int .i64 1, .int .i64 60] rfl Try.func59 (spec_l01In.calls a0_0 1 60 true _ A4.out) ?_ (hargs := by (simp only [List.map_toArray, List.map_cons, List.map_nil, evc, eval_of e9]) <;> rfl))
       rintro e w39 ⟨rfl, hd⟩
       refine ⟨_, rfl, ?_⟩
       replace HM := HM.drawn hd
       clear hd
       exact hK.out _ _ ⟨PUT ha 2 hb, (HM).pick [0]⟩
      refine SY ?_ ?_
      ·intro b a w ha HM hb hon hoff K hK
       have e10 := PE ha 2 hon
       exact VL (.bool (!true)) (hK.out _ _ ⟨PUT ha 3 hb, HM⟩)
      refine SY ?_ ?_
      ·intro b a w ha HM hb hon hoff K hK
       have e11 := PE ha 3 hon
       exact VL (.bool (!true)) (hK.out _ _ ⟨PUT ha 4 hb, HM⟩)
      refine SY ?_ ?_
      ·intro b a w ha HM hb hon hoff K hK
       have e1 := PG ha 1
       have e12 := PE ha 4 hon
       exact VL (.pointer (some ⟨gb205, 1, none⟩)) (hK.out _ _ ⟨PUT ha 5 hb, HM⟩) (hw := wanted_on rfl rfl rfl (e12.trans (by first | rfl | (simp [*]; done))))
      refine SY ?_ ?_
      ·intro b a w ha HM hb hon hoff K hK
       obtain ⟨_,_,_,_,_,_,_,_,_,_⟩ := bk5 (HM.bx 0 rfl)
       have e13 := PE ha 5 hon
       have e12 := PE ha 4 hon
       exact VL (.int .i64 a0_1) (hK.out _ _ ⟨PUT ha 6 hb, HM⟩) (hw := wanted_on rfl rfl rfl (e12.trans (by first | rfl | (simp [*]; done))))
      refine SY ?_ ?_
      ·intro b a w ha HM hb hon hoff K hK
       have e1 := PG ha 1
       have e12 := PE ha 4 hon
       exact VL (.pointer (some ⟨gb205, 0, none⟩)) (hK.out _ _ ⟨PUT ha 7 hb, HM⟩) (hw := wanted_on rfl rfl rfl (e12.trans (by first | rfl | (simp [*]; done))))
      refine SY ?_ ?_
      ·intro b a w ha HM hb hon hoff K hK
       obtain ⟨_,_,_,_,_,_,_,_,_,_⟩ := bk5 (HM.bx 0 rfl)
       have e15 := PE ha 7 hon
       have e12 := PE ha 4 hon
       exact VL (.int .i64 a0_0) (hK.out _ _ ⟨PUT ha 8 hb, HM⟩) (hw := wanted_on rfl rfl rfl (e12.trans (by first | rfl | (simp [*]; done))))
      refine SY ?_ ?_
      ·intro b a w ha HM hb hon hoff K hK
       have e14 := PE ha 6 hon
       have e16 := PE ha 8 hon
       have e12 := PE ha 4 hon
       refine ST (eC (some 17) rfl #[.int .i64 a0_1, .int .i64 1, .int .i64 a0_0] rfl Try.func59 (spec_l01In.calls a0_1 1 a0_0 true _ A6.out) ?_ (hargs := by (simp only [List.map_toArray, List.map_cons, List.map_nil, evc, eval_of e14, eval_of e16]) <;> rfl)) (hw := wanted_on rfl rfl rfl (e12.trans (by first | rfl | (simp [*]; done))))
       rintro e w42 ⟨rfl, hd⟩
       refine ⟨_, rfl, ?_⟩
       replace HM := HM.drawn hd
       clear hd
       exact hK.out _ _ ⟨PUT ha 9 hb, (HM).pick [0]⟩
      refine SY ?_ ?_
      ·intro b a w ha HM hb hon hoff K hK
       have e17 := PE ha 9 hon
       have e12 := PE ha 4 hon
       exact VL (.bool (!true)) (hK.out _ _ ⟨PUT ha 10 hb, HM⟩) (hw := wanted_on rfl rfl rfl (e12.trans (by first | rfl | (simp [*]; done))))
      refine SY ?_ ?_
      ·intro b a w ha HM hb hon hoff K hK
       have e12 := PE ha 4 hon
       have e18 := PE ha 10 hon
       exact VL (.bool (!true)) (hK.out _ _ ⟨PUT ha 11 hb, HM⟩)
      refine SY ?_ ?_
      ·intro b a w ha HM hb hon hoff K hK
       have e19 := PE ha 11 hon
       exact VL (.bool (!true)) (hK.out _ _ ⟨PUT ha 12 hb, HM⟩)
      refine SY ?_ ?_
      ·intro b a w ha HM hb hon hoff K hK
       have e1 := PG ha 1
       have e20 := PE ha 12 hon
       exact VL (.pointer (some ⟨gb205, 2, none⟩)) (hK.out _ _ ⟨PUT ha 13 hb, HM⟩) (hw := wanted_on rfl rfl rfl (e20.trans (by first | rfl | (simp [*]; done))))
      refine SY ?_ ?_
      ·intro b a w ha HM hb hon hoff K hK
       obtain ⟨_,_,_,_,_,_,_,_,_,_⟩ := bk5 (HM.bx 0 rfl)
       have e21 := PE ha 13 hon
       have e20 := PE ha 12 hon
       exact VL (.slice A0_2 l0_2.length c0_2) (hK.out _ _ ⟨PUT ha 14 hb, HM⟩) (hw := wanted_on rfl rfl rfl (e20.trans (by first | rfl | (simp [*]; done))))
      refine SY ?_ ?_
      ·intro b a w ha HM hb hon hoff K hK
       have e22 := PE ha 14 hon
       have e20 := PE ha 12 hon
       exact VL (.int .i64 (l0_2.length : Int)) (hK.out _ _ ⟨PUT ha 15 hb, HM⟩) (hw := wanted_on rfl rfl rfl (e20.trans (by first | rfl | (simp [*]; done))))
      refine SY ?_ ?_
      ·intro b a w ha HM hb hon hoff K hK
       have e1 := PG ha 1
       have e20 := PE ha 12 hon
       exact VL (.pointer (some ⟨gb205, 3, none⟩)) (hK.out _ _ ⟨PUT ha 16 hb, HM⟩) (hw := wanted_on rfl rfl rfl (e20.trans (by first | rfl | (simp [*]; done))))
      refine SY ?_ ?_
      ·intro b a w ha HM hb hon hoff K hK
       obtain ⟨_,_,_,_,_,_,_,_,_,_⟩ := bk5 (HM.bx 0 rfl)
       have e24 := PE ha 16 hon
       have e20 := PE ha 12 hon
       exact VL (.slice A0_3 l0_3.length c0_3) (hK.out _ _ ⟨PUT ha 17 hb, HM⟩) (hw := wanted_on rfl rfl rfl (e20.trans (by first | rfl | (simp [*]; done))))
      refine SY ?_ ?_
      ·intro b a w ha HM hb hon hoff K hK
       have e25 := PE ha 17 hon
       have e20 := PE ha 12 hon
       exact VL (.int .i64 (l0_3.length : Int)) (hK.out _ _ ⟨PUT ha 18 hb, HM⟩) (hw := wanted_on rfl rfl rfl (e20.trans (by first | rfl | (simp [*]; done))))
      refine SY ?_ ?_
      ·intro b a w ha HM hb hon hoff K hK
       have e23 := PE ha 15 hon
       have e26 := PE ha 18 hon
       have e20 := PE ha 12 hon
       exact VL (.int .i64 (wrap64 ((l0_2.length : Int) + (l0_3.length : Int)))) (hK.out _ _ ⟨PUT ha 19 hb, HM⟩) (hw := wanted_on rfl rfl rfl (e20.trans (by first | rfl | (simp [*]; done))))
      refine SY ?_ ?_
      ·intro b a w ha HM hb hon hoff K hK
       have e1 := PG ha 1
       have e20 := PE ha 12 hon
       exact VL (.pointer (some ⟨gb205, 0, none⟩)) (hK.out _ _ ⟨PUT ha 20 hb, HM⟩) (hw := wanted_on rfl rfl rfl (e20.trans (by first | rfl | (simp [*]; done))))
      refine SY ?_ ?_
      ·intro b a w ha HM hb hon hoff K hK
       obtain ⟨_,_,_,_,_,_,_,_,_,_⟩ := bk5 (HM.bx 0 rfl)
       have e28 := PE ha 20 hon
       have e20 := PE ha 12 hon
       exact VL (.int .i64 a0_0) (hK.out _ _ ⟨PUT ha 21 hb, HM⟩) (hw := wanted_on rfl rfl rfl (e20.trans (by first | rfl | (simp [*]; done))))
      refine SY ?_ ?_
      ·intro b a w ha HM hb hon hoff K hK
       have e27 := PE ha 19 hon
       have e29 := PE ha 21 hon
       have e20 := PE ha 12 hon
       exact VL (.bool (decide ((wrap64 ((l0_2.length : Int) + (l0_3.length : Int))) > a0_0))) (hK.out _ _ ⟨PUT ha 22 hb, HM⟩) (hw := wanted_on rfl rfl rfl (e20.trans (by first | rfl | (simp [*]; done))))
      refine SY ?_ ?_
      ·intro b a w ha HM hb hon hoff K hK
       have e20 := PE ha 12 hon
       have e30 := PE ha 22 hon
       exact VL (.bool (decide ((wrap64 ((l0_2.length : Int) + (l0_3.length : Int))) > a0_0))) (hK.out _ _ ⟨PUT ha 23 hb, HM⟩)
      refine SY ?_ ?_
      ·intro b a w ha HM hb hon hoff K hK
       have e31 := PE ha 23 hon
       exact VL (.bool (decide ((wrap64 ((l0_2.length : Int) + (l0_3.length : Int))) > a0_0))) (hK.out _ _ ⟨PUT ha 24 hb, HM⟩)
      refine SY ?_ ?_
      ·intro b a w ha HM hb hon hoff K hK
       have e1 := PG ha 1
       have e32 := PE ha 24 hon
       exact VL (.pointer (some ⟨gb205, 4, none⟩)) (hK.out _ _ ⟨PUT ha 25 hb, HM⟩) (hw := wanted_on rfl rfl rfl (e32.trans (by first | rfl | (simp [*]; done))))
      refine SY ?_ ?_
      ·intro b a w ha HM hb hon hoff K hK
       obtain ⟨_,_,_,_,_,_,_,_,_,_⟩ := bk5 (HM.bx 0 rfl)
       have e33 := PE ha 25 hon
       have e32 := PE ha 24 hon
       exact VL (.slice A0_4 l0_4.length c0_4) (hK.out _ _ ⟨PUT ha 26 hb, HM⟩) (hw := wanted_on rfl rfl rfl (e32.trans (by first | rfl | (simp [*]; done))))
      refine SY ?_ ?_
      ·intro b a w ha HM hb hon hoff K hK
       have e34 := PE ha 26 hon
       have e32 := PE ha 24 hon
       exact VL (.int .i64 (l0_4.length : Int)) (hK.out _ _ ⟨PUT ha 27 hb, HM⟩) (hw := wanted_on rfl rfl rfl (e32.trans (by first | rfl | (simp [*]; done))))
      refine SY ?_ ?_
      ·intro b a w ha HM hb hon hoff K hK
       obtain ⟨_,_,_,_,_,_,_,_,_,_⟩ := bk5 (HM.bx 0 rfl)
       have e1 := PG ha 1
       have e32 := PE ha 24 hon
       exact VL (.agg #[.int .i64 a0_0, .int .i64 a0_1, .slice A0_2 l0_2.length c0_2, .slice A0_3 l0_3.length c0_3, .slice A0_4 l0_4.length c0_4]) (hK.out _ _ ⟨PUT ha 28 hb, HM⟩) (hw := wanted_on rfl rfl rfl (e32.trans (by first | rfl | (simp [*]; done))))
      refine SY ?_ ?_
      ·intro b a w ha HM hb hon hoff K hK
       have e36 := PE ha 28 hon
       have e32 := PE ha 24 hon
       refine ST (eC (some 37) rfl #[.agg #[.int .i64 a0_0, .int .i64 a0_1, .slice A0_2 l0_2.length c0_2, .slice A0_3 l0_3.length c0_3, .slice A0_4 l0_4.length c0_4]] rfl Try.func60 (spec_l10Ghosts.calls a0_0 a0_1 _ _ l0_2 _ _ l0_3 _ _ l0_4 t208 _ (HM.came HR0_2.out) HC0_2.out (HM.came HR0_3.out) HC0_3.out (HM.came HR0_4.out) HC0_4.out A26.out) ?_ (hargs := by (simp only [List.map_toArray, List.map_cons, List.map_nil, evc, eval_of e36]) <;> rfl)) (hw := wanted_on rfl rfl rfl (e32.trans (by first | rfl | (simp [*]; done))))
       rintro e w48 ⟨rfl, hR⟩
       refine ⟨_, rfl, ?_⟩
       replace HM := HM.call hR
       clear hR
       exact hK.out _ _ ⟨PUT ha 29 hb, (HM).pick [0]⟩
      refine SY ?_ ?_
      ·intro b a w ha HM hb hon hoff K hK
       have e35 := PE ha 27 hon
       have e37 := PE ha 29 hon
       have e32 := PE ha 24 hon
       exact VL (.bool (decide ((l0_4.length : Int) > t208))) (hK.out _ _ ⟨PUT ha 30 hb, HM⟩) (hw := wanted_on rfl rfl rfl (e32.trans (by first | rfl | (simp [*]; done))))
      refine SY ?_ ?_
      ·intro b a w ha HM hb hon hoff K hK
       have e32 := PE ha 24 hon
       have e38 := PE ha 30 hon
       exact VL (.bool (decide ((l0_4.length : Int) > t208))) (hK.out _ _ ⟨PUT ha 31 hb, HM⟩)
      exact steps_nil
     rintro _ w49 ⟨rfl, HM⟩
     simp only [putSel, if_true, Act.put, List.setIfInBounds_toArray, List.set_cons_zero, List.set_cons_succ, gt_iff_lt, ge_iff_le]
     have H' := Aside0.mk H
     clear H
     go_wp2
     go_meet
     case rel => exact ⟨_, (decide ((l0_4.length : Int) > t208)), RS, H', ⟨by first | omega | exact Nat.le_refl _⟩, (MD HM).pick [0]⟩
   ·subst c7
    refine RGN 32 [0, 1, 2, 3, 4, 5, 6, 7, 8, 9, 10, 11, 12, 13, 14, 15, 16, 17, 18, 19, 20, 21, 22, 23, 24, 25, 26, 27, 28, 29, 30, 31] (fun a0 b a w' => a = putSel a0 b [(0, 8, .pointer (some ⟨gb205, 0, none⟩)), (1, 9, .int .i64 a0_0), (2, 10, .bool true), (3, 11, .bool (!true)), (4, 12, .bool (!true)), (5, 13, .pointer (some ⟨gb205, 1, none⟩)), (6, 14, .int .i64 a0_1), (7, 15, .pointer (some ⟨gb205, 0, none⟩)), (8, 16, .int .i64 a0_0), (9, 17, .bool false), (10, 18, .bool (!false)), (11, 19, .bool (!false)), (12, 20, .bool (!false)), (13, 21, undef), (14, 22, undef), (15, 23, undef), (16, 24, undef), (17, 25, undef), (18, 26, undef), (19, 27, undef), (20, 28, undef), (21, 29, undef), (22, 30, undef), (23, 31, .bool true), (24, 32, .bool true), (25, 33, undef), (26, 34, undef), (27, 35, undef), (28, 36, undef), (29, 37, undef), (30, 38, undef), (31, 39, .bool true)] ∧ Mem w [] w' [box 25 gb205 [.int .i64 a0_0, .int .i64 a0_1, .slice A0_2 l0_2.length c0_2, .slice A0_3 l0_3.length c0_3, .slice A0_4 l0_4.length c0_4]]) spec_ThreeOk.tab1 spec_ThreeOk.bits1 ?_ ?_ ?_
    ·exact ⟨PS0' rfl _, (HM.drew).pick [0]⟩
    ·clear HM
     refine SY ?_ ?_
     ·intro b a w ha HM hb hon hoff K hK
      have e1 := PG ha 1
      exact VL (.pointer (some ⟨gb205, 0, none⟩)) (hK.out _ _ ⟨PUT ha 0 hb, HM⟩)
     refine SY ?_ ?_
     ·intro b a w ha HM hb hon hoff K hK
      obtain ⟨_,_,_,_,_,_,_,_,_,_⟩ := bk5 (HM.bx 0 rfl)
      have e8 := PE ha 0 hon
      exact VL (.int .i64 a0_0) (hK.out _ _ ⟨PUT ha 1 hb, HM⟩)
     refine SY ?_ ?_
     ·intro b a w ha HM hb hon hoff K hK
      have e9 := PE ha 1 hon
      refine ST (eC (some 10) rfl #[.int .i64 a0_0, .int .i64 1, .int .i64 60] rfl Try.func59 (spec_l01In.calls a0_0 1 60 true _ A4.out) ?_ (hargs := by (simp only [List.map_toArray, List.map_cons, List.map_nil, evc, eval_of e9]) <;> rfl))
      rintro e w56 ⟨rfl, hd⟩
      refine ⟨_, rfl, ?_⟩
      replace HM := HM.drawn hd
      clear hd
      exact hK.out _ _ ⟨PUT ha 2 hb, (HM).pick [0]⟩
     refine SY ?_ ?_
     ·intro b a w ha HM hb hon hoff K hK
      have e10 := PE ha 2 hon
      exact VL (.bool (!true)) (hK.out _ _ ⟨PUT ha 3 hb, HM⟩)
     refine SY ?_ ?_
     ·intro b a w ha HM hb hon hoff K hK
      have e11 := PE ha 3 hon
      exact VL (.bool (!true)) (hK.out _ _ ⟨PUT ha 4 hb, HM⟩)
     refine SY ?_ ?_
     ·intro b a w ha HM hb hon hoff K hK
      have e1 := PG ha 1
      have e12 := PE ha 4 hon
      exact VL (.pointer (some ⟨gb205, 1, none⟩)) (hK.out _ _ ⟨PUT ha 5 hb, HM⟩) (hw := wanted_on rfl rfl rfl (e12.trans (by first | rfl | (simp [*]; done))))
     refine SY ?_ ?_
     ·intro b a w ha HM hb hon hoff K hK
      obtain ⟨_,_,_,_,_,_,_,_,_,_⟩ := bk5 (HM.bx 0 rfl)
      have e13 := PE ha 5 hon
      have e12 := PE ha 4 hon
      exact VL (.int .i64 a0_1) (hK.out _ _ ⟨PUT ha 6 hb, HM⟩) (hw := wanted_on rfl rfl rfl (e12.trans (by first | rfl | (simp [*]; done))))
     refine SY ?_ ?_
     ·intro b a w ha HM hb hon hoff K hK
      have e1 := PG ha 1
      have e12 := PE ha 4 hon
      exact VL (.pointer (some ⟨gb205, 0, none⟩)) (hK.out _ _ ⟨PUT ha 7 hb, HM⟩) (hw := wanted_on rfl rfl rfl (e12.trans (by first | rfl | (simp [*]; done))))
     refine SY ?_ ?_
     ·intro b a w ha HM hb hon hoff K hK
      obtain ⟨_,_,_,_,_,_,_,_,_,_⟩ := bk5 (HM.bx 0 rfl)
      have e15 := PE ha 7 hon
      have e12 := PE ha 4 hon
      exact VL (.int .i64 a0_0) (hK.out _ _ ⟨PUT ha 8 hb, HM⟩) (hw := wanted_on rfl rfl rfl (e12.trans (by first | rfl | (simp [*]; done))))
     refine SY ?_ ?_
     ·intro b a w ha HM hb hon hoff K hK
      have e14 := PE ha 6 hon
      have e16 := PE ha 8 hon
      have e12 := PE ha 4 hon
      refine ST (eC (some 17) rfl #[.int .i64 a0_1, .int .i64 1, .int .i64 a0_0] rfl Try.func59 (spec_l01In.calls a0_1 1 a0_0 false _ A6.out) ?_ (hargs := by (simp only [List.map_toArray, List.map_cons, List.map_nil, evc, eval_of e14, eval_of e16]) <;> rfl)) (hw := wanted_on rfl rfl rfl (e12.trans (by first | rfl | (simp [*]; done))))
      rintro e w59 ⟨rfl, hd⟩
      refine ⟨_, rfl, ?_⟩
      replace HM := HM.drawn hd
      clear hd
      exact hK.out _ _ ⟨PUT ha 9 hb, (HM).pick [0]⟩
     refine SY ?_ ?_
     ·intro b a w ha HM hb hon hoff K hK
      have e17 := PE ha 9 hon
      have e12 := PE ha 4 hon
      exact VL (.bool (!false)) (hK.out _ _ ⟨PUT ha 10 hb, HM⟩) (hw := wanted_on rfl rfl rfl (e12.trans (by first | rfl | (simp [*]; done))))
     refine SY ?_ ?_
     ·intro b a w ha HM hb hon hoff K hK
      have e12 := PE ha 4 hon
      have e18 := PE ha 10 hon
      exact VL (.bool (!false)) (hK.out _ _ ⟨PUT ha 11 hb, HM⟩)
     refine SY ?_ ?_
     ·intro b a w ha HM hb hon hoff K hK
      have e19 := PE ha 11 hon
      exact VL (.bool (!false)) (hK.out _ _ ⟨PUT ha 12 hb, HM⟩)
     refine SY ?_ ?_
     ·intro b a w ha HM hb hon hoff K hK
      have e20 := PE ha 12 hon
      exact VN ( wanted_off rfl rfl rfl (e20.trans (by first | rfl | (simp [*]; done)))) (hK.out _ _ ⟨PUT ha 13 hb, HM⟩)
     refine SY ?_ ?_
     ·intro b a w ha HM hb hon hoff K hK
      have e20 := PE ha 12 hon
      exact VN ( wanted_off rfl rfl rfl (e20.trans (by first | rfl | (simp [*]; done)))) (hK.out _ _ ⟨PUT ha 14 hb, HM⟩)
     refine SY ?_ ?_
     ·intro b a w ha HM hb hon hoff K hK
      have e20 := PE ha 12 hon
      exact VN ( wanted_off rfl rfl rfl (e20.trans (by first | rfl | (simp [*]; done)))) (hK.out _ _ ⟨PUT ha 15 hb, HM⟩)
     refine SY ?_ ?_
     ·intro b a w ha HM hb hon hoff K hK
      have e20 := PE ha 12 hon
      exact VN ( wanted_off rfl rfl rfl (e20.trans (by first | rfl | (simp [*]; done)))) (hK.out _ _ ⟨PUT ha 16 hb, HM⟩)
     refine SY ?_ ?_
     ·intro b a w ha HM hb hon hoff K hK
      have e20 := PE ha 12 hon
      exact VN ( wanted_off rfl rfl rfl (e20.trans (by first | rfl | (simp [*]; done)))) (hK.out _ _ ⟨PUT ha 17 hb, HM⟩)
     refine SY ?_ ?_
     ·intro b a w ha HM hb hon hoff K hK
      have e20 := PE ha 12 hon
      exact VN ( wanted_off rfl rfl rfl (e20.trans (by first | rfl | (simp [*]; done)))) (hK.out _ _ ⟨PUT ha 18 hb, HM⟩)
     refine SY ?_ ?_
     ·intro b a w ha HM hb hon hoff K hK
      have e20 := PE ha 12 hon
      exact VN ( wanted_off rfl rfl rfl (e20.trans (by first | rfl | (simp [*]; done)))) (hK.out _ _ ⟨PUT ha 19 hb, HM⟩)
     refine SY ?_ ?_
     ·intro b a w ha HM hb hon hoff K hK
      have e20 := PE ha 12 hon
      exact VN ( wanted_off rfl rfl rfl (e20.trans (by first | rfl | (simp [*]; done)))) (hK.out _ _ ⟨PUT ha 20 hb, HM⟩)
     refine SY ?_ ?_
     ·intro b a w ha HM hb hon hoff K hK
      have e20 := PE ha 12 hon
      exact VN ( wanted_off rfl rfl rfl (e20.trans (by first | rfl | (simp [*]; done)))) (hK.out _ _ ⟨PUT ha 21 hb, HM⟩)
     refine SY ?_ ?_
     ·intro b a w ha HM hb hon hoff K hK
      have e20 := PE ha 12 hon
      exact VN ( wanted_off rfl rfl rfl (e20.trans (by first | rfl | (simp [*]; done)))) (hK.out _ _ ⟨PUT ha 22 hb, HM⟩)
     refine SY ?_ ?_
     ·intro b a w ha HM hb hon hoff K hK
      have e20 := PE ha 12 hon
      have e30 := PE ha 22 hon
      exact VL (.bool true) (hK.out _ _ ⟨PUT ha 23 hb, HM⟩)
     refine SY ?_ ?_
     ·intro b a w ha HM hb hon hoff K hK
      have e31 := PE ha 23 hon
      exact VL (.bool true) (hK.out _ _ ⟨PUT ha 24 hb, HM⟩)
     refine SY ?_ ?_
     ·intro b a w ha HM hb hon hoff K hK
      have e32 := PE ha 24 hon
      exact VN ( wanted_off rfl rfl rfl (e32.trans (by first | rfl | (simp [*]; done)))) (hK.out _ _ ⟨PUT ha 25 hb, HM⟩)
     refine SY ?_ ?_
     ·intro b a w ha HM hb hon hoff K hK
      have e32 := PE ha 24 hon
      exact VN ( wanted_off rfl rfl rfl (e32.trans (by first | rfl | (simp [*]; done)))) (hK.out _ _ ⟨PUT ha 26 hb, HM⟩)
     refine SY ?_ ?_
     ·intro b a w ha HM hb hon hoff K hK
      have e32 := PE ha 24 hon
      exact VN ( wanted_off rfl rfl rfl (e32.trans (by first | rfl | (simp [*]; done)))) (hK.out _ _ ⟨PUT ha 27 hb, HM⟩)
     refine SY ?_ ?_
     ·intro b a w ha HM hb hon hoff K hK
      have e32 := PE ha 24 hon
      exact VN ( wanted_off rfl rfl rfl (e32.trans (by first | rfl | (simp [*]; done)))) (hK.out _ _ ⟨PUT ha 28 hb, HM⟩)
     refine SY ?_ ?_
     ·intro b a w ha HM hb hon hoff K hK
      have e32 := PE ha 24 hon
      exact VN ( wanted_off rfl rfl rfl (e32.trans (by first | rfl | (simp [*]; done)))) (hK.out _ _ ⟨PUT ha 29 hb, HM⟩)
     refine SY ?_ ?_
     ·intro b a w ha HM hb hon hoff K hK
      have e32 := PE ha 24 hon
      exact VN ( wanted_off rfl rfl rfl (e32.trans (by first | rfl | (simp [*]; done)))) (hK.out _ _ ⟨PUT ha 30 hb, HM⟩)
     refine SY ?_ ?_
     ·intro b a w ha HM hb hon hoff K hK
      have e32 := PE ha 24 hon
      have e38 := PE ha 30 hon
      exact VL (.bool true) (hK.out _ _ ⟨PUT ha 31 hb, HM⟩)
     exact steps_nil
    rintro _ w60 ⟨rfl, HM⟩
    simp only [putSel, if_true, Act.put, List.setIfInBounds_toArray, List.set_cons_zero, List.set_cons_succ, gt_iff_lt, ge_iff_le]
    have H' := Aside0.mk H
    clear H
    go_wp2
    go_meet
    case rel => exact ⟨_, (true), RS, H', ⟨by first | omega | exact Nat.le_refl _⟩, (MD HM).pick [0]⟩
  ·subst c5
   refine RGN 32 [0, 1, 2, 3, 4, 5, 6, 7, 8, 9, 10, 11, 12, 13, 14, 15, 16, 17, 18, 19, 20, 21, 22, 23, 24, 25, 26, 27, 28, 29, 30, 31] (fun a0 b a w' => a = putSel a0 b [(0, 8, .pointer (some ⟨gb205, 0, none⟩)), (1, 9, .int .i64 a0_0), (2, 10, .bool false), (3, 11, .bool (!false)), (4, 12, .bool (!false)), (5, 13, undef), (6, 14, undef), (7, 15, undef), (8, 16, undef), (9, 17, undef), (10, 18, undef), (11, 19, .bool true), (12, 20, .bool true), (13, 21, undef), (14, 22, undef), (15, 23, undef), (16, 24, undef), (17, 25, undef), (18, 26, undef), (19, 27, undef), (20, 28, undef), (21, 29, undef), (22, 30, undef), (23, 31, .bool true), (24, 32, .bool true), (25, 33, undef), (26, 34, undef), (27, 35, undef), (28, 36, undef), (29, 37, undef), (30, 38, undef), (31, 39, .bool true)] ∧ Mem w [] w' [box 25 gb205 [.int .i64 a0_0, .int .i64 a0_1, .slice A0_2 l0_2.length c0_2, .slice A0_3 l0_3.length c0_3, .slice A0_4 l0_4.length c0_4]]) spec_ThreeOk.tab1 spec_ThreeOk.bits1 ?_ ?_ ?_
   ·exact ⟨PS0' rfl _, (HM.drew).pick [0]⟩
   ·clear HM
    refine SY ?_ ?_
    ·intro b a w ha HM hb hon hoff K hK
     have e1 := PG ha 1
     exact VL (.pointer (some ⟨gb205, 0, none⟩)) (hK.out _ _ ⟨PUT ha 0 hb, HM⟩)
    refine SY ?_ ?_
    ·intro b a w ha HM hb hon hoff K hK
     obtain ⟨_,_,_,_,_,_,_,_,_,_⟩ := bk5 (HM.bx 0 rfl)
     have e8 := PE ha 0 hon
     exact VL (.int .i64 a0_0) (hK.out _ _ ⟨PUT ha 1 hb, HM⟩)
    refine SY ?_ ?_
    ·intro b a w ha HM hb hon hoff K hK
     have e9 := PE ha 1 hon
     refine ST (eC (some 10) rfl #[.int .i64 a0_0, .int .i64 1, .int .i64 60] rfl Try.func59 (spec_l01In.calls a0_0 1 60 false _ A4.out) ?_ (hargs := by (simp only [List.map_toArray, List.map_cons, List.map_nil, evc, eval_of e9]) <;> rfl))
     rintro e w64 ⟨rfl, hd⟩
     refine ⟨_, rfl, ?_⟩
     replace HM := HM.drawn hd
     clear hd
     exact hK.out _ _ ⟨PUT ha 2 hb, (HM).pick [0]⟩
    refine SY ?_ ?_
    ·intro b a w ha HM hb hon hoff K hK
     have e10 := PE ha 2 hon
     exact VL (.bool (!false)) (hK.out _ _ ⟨PUT ha 3 hb, HM⟩)
    refine SY ?_ ?_
    ·intro b a w ha HM hb hon hoff K hK
     have e11 := PE ha 3 hon
     exact VL (.bool (!false)) (hK.out _ _ ⟨PUT ha 4 hb, HM⟩)
    refine SY ?_ ?_
    ·intro b a w ha HM hb hon hoff K hK
     have e12 := PE ha 4 hon
     exact VN ( wanted_off rfl rfl rfl (e12.trans (by first | rfl | (simp [*]; done)))) (hK.out _ _ ⟨PUT ha 5 hb, HM⟩)
    refine SY ?_ ?_
    ·intro b a w ha HM hb hon hoff K hK
     have e12 := PE ha 4 hon
     exact VN ( wanted_off rfl rfl rfl (e12.trans (by first | rfl | (simp [*]; done)))) (hK.out _ _ ⟨PUT ha 6 hb, HM⟩)
    refine SY ?_ ?_
    ·intro b a w ha HM hb hon hoff K hK
     have e12 := PE ha 4 hon
     exact VN ( wanted_off rfl rfl rfl (e12.trans (by first | rfl | (simp [*]; done)))) (hK.out _ _ ⟨PUT ha 7 hb, HM⟩)
    refine SY ?_ ?_
    ·intro b a w ha HM hb hon hoff K hK
     have e12 := PE ha 4 hon
     exact VN ( wanted_off rfl rfl rfl (e12.trans (by first | rfl | (simp [*]; done)))) (hK.out _ _ ⟨PUT ha 8 hb, HM⟩)
    refine SY ?_ ?_
    ·intro b a w ha HM hb hon hoff K hK
     have e12 := PE ha 4 hon
     exact VN ( wanted_off rfl rfl rfl (e12.trans (by first | rfl | (simp [*]; done)))) (hK.out _ _ ⟨PUT ha 9 hb, HM⟩)
    refine SY ?_ ?_
    ·intro b a w ha HM hb hon hoff K hK
     have e12 := PE ha 4 hon
     exact VN ( wanted_off rfl rfl rfl (e12.trans (by first | rfl | (simp [*]; done)))) (hK.out _ _ ⟨PUT ha 10 hb, HM⟩)
    refine SY ?_ ?_
    ·intro b a w ha HM hb hon hoff K hK
     have e12 := PE ha 4 hon
     have e18 := PE ha 10 hon
     exact VL (.bool true) (hK.out _ _ ⟨PUT ha 11 hb, HM⟩)
    refine SY ?_ ?_
    ·intro b a w ha HM hb hon hoff K hK
     have e19 := PE ha 11 hon
     exact VL (.bool true) (hK.out _ _ ⟨PUT ha 12 hb, HM⟩)
    refine SY ?_ ?_
    ·intro b a w ha HM hb hon hoff K hK
     have e20 := PE ha 12 hon
     exact VN ( wanted_off rfl rfl rfl (e20.trans (by first | rfl | (simp [*]; done)))) (hK.out _ _ ⟨PUT ha 13 hb, HM⟩)
    refine SY ?_ ?_
    ·intro b a w ha HM hb hon hoff K hK
     have e20 := PE ha 12 hon
     exact VN ( wanted_off rfl rfl rfl (e20.trans (by first | rfl | (simp [*]; done)))) (hK.out _ _ ⟨PUT ha 14 hb, HM⟩)
    refine SY ?_ ?_
    ·intro b a w ha HM hb hon hoff K hK
     have e20 := PE ha 12 hon
     exact VN ( wanted_off rfl rfl rfl (e20.trans (by first | rfl | (simp [*]; done)))) (hK.out _ _ ⟨PUT ha 15 hb, HM⟩)
    refine SY ?_ ?_
    ·intro b a w ha HM hb hon hoff K hK
     have e20 := PE ha 12 hon
     exact VN ( wanted_off rfl rfl rfl (e20.trans (by first | rfl | (simp [*]; done)))) (hK.out _ _ ⟨PUT ha 16 hb, HM⟩)
    refine SY ?_ ?_
    ·intro b a w ha HM hb hon hoff K hK
     have e20 := PE ha 12 hon
     exact VN ( wanted_off rfl rfl rfl (e20.trans (by first | rfl | (simp [*]; done)))) (hK.out _ _ ⟨PUT ha 17 hb, HM⟩)
    refine SY ?_ ?_
    ·intro b a w ha HM hb hon hoff K hK
     have e20 := PE ha 12 hon
     exact VN ( wanted_off rfl rfl rfl (e20.trans (by first | rfl | (simp [*]; done)))) (hK.out _ _ ⟨PUT ha 18 hb, HM⟩)
    refine SY ?_ ?_
    ·intro b a w ha HM hb hon hoff K hK
     have e20 := PE ha 12 hon
     exact VN ( wanted_off rfl rfl rfl (e20.trans (by first | rfl | (simp [*]; done)))) (hK.out _ _ ⟨PUT ha 19 hb, HM⟩)
    refine SY ?_ ?_
    ·intro b a w ha HM hb hon hoff K hK
     have e20 := PE ha 12 hon
     exact VN ( wanted_off rfl rfl rfl (e20.trans (by first | rfl | (simp [*]; done)))) (hK.out _ _ ⟨PUT ha 20 hb, HM⟩)
    refine SY ?_ ?_
    ·intro b a w ha HM hb hon hoff K hK
     have e20 := PE ha 12 hon
     exact VN ( wanted_off rfl rfl rfl (e20.trans (by first | rfl | (simp [*]; done)))) (hK.out _ _ ⟨PUT ha 21 hb, HM⟩)
    refine SY ?_ ?_
    ·intro b a w ha HM hb hon hoff K hK
     have e20 := PE ha 12 hon
     exact VN ( wanted_off rfl rfl rfl (e20.trans (by first | rfl | (simp [*]; done)))) (hK.out _ _ ⟨PUT ha 22 hb, HM⟩)
    refine SY ?_ ?_
    ·intro b a w ha HM hb hon hoff K hK
     have e20 := PE ha 12 hon
     have e30 := PE ha 22 hon
     exact VL (.bool true) (hK.out _ _ ⟨PUT ha 23 hb, HM⟩)
    refine SY ?_ ?_
    ·intro b a w ha HM hb hon hoff K hK
     have e31 := PE ha 23 hon
     exact VL (.bool true) (hK.out _ _ ⟨PUT ha 24 hb, HM⟩)
    refine SY ?_ ?_
    ·intro b a w ha HM hb hon hoff K hK
     have e32 := PE ha 24 hon
     exact VN ( wanted_off rfl rfl rfl (e32.trans (by first | rfl | (simp [*]; done)))) (hK.out _ _ ⟨PUT ha 25 hb, HM⟩)
    refine SY ?_ ?_
    ·intro b a w ha HM hb hon hoff K hK
     have e32 := PE ha 24 hon
     exact VN ( wanted_off rfl rfl rfl (e32.trans (by first | rfl | (simp [*]; done)))) (hK.out _ _ ⟨PUT ha 26 hb, HM⟩)
    refine SY ?_ ?_
    ·intro b a w ha HM hb hon hoff K hK
     have e32 := PE ha 24 hon
     exact VN ( wanted_off rfl rfl rfl (e32.trans (by first | rfl | (simp [*]; done)))) (hK.out _ _ ⟨PUT ha 27 hb, HM⟩)
    refine SY ?_ ?_
    ·intro b a w ha HM hb hon hoff K hK
     have e32 := PE ha 24 hon
     exact VN ( wanted_off rfl rfl rfl (e32.trans (by first | rfl | (simp [*]; done)))) (hK.out _ _ ⟨PUT ha 28 hb, HM⟩)
    refine SY ?_ ?_
    ·intro b a w ha HM hb hon hoff K hK
     have e32 := PE ha 24 hon
     exact VN ( wanted_off rfl rfl rfl (e32.trans (by first | rfl | (simp [*]; done)))) (hK.out _ _ ⟨PUT ha 29 hb, HM⟩)
    refine SY ?_ ?_
    ·intro b a w ha HM hb hon hoff K hK
     have e32 := PE ha 24 hon
     exact VN ( wanted_off rfl rfl rfl (e32.trans (by first | rfl | (simp [*]; done)))) (hK.out _ _ ⟨PUT ha 30 hb, HM⟩)
    refine SY ?_ ?_
    ·intro b a w ha HM hb hon hoff K hK
     have e32 := PE ha 24 hon
     have e38 := PE ha 30 hon
     exact VL (.bool true) (hK.out _ _ ⟨PUT ha 31 hb, HM⟩)
    exact steps_nil
   rintro _ w65 ⟨rfl, HM⟩
   simp only [putSel, if_true, Act.put, List.setIfInBounds_toArray, List.set_cons_zero, List.set_cons_succ, gt_iff_lt, ge_iff_le]
   have H' := Aside0.mk H
   clear H
   go_wp2
   go_meet
   case rel => exact ⟨_, (true), RS, H', ⟨by first | omega | exact Nat.le_refl _⟩, (MD HM).pick [0]⟩
 case rest =>
  clear HC3 HM
  obtain ⟨kq, x39_2, rfl, HA, HJ2, HM⟩ := hcut
  cases kq with
  | zero => exact absurd HA.out (by simp [spec_ThreeOk.j0])
  | succ kj2 =>
   have H := HA.out
   clear HA
   simp only [spec_ThreeOk.j0] at H
   go_upto_if 39 with (fail)
   replace H := IB H
   rcases H with ⟨c66, H⟩ | ⟨c66, H⟩
   ·subst c66
    obtain rfl := Option.some.inj H
    go_wp2
    go_ret
    exact ⟨ER, (MD HM).pick []⟩
   ·subst c66
    try go_wp2
    replace H := BLt H; obtain ⟨y209, Ny209, H⟩ := H
    replace Ny209 := Aside0.mk Ny209
    replace H := GD H; obtain ⟨c67, H⟩ := H
    have LMc67 := Aside0.mk c67
    clear c67
    replace H := BLt H; obtain ⟨y212, Ny212, H⟩ := H
    replace Ny212 := Aside0.mk Ny212
    replace H := GD H; obtain ⟨c68, H⟩ := H
    have LMc68 := Aside0.mk c68
    clear c68
    replace H := BLt H; obtain ⟨y215, Ny215, H⟩ := H
    replace Ny215 := Aside0.mk Ny215
    refine RGN 8 [0, 1, 2, 3, 4, 5, 6, 7] (fun a0 b a w' => ∃ (v210 : Value) (v213 : Value) (v216 : Value), a = putSel a0 b [(0, 40, v210), (1, 41, .pointer (some ⟨gb205, 2, none⟩)), (2, 42, .slice A0_2 l0_2.length c0_2), (3, 43, v213), (4, 44, .pointer (some ⟨gb205, 3, none⟩)), (5, 45, .slice A0_3 l0_3.length c0_3), (6, 46, v216), (7, 3, v216)] ∧ Mem w [] w' [box 25 gb205 [.int .i64 a0_0, .int .i64 a0_1, .slice A0_2 l0_2.length c0_2, .slice A0_3 l0_3.length c0_3, .slice A0_4 l0_4.length c0_4], sel (b 6) (rowR k76 76 v216 y215) (sel (b 3) (rowR k76 76 v213 y212) (sel (b 0) (rowR k76 76 v210 y209) (emp)))]) spec_ThreeOk.tab3 spec_ThreeOk.bits3 ?_ ?_ ?_
    ·exact ⟨.bool false, .bool false, .bool false, PS0' rfl _, (HM.drew.ems 1).pick [0, 1]⟩
    ·clear HM
     refine SZ ?_ ?_
     ·rintro b a w ⟨v210, v213, v216, ha, HM⟩ hb hon hoff K hK
      replace ha := Aside0.mk ha
      refine ST (eL 40 k76 76 ([] : List (S76)) [] (Reps.none _ _) HM rfl ?_)
      clear HM
      intro v210 w74 HM
      replace HM := HM.nm 2 rfl Ny209.out
      exact hK.out _ _ ⟨v210, v213, v216, PUT ha 0 hb, ((HM.iF 2 rfl (hoff 3 rfl)).iF 2 rfl (hoff 6 rfl)).pick [0, 2]⟩
     refine SZ ?_ ?_
     ·rintro b a w ⟨v210, v213, v216, ha, HM⟩ hb hon hoff K hK
      replace ha := Aside0.mk ha
      have e1 := PG ha 1
      exact VL (.pointer (some ⟨gb205, 2, none⟩)) (hK.out _ _ ⟨v210, v213, v216, PUT ha 1 hb, HM⟩)
     refine SZ ?_ ?_
     ·rintro b a w ⟨v210, v213, v216, ha, HM⟩ hb hon hoff K hK
      replace ha := Aside0.mk ha
      obtain ⟨_,_,_,_,_,_,_,_,_,_⟩ := bk5 (HM.bx 0 rfl)
      have e41 := PE ha 1 hon
      exact VL (.slice A0_2 l0_2.length c0_2) (hK.out _ _ ⟨v210, v213, v216, PUT ha 2 hb, HM⟩)
     refine SZ ?_ ?_
     ·rintro b a w ⟨v210, v213, v216, ha, HM⟩ hb hon hoff K hK
      replace ha := Aside0.mk ha
      replace HM := ((HM.sF 1 rfl (hoff 6 rfl)).sF 1 rfl hb).sT 1 rfl (hon 0 rfl)
      have e40 := PE ha 0 hon
      have e42 := PE ha 2 hon
      refine ST (eA 1 (.tmp 40) (.tmp 42) 22 76 k76 v210 y209 l0_2 A0_2 l0_2.length c0_2 HM rfl Try.underlying22 info76 rfl (HM.came HR0_2.out) (by have h_ := LMc67.out; omega) ?_ (ops := #[]) (hw := by rfl) (hs := (eval_of e40)) (hx := (eval_of e42)))
      clear HM
      intro v213 w76 HM
      replace HM := HM.nm 1 rfl Ny212.out
      exact hK.out _ _ ⟨v210, v213, v216, PUT ha 3 hb, (HM.iF 1 rfl (hoff 6 rfl)).pick [0, 1]⟩
     refine SZ ?_ ?_
     ·rintro b a w ⟨v210, v213, v216, ha, HM⟩ hb hon hoff K hK
      replace ha := Aside0.mk ha
      have e1 := PG ha 1
      exact VL (.pointer (some ⟨gb205, 3, none⟩)) (hK.out _ _ ⟨v210, v213, v216, PUT ha 4 hb, HM⟩)
     refine SZ ?_ ?_
     ·rintro b a w ⟨v210, v213, v216, ha, HM⟩ hb hon hoff K hK
      replace ha := Aside0.mk ha
      obtain ⟨_,_,_,_,_,_,_,_,_,_⟩ := bk5 (HM.bx 0 rfl)
      have e44 := PE ha 4 hon
      exact VL (.slice A0_3 l0_3.length c0_3) (hK.out _ _ ⟨v210, v213, v216, PUT ha 5 hb, HM⟩)
     refine SZ ?_ ?_
     ·rintro b a w ⟨v210, v213, v216, ha, HM⟩ hb hon hoff K hK
      replace ha := Aside0.mk ha
      replace HM := (HM.sF 1 rfl hb).sT 1 rfl (hon 3 rfl)
      have e43 := PE ha 3 hon
      have e45 := PE ha 5 hon
      refine ST (eA 1 (.tmp 43) (.tmp 45) 22 76 k76 v213 y212 l0_3 A0_3 l0_3.length c0_3 HM rfl Try.underlying22 info76 rfl (HM.came HR0_3.out) (by have h_ := LMc68.out; omega) ?_ (ops := #[]) (hw := by rfl) (hs := (eval_of e43)) (hx := (eval_of e45)))
      clear HM
      intro v216 w78 HM
      replace HM := HM.nm 1 rfl Ny215.out
      exact hK.out _ _ ⟨v210, v213, v216, PUT (PCH ha 7 (hoff 7 rfl)) 6 hb, (HM).pick [0, 1]⟩
     refine SZ ?_ ?_
     ·rintro b a w ⟨v210, v213, v216, ha, HM⟩ hb hon hoff K hK
      replace ha := Aside0.mk ha
      have e46 := PE ha 6 hon
      exact VL (v216) (hK.out _ _ ⟨v210, v213, v216, PUT ha 7 hb, HM⟩)
     exact steps_nil
    rintro _ w79 ⟨v210, v213, v216, rfl, HM⟩
    replace HM := HM.sT 1 rfl rfl
    simp only [putSel, if_true, Act.put, List.setIfInBounds_toArray, List.set_cons_zero, List.set_cons_succ, gt_iff_lt, ge_iff_le]
    have H' := Aside0.mk H
    clear H
    obtain ⟨Xo80, ko80, rfl⟩ := HM.rdR 1 rfl
    go_wp2
    go_loopg [49] kj2 (fun kq v49 w' => ∃ (x49_2 : Int), v49 = .int .i64 x49_2 ∧ Aside0 (spec_ThreeOk.l0 kq y215 y215 (y215.length : Int) x49_2 a0_0 a0_1 l0_2 l0_3 l0_4 = some r) ∧ Aside0 (kq ≤ kj2) ∧ Mem w [] w' [rowR k76 76 (.slice Xo80 y215.length ko80) y215, box 25 gb205 [.int .i64 a0_0, .int .i64 a0_1, .slice A0_2 l0_2.length c0_2, .slice A0_3 l0_3.length c0_3, .slice A0_4 l0_4.length c0_4]])
    case atStart => exact ⟨(0), RS, H', ⟨Nat.le_refl _⟩, (MD HM).pick [1, 0]⟩
    case round =>
     clear H' HM
     obtain ⟨x49_2, rfl, HA, HK2, HM⟩ := hrel
     cases gk with
     | zero => exact absurd HA.out (by simp [spec_ThreeOk.l0])
     | succ k2 =>
      have H := HA.out
      clear HA
      simp only [spec_ThreeOk.l0] at H
      go_upto_if 50 with (fail)
      replace H := IT H; rcases H with ⟨c81, H⟩ | ⟨c81, H⟩
      ·have c81b0 := decide_eq_true c81
       clear c81
       first|rw [c81b0]|(simp only [i64_w, i32_w]; rw [c81b0])|skip
       replace H := GD H; obtain ⟨c82, H⟩ := H
       have c82b0 := decide_eq_true c82
       clear c82
       replace H := GD H; obtain ⟨c83, H⟩ := H
       have c83b0 := decide_eq_true c83
       clear c83
       replace H := BN H; obtain ⟨t220, A87, H⟩ := H
       replace H := IB H
       rcases H with ⟨c89, H⟩ | ⟨c89, H⟩
       ·subst c89
        replace H := BN H; obtain ⟨t221, A91, H⟩ := H
        have p218 : 0 ≤ (x49_2 : Int) := of_decide_eq_true AS
        have q218 : (x49_2 : Int) < (y215.length : Int) := of_decide_eq_true AS
        obtain ⟨ad218, e218, hx218_0, hx218_1, hx218_2⟩ := at_T76 (HM.CR 0 rfl).2.2 x49_2 p218 q218
        cases e218
        replace p218 := eq_true p218
        replace q218 := eq_true q218
        go_upto_if 64 with (first | ((with_reducible refine gN 5 rfl ?_); refine pB 5 76 [.string (⟨#[]⟩ : ByteArray), .string (⟨#[]⟩ : ByteArray), .int .i64 0] HM rfl ?_; clear HM; intro gb219 w84 HM) | ((with_reducible refine gS 5 rfl ?_); refine pS 2 5 0 [.string ((rd_T76 y215 x49_2).f0), .string ((rd_T76 y215 x49_2).f1), .int .i64 ((rd_T76 y215 x49_2).f2)] HM rfl rfl ?_; clear HM; intro w85 HM; obtain ⟨_,_,_,_,_,_⟩ := bk3 (HM.bx 2 rfl)) | ((with_reducible refine gC 61 rfl ?_); refine pC (some 55) rfl #[.agg #[.string ((rd_T76 y215 x49_2).f0), .string ((rd_T76 y215 x49_2).f1), .int .i64 ((rd_T76 y215 x49_2).f2)]] rfl Try.func61 (spec_ItemOk.calls k2 ((rd_T76 y215 x49_2).f0) ((rd_T76 y215 x49_2).f1) ((rd_T76 y215 x49_2).f2) true _ A87.out) ?_; rintro e w88 ⟨rfl, hR⟩; refine ⟨_, rfl, ?_⟩; replace HM := HM.call hR; clear hR; obtain ⟨_,_,_,_,_,_⟩ := bk3 (HM.bx 2 rfl)) | ((with_reducible refine gC 62 rfl ?_); refine pC (some 61) rfl #[.slice (some ad218) y215.length ko80, .string ((rd_T76 y215 x49_2).f0)] rfl Try.func62 (spec_l10At.calls k2 _ _ y215 ((rd_T76 y215 x49_2).f0) t221 _ (HM.CR 0 rfl).2.2 (HM.CR 0 rfl).2.1 A91.out) ?_; rintro e w92 ⟨rfl, hR⟩; refine ⟨_, rfl, ?_⟩; replace HM := HM.call hR; clear hR))
        replace HM := nzM HM
        replace H := IT H; rcases H with ⟨c93, H⟩ | ⟨c93, H⟩
        ·obtain ⟨c93b0, c93b1⟩ := BE c93
         clear c93
         first|rw [c93b0]|(simp only [i64_w, i32_w]; rw [c93b0])|skip
         have H' := Aside0.mk H
         clear H
         go_wp2
         go_roundg k2
         case measure => have := HJ2.out; have := HK2.out; omega
         case rel => exact ⟨(wrap64 (x49_2 + 1)), RS, H', ⟨by have := HJ2.out; have := HK2.out; omega⟩, (MD HM).pick [0, 1]⟩
        ·obtain ⟨c93b0, c93b1⟩ := BF c93
         first|rw [c93b0]|(simp only [i64_w, i32_w]; rw [c93b0])|skip
         obtain rfl := Option.some.inj H
         go_wp2
         go_ret
         exact ⟨ER, (MD HM).pick []⟩
       ·subst c89
        obtain rfl := Option.some.inj H
        have p218 : 0 ≤ (x49_2 : Int) := of_decide_eq_true AS
        have q218 : (x49_2 : Int) < (y215.length : Int) := of_decide_eq_true AS
        obtain ⟨ad218, e218, hx218_0, hx218_1, hx218_2⟩ := at_T76 (HM.CR 0 rfl).2.2 x49_2 p218 q218
        cases e218
        replace p218 := eq_true p218
        replace q218 := eq_true q218
        go_wp2_with (first | ((with_reducible refine gN 5 rfl ?_); refine pB 5 76 [.string (⟨#[]⟩ : ByteArray), .string (⟨#[]⟩ : ByteArray), .int .i64 0] HM rfl ?_; clear HM; intro gb219 w84 HM) | ((with_reducible refine gS 5 rfl ?_); refine pS 2 5 0 [.string ((rd_T76 y215 x49_2).f0), .string ((rd_T76 y215 x49_2).f1), .int .i64 ((rd_T76 y215 x49_2).f2)] HM rfl rfl ?_; clear HM; intro w85 HM; obtain ⟨_,_,_,_,_,_⟩ := bk3 (HM.bx 2 rfl)) | ((with_reducible refine gC 61 rfl ?_); refine pC (some 55) rfl #[.agg #[.string ((rd_T76 y215 x49_2).f0), .string ((rd_T76 y215 x49_2).f1), .int .i64 ((rd_T76 y215 x49_2).f2)]] rfl Try.func61 (spec_ItemOk.calls k2 ((rd_T76 y215 x49_2).f0) ((rd_T76 y215 x49_2).f1) ((rd_T76 y215 x49_2).f2) false _ A87.out) ?_; rintro e w88 ⟨rfl, hR⟩; refine ⟨_, rfl, ?_⟩; replace HM := HM.call hR; clear hR))
        go_ret
        exact ⟨ER, (MD HM).pick []⟩
      ·have c81b0 := decide_eq_false c81
       clear c81
       first|rw [c81b0]|(simp only [i64_w, i32_w]; rw [c81b0])|skip
       have H' := Aside0.mk H
       clear H
       obtain ⟨_,_,_,_,_,_,_,_,_,_⟩ := bk5 (HM.bx 1 rfl)
       go_wp2
       go_loopg [69] k2 (fun kq v69 w' => ∃ (x69_3 : Int), v69 = .int .i64 x69_3 ∧ Aside0 (spec_ThreeOk.l1 kq l0_4 (l0_4.length : Int) x69_3 a0_0 a0_1 l0_2 l0_3 l0_4 = some r) ∧ Aside0 (kq ≤ k2) ∧ Mem w [] w' [box 25 gb205 [.int .i64 a0_0, .int .i64 a0_1, .slice A0_2 l0_2.length c0_2, .slice A0_3 l0_3.length c0_3, .slice A0_4 l0_4.length c0_4]])
       case atStart => exact ⟨(0), RS, H', ⟨Nat.le_refl _⟩, (MD HM).pick [1]⟩
       case round =>
        clear H' HM
        obtain ⟨x69_3, rfl, HA, HK3, HM⟩ := hrel
        cases gk with
        | zero => exact absurd HA.out (by simp [spec_ThreeOk.l1])
        | succ k3 =>
         have H := HA.out
         clear HA
         simp only [spec_ThreeOk.l1] at H
         go_upto_if 70 with (fail)
         replace H := IT H; rcases H with ⟨c95, H⟩ | ⟨c95, H⟩
         ·have c95b0 := decide_eq_true c95
          clear c95
          first|rw [c95b0]|(simp only [i64_w, i32_w]; rw [c95b0])|skip
          replace H := GD H; obtain ⟨c96, H⟩ := H
          have c96b0 := decide_eq_true c96
          clear c96
          replace H := GD H; obtain ⟨c97, H⟩ := H
          have c97b0 := decide_eq_true c97
          clear c97
          replace H := BN H; obtain ⟨t223, A98, H⟩ := H
          replace H := IB H
          rcases H with ⟨c100, H⟩ | ⟨c100, H⟩
          ·subst c100
           have c102b0 := eq_true (of_decide_eq_true AS : 0 ≤ x69_3)
           replace H := GD H; obtain ⟨c103, H⟩ := H
           have c103b0 := eq_true c103
           have c103b1 : decide (x69_3 ≤ (l0_4.length : Int)) = true := decide_eq_true c103
           clear c103
           replace H := BN H; obtain ⟨t225, A105, H⟩ := H
           have p222 : 0 ≤ (x69_3 : Int) := of_decide_eq_true AS
           have q222 : (x69_3 : Int) < (l0_4.length : Int) := of_decide_eq_true AS
           obtain ⟨ad222, e222, hx222_0⟩ := Kd.at_int (HM.came HR0_4.out) x69_3 p222 q222
           cases e222
           replace p222 := eq_true p222
           replace q222 := eq_true q222
           go_upto_if 84 with (first | ((with_reducible refine gC 63 rfl ?_); refine pC (some 75) rfl #[.int .i64 (rd l0_4 x69_3)] rfl Try.func63 (spec_l01Num.calls (rd l0_4 x69_3) true _ A98.out) ?_; rintro e w99 ⟨rfl, hd⟩; refine ⟨_, rfl, ?_⟩; replace HM := HM.drawn hd; clear hd; obtain ⟨_,_,_,_,_,_,_,_,_,_⟩ := bk5 (HM.bx 0 rfl)) | ((with_reducible refine gate_sl (t := 23) rfl ?_); refine pRtf 23 3 (Kd.int .i64) _ _ x69_3 l0_4 (some ad222) c0_4 rfl Try.underlying23 info3 HC0_4.out (of_decide_eq_true AS) (of_decide_eq_true AS) ?_; intro Yx104 bx104 hYx104 hbx104; have HYx104 := Aside0.mk hYx104; have HBx104 := Aside0.mk hbx104; clear hYx104 hbx104; have hlx104 : (l0_4.take (x69_3 : Int).toNat).length = (x69_3 : Int).toNat := by rw [List.length_take]; have h_ : (x69_3 : Int) ≤ ((l0_4.length : Int) : Int) := of_decide_eq_true AS; omega) | ((with_reducible refine gC 64 rfl ?_); refine pC (some 83) rfl #[.slice Yx104 (l0_4.take (x69_3 : Int).toNat).length bx104, .int .i64 (rd l0_4 x69_3)] rfl Try.func64 (spec_l03Has.calls k3 _ _ (l0_4.take (x69_3 : Int).toNat) (rd l0_4 x69_3) t225 _ (HYx104.out _ (HM.came HR0_4.out)) HBx104.out A105.out) ?_ (hargs := by (try simp only [List.map_toArray, List.map_cons, List.map_nil]); first | done | rfl | (rw [hlx104]; rfl) | (simp only [List.length_take]; rfl)); rintro e w106 ⟨rfl, hd⟩; refine ⟨_, rfl, ?_⟩; replace HM := HM.drawn hd; clear hd))
           replace H := IB H
           rcases H with ⟨c107, H⟩ | ⟨c107, H⟩
           ·subst c107
            obtain rfl := Option.some.inj H
            go_wp2
            go_ret
            exact ⟨ER, (MD HM).pick []⟩
           ·subst c107
            have H' := Aside0.mk H
            clear H
            go_wp2
            go_roundg k3
            case measure => have := HJ2.out; have := HK2.out; have := HK3.out; omega
            case rel => exact ⟨(wrap64 (x69_3 + 1)), RS, H', ⟨by have := HJ2.out; have := HK2.out; have := HK3.out; omega⟩, (MD HM).pick [0]⟩
          ·subst c100
           obtain rfl := Option.some.inj H
           have p222 : 0 ≤ (x69_3 : Int) := of_decide_eq_true AS
           have q222 : (x69_3 : Int) < (l0_4.length : Int) := of_decide_eq_true AS
           obtain ⟨ad222, e222, hx222_0⟩ := Kd.at_int (HM.came HR0_4.out) x69_3 p222 q222
           cases e222
           replace p222 := eq_true p222
           replace q222 := eq_true q222
           go_wp2_with (first | ((with_reducible refine gC 63 rfl ?_); refine pC (some 75) rfl #[.int .i64 (rd l0_4 x69_3)] rfl Try.func63 (spec_l01Num.calls (rd l0_4 x69_3) false _ A98.out) ?_; rintro e w99 ⟨rfl, hd⟩; refine ⟨_, rfl, ?_⟩; replace HM := HM.drawn hd; clear hd))
           go_ret
           exact ⟨ER, (MD HM).pick []⟩
         ·have c95b0 := decide_eq_false c95
          clear c95
          first|rw [c95b0]|(simp only [i64_w, i32_w]; rw [c95b0])|skip
          obtain rfl := Option.some.inj H
          go_wp2
          go_ret
          exact ⟨ER, (MD HM).pick []⟩
def spec_TextThree.f (k : Nat) (a0 : ByteArray) : Option (Int × Int × (List (S76)) × (List (S76)) × List Int × Int) := if (a0.size : Int) > 8000 then (some (0, 0, ([] : List (S76)), ([] : List (S76)), ([] : List Int), 1)) else ((spec_Lines.f k a0).bind fun t227 => (if (t227.length : Int) = 4 then (if 0 < (t227.length : Int) then ((spec_Cut.f k (rdOf ByteArray.empty t227 0)).bind fun t231 => ((spec_l20Numbers.f k t231).bind fun t234 => ((some (([0, 0] : List Int) : List Int)).bind fun y237 => (if t234.length + y237.length < 17592186044416 then ((some (t234 ++ y237 : List Int)).bind fun y240 => (if 0 < (y240.length : Int) then (if 1 < (y240.length : Int) then (if 1 < (t227.length : Int) then ((spec_Cut.f k (rdOf ByteArray.empty t227 1)).bind fun t246 => ((spec_l20Read.f k t246).bind fun t249 => (if 2 < (t227.length : Int) then ((spec_Cut.f k (rdOf ByteArray.empty t227 2)).bind fun t253 => ((spec_l20Read.f k t253).bind fun t256 => (if 3 < (t227.length : Int) then ((spec_Cut.f k (rdOf ByteArray.empty t227 3)).bind fun t260 => ((spec_l20Numbers.f k t260).bind fun t263 => ((spec_l20Text.f k (rd y240 0) (rd y240 1) t249 t256 t263).bind fun t267 => (if t267.toList = a0.toList then ((spec_ThreeOk.f k (rd y240 0) (rd y240 1) t249 t256 t263).bind fun t268 => (if t268 = true then (some (rd y240 0, rd y240 1, t249, t256, t263, 0)) else (some (0, 0, ([] : List (S76)), ([] : List (S76)), ([] : List Int), 3)))) else (some (0, 0, ([] : List (S76)), ([] : List (S76)), ([] : List Int), 2)))))) else (none)))) else (none)))) else (none)) else (none)) else (none))) else (none))))) else (none)) else (some (0, 0, ([] : List (S76)), ([] : List (S76)), ([] : List Int), 2))))
def spec_TextThree.T7 : Bool × List (List Nat × List Nat) := (true, [([], []), ([0], [0]), ([1], [1]), ([], []), ([3], [3]), ([4], [4]), ([], []), ([6], [6]), ([7], [7]), ([8], [8]), ([9, 9], [9]), ([], []), ([11], [11]), ([12], [12]), ([13, 10], [13]), ([14, 14], [14]), ([], []), ([16], [16]), ([17], [17]), ([18, 15], [18]), ([19, 19], [19]), ([2, 5, 10, 15, 20], [2, 5, 10, 15, 20]), ([], []), ([22, 21, 20, 0, 1, 2, 3, 4, 5, 6, 7, 8, 9, 10, 11, 12, 13, 14, 15, 16, 17, 18, 19, 20, 21, 22], [21, 22])])
def spec_TextThree.B7 : List Nat := [0, 1, 3, 0, 8, 24, 0, 64, 192, 448, 960, 0, 2048, 6144, 16320, 32704, 0, 65536, 196608, 524224, 1048512, 2097151, 0, 8388607]
theorem spec_TextThree.tab7 : rtab .any (opsOf Try.f6 7) = spec_TextThree.T7 := by kernel_rfl
theorem spec_TextThree.bits7 : waitsOk spec_TextThree.T7.2 spec_TextThree.B7 = true := by kernel_rfl
set_option maxHeartbeats 8000000 in
set_option maxRecDepth 100000 in
theorem spec_TextThree.calls (k : Nat) (a0 : ByteArray) (r1 : Int) (r2 : Int) (r3 : List (S76)) (r4 : List (S76)) (r5 : List Int) (r6 : Int) (w : World)  (h : spec_TextThree.f k a0 = some (r1, r2, r3, r4, r5, r6)) :
  Calls Try.prog 6 #[.string a0] w fun e w' => ∃ v2_ v3_ v4_ : Value, e = .returned (.tuple #[.agg #[.int .i64 r1, .int .i64 r2, v2_, v3_, v4_], .int .i64 r6]) ∧ Mem w [] w' [rowR k76 76 v2_ r3, rowR k76 76 v3_ r4, rowR (Kd.int .i64) 3 v4_ r5] := by
 have hu25 := Try.underlying25
 have HM := Mem.nil w
 have H := h
 clear h
 unfold spec_TextThree.f at H
 go_enter Try.func6, Try.ntmps6
 go_upto_if 9 with (first | ((with_reducible refine gN 2 rfl ?_); refine pB 2 25 [.int .i64 0, .int .i64 0, .slice none 0 0, .slice none 0 0, .slice none 0 0] HM rfl ?_; clear HM; intro gb226 w2 HM))
 replace H := IT H; rcases H with ⟨c3, H⟩ | ⟨c3, H⟩
 ·replace c3 : (a0.size : Int) > 8000 := c3
  have c3b0 : decide (8000 < (a0.size : Int)) = true := decide_eq_true c3
  have c3b1 : decide (8000 < a0.size) = true := decide_eq_true (by omega)
  clear c3
  first|rw [c3b0]|(simp only [i64_w, i32_w]; rw [c3b0])|skip
  simp only [Option.some.injEq, Prod.mk.injEq] at H
  obtain ⟨rfl, rfl, rfl, rfl, rfl, rfl⟩ := H
  go_wp2_with (first | ((with_reducible refine gS 2 rfl ?_); refine pS 0 2 0 [.int .i64 0, .int .i64 0, .slice none 0 0, .slice none 0 0, .slice none 0 0] HM rfl rfl ?_; clear HM; intro w4 HM; replace HM := HM.nl k76 76; replace HM := HM.nl k76 76; replace HM := HM.nl (Kd.int .i64) 3))
  refine bodyPost_ret (results_ct rfl _ _ gb226 25 #[.int .i64 0, .int .i64 0, .slice none 0 0, .slice none 0 0, .slice none 0 0] (0, 0) _ rfl (HM.bx 0 rfl) Try.underlying25 rfl (by kernel_rfl)) rfl ?_
  exact ⟨_, _, _, ER, (MD HM).pick [1, 2, 3]⟩
 ·replace c3 : ¬ ((a0.size : Int) > 8000) := c3
  have c3b0 : decide (8000 < (a0.size : Int)) = false := decide_eq_false c3
  have c3b1 : decide (8000 < a0.size) = false := decide_eq_false (by omega)
  clear c3
  first|rw [c3b0]|(simp only [i64_w, i32_w]; rw [c3b0])|skip
  replace H := BN H; obtain ⟨t227, A5, H⟩ := H
  go_upto_if 15 with (first | ((with_reducible refine gC 20 rfl ?_); refine pC (some 12) rfl #[.string a0] rfl Try.func20 (spec_Lines.calls k a0 t227 _ A5.out) ?_; rintro e w6 ⟨v228, rfl, hR⟩; refine ⟨_, rfl, ?_⟩; replace HM := HM.call hR; clear hR; obtain ⟨Xo7, ko7, rfl⟩ := HM.rdR 1 rfl))
  replace H := IT H; rcases H with ⟨c8, H⟩ | ⟨c8, H⟩
  ·obtain ⟨c8b0, c8b1⟩ := BE c8
   clear c8
   first|rw [c8b0]|(simp only [i64_w, i32_w]; rw [c8b0])|skip
   replace H := GD H; obtain ⟨c9, H⟩ := H
   replace c9 : 0 < (t227.length : Int) := c9
   have c9b0 := decide_eq_true c9
   have c9b1 : decide (0 < t227.length) = true := decide_eq_true (by omega)
   have c9b9 : decide (0 < t227.length) = true := decide_eq_true (by omega)
   clear c9
   replace H := BN H; obtain ⟨t231, A10, H⟩ := H
   replace H := BN H; obtain ⟨t234, A12, H⟩ := H
   replace H := BLt H; obtain ⟨y237, Ny237, H⟩ := H
   replace Ny237 := Aside0.mk Ny237
   replace H := GD H; obtain ⟨c16, H⟩ := H
   have LMc16 := Aside0.mk c16
   clear c16
   replace H := BLt H; obtain ⟨y240, Ny240, H⟩ := H
   replace Ny240 := Aside0.mk Ny240
   have p230 : 0 ≤ (0 : Int) := (by omega)
   have q230 : (0 : Int) < (t227.length : Int) := of_decide_eq_true AS
   obtain ⟨ad230, e230, hx230_0⟩ := Kd.at_string (HM.CR 1 rfl).2.2 0 p230 q230
   cases e230
   have qi230 : (0 < t227.length) = True := eq_true (by omega)
   (try rw [show ((0 : Int)).toNat = 0 from rfl] at hx230_0)
   (try rw [Addr.add_zero'] at hx230_0)
   replace p230 := eq_true p230
   replace q230 := eq_true q230
   try go_wp2_with (first | ((with_reducible refine gC 22 rfl ?_); refine pC (some 20) rfl #[.string (rdOf ByteArray.empty t227 0)] rfl Try.func22 (spec_Cut.calls k (rdOf ByteArray.empty t227 0) t231 _ A10.out) ?_; rintro e w11 ⟨v232, rfl, hR⟩; refine ⟨_, rfl, ?_⟩; replace HM := HM.call hR; clear hR; obtain ⟨Xo14, ko14, rfl⟩ := HM.rdR 2 rfl) | ((with_reducible refine gC 21 rfl ?_); refine pC (some 21) rfl #[.slice Xo14 t231.length ko14] rfl Try.func21 (spec_l20Numbers.calls k _ _ t231 t234 _ (HM.CR 2 rfl).2.2 (HM.CR 2 rfl).2.1 A12.out) ?_; rintro e w13 ⟨v235, rfl, hR⟩; refine ⟨_, rfl, ?_⟩; replace HM := HM.call hR; clear hR) | ((with_reducible refine gN 22 rfl ?_); refine pL 22 (Kd.int .i64) 3 ([0, 0] : List Int) [.int .i64 0, .int .i64 0] (Reps.one (show Kd.M (Kd.int .i64) _ _ _ 0 [.int .i64 0] from rfl) (Reps.one (show Kd.M (Kd.int .i64) _ _ _ 0 [.int .i64 0] from rfl) (Reps.none _ _))) HM rfl ?_; clear HM; intro v238 w15 HM; replace HM := HM.nm 4 rfl Ny237.out; obtain ⟨Xo17, ko17, rfl⟩ := HM.rdR 4 rfl) | ((with_reducible refine gate_builtin (b := .append) (xs := #[.tmp 21, .tmp 22]) rfl ?_); refine pA 3 (.tmp 21) (.tmp 22) 23 3 (Kd.int .i64) v235 t234 y237 Xo17 y237.length ko17 HM rfl Try.underlying23 info3 rfl (HM.CR 4 rfl).2.2 (by have h_ := LMc16.out; omega) ?_; clear HM; intro v241 w18 HM; replace HM := HM.nm 3 rfl Ny240.out))
   replace H := GD H; obtain ⟨c19, H⟩ := H
   replace c19 : 0 < (y240.length : Int) := c19
   have c19b0 := decide_eq_true c19
   have c19b1 : decide (0 < y240.length) = true := decide_eq_true (by omega)
   have c19b9 : decide (0 < y240.length) = true := decide_eq_true (by omega)
   clear c19
   replace H := GD H; obtain ⟨c20, H⟩ := H
   replace c20 : 1 < (y240.length : Int) := c20
   have c20b0 := decide_eq_true c20
   have c20b1 : decide (1 < y240.length) = true := decide_eq_true (by omega)
   have c20b9 : decide (1 < y240.length) = true := decide_eq_true (by omega)
   clear c20
   replace H := GD H; obtain ⟨c21, H⟩ := H
   replace c21 : 1 < (t227.length : Int) := c21
   have c21b0 := decide_eq_true c21
   have c21b1 : decide (1 < t227.length) = true := decide_eq_true (by omega)
   have c21b9 : decide (1 < t227.length) = true := decide_eq_true (by omega)
   clear c21
   replace H := BN H; obtain ⟨t246, A22, H⟩ := H
   replace H := BN H; obtain ⟨t249, A23, H⟩ := H
   replace H := GD H; obtain ⟨c24, H⟩ := H
   replace c24 : 2 < (t227.length : Int) := c24
   have c24b0 := decide_eq_true c24
   have c24b1 : decide (2 < t227.length) = true := decide_eq_true (by omega)
   have c24b9 : decide (2 < t227.length) = true := decide_eq_true (by omega)
   clear c24
   replace H := BN H; obtain ⟨t253, A25, H⟩ := H
   replace H := BN H; obtain ⟨t256, A26, H⟩ := H
   replace H := GD H; obtain ⟨c27, H⟩ := H
   replace c27 : 3 < (t227.length : Int) := c27
   have c27b0 := decide_eq_true c27
   have c27b1 : decide (3 < t227.length) = true := decide_eq_true (by omega)
   have c27b9 : decide (3 < t227.length) = true := decide_eq_true (by omega)
   clear c27
   replace H := BN H; obtain ⟨t260, A28, H⟩ := H
   replace H := BN H; obtain ⟨t263, A29, H⟩ := H
   obtain ⟨Xo51, ko51, rfl⟩ := HM.rdR 3 rfl
   have p243 : 0 ≤ (0 : Int) := (by omega)
   have q243 : (0 : Int) < (y240.length : Int) := of_decide_eq_true AS
   obtain ⟨ad243, e243, hx243_0⟩ := Kd.at_int (HM.CR 3 rfl).2.2 0 p243 q243
   cases e243
   have qi243 : (0 < y240.length) = True := eq_true (by omega)
   (try rw [show ((0 : Int)).toNat = 0 from rfl] at hx243_0)
   (try rw [Addr.add_zero'] at hx243_0)
   replace p243 := eq_true p243
   replace q243 := eq_true q243
   have p244 : 0 ≤ (1 : Int) := (by omega)
   have q244 : (1 : Int) < (y240.length : Int) := of_decide_eq_true AS
   obtain ⟨ad244, e244, hx244_0⟩ := Kd.at_int (HM.CR 3 rfl).2.2 1 p244 q244
   obtain rfl := Option.some.inj e244
   have qi244 : (1 < y240.length) = True := eq_true (by omega)
   (try rw [show ((1 : Int)).toNat = 1 from rfl] at hx244_0)
   (try simp only [Nat.reduceMul, Nat.reduceEqDiff, Go.Addr.add, ↓reduceIte] at hx244_0)
   replace p244 := eq_true p244
   replace q244 := eq_true q244
   have p245 : 0 ≤ (1 : Int) := (by omega)
   have q245 : (1 : Int) < (t227.length : Int) := of_decide_eq_true AS
   obtain ⟨ad245, e245, hx245_0⟩ := Kd.at_string (HM.CR 1 rfl).2.2 1 p245 q245
   obtain rfl := Option.some.inj e245
   have qi245 : (1 < t227.length) = True := eq_true (by omega)
   (try rw [show ((1 : Int)).toNat = 1 from rfl] at hx245_0)
   (try simp only [Nat.reduceMul, Nat.reduceEqDiff, Go.Addr.add, ↓reduceIte] at hx245_0)
   replace p245 := eq_true p245
   replace q245 := eq_true q245
   have p252 : 0 ≤ (2 : Int) := (by omega)
   have q252 : (2 : Int) < (t227.length : Int) := of_decide_eq_true AS
   obtain ⟨ad252, e252, hx252_0⟩ := Kd.at_string (HM.CR 1 rfl).2.2 2 p252 q252
   obtain rfl := Option.some.inj e252
   have qi252 : (2 < t227.length) = True := eq_true (by omega)
   (try rw [show ((2 : Int)).toNat = 2 from rfl] at hx252_0)
   (try simp only [Nat.reduceMul, Nat.reduceEqDiff, Go.Addr.add, ↓reduceIte] at hx252_0)
   replace p252 := eq_true p252
   replace q252 := eq_true q252
   have p259 : 0 ≤ (3 : Int) := (by omega)
   have q259 : (3 : Int) < (t227.length : Int) := of_decide_eq_true AS
   obtain ⟨ad259, e259, hx259_0⟩ := Kd.at_string (HM.CR 1 rfl).2.2 3 p259 q259
   obtain rfl := Option.some.inj e259
   have qi259 : (3 < t227.length) = True := eq_true (by omega)
   (try rw [show ((3 : Int)).toNat = 3 from rfl] at hx259_0)
   (try simp only [Nat.reduceMul, Nat.reduceEqDiff, Go.Addr.add, ↓reduceIte] at hx259_0)
   replace p259 := eq_true p259
   replace q259 := eq_true q259
   refine RGN 24 [0, 1, 2, 3, 4, 5, 6, 7, 8, 9, 10, 11, 12, 13, 14, 15, 16, 17, 18, 19, 20, 21, 22, 23] (fun a0 b a w' => ∃ (v247 : Value) (v250 : Value) (v254 : Value) (v257 : Value) (v261 : Value) (v264 : Value) (gb266 : Nat), a = putSel a0 b [(0, 24, .slice (some ad243) y240.length ko51), (1, 25, .pointer (some ad243)), (2, 26, .int .i64 (rd y240 0)), (3, 27, .slice (some ad243) y240.length ko51), (4, 28, .pointer (some (ad243.add 1))), (5, 29, .int .i64 (rd y240 1)), (6, 30, .slice (some ad230) t227.length ko7), (7, 31, .pointer (some (ad230.add 1))), (8, 32, .string (rdOf ByteArray.empty t227 1)), (9, 33, v247), (10, 34, v250), (11, 35, .slice (some ad230) t227.length ko7), (12, 36, .pointer (some (ad230.add 2))), (13, 37, .string (rdOf ByteArray.empty t227 2)), (14, 38, v254), (15, 39, v257), (16, 40, .slice (some ad230) t227.length ko7), (17, 41, .pointer (some (ad230.add 3))), (18, 42, .string (rdOf ByteArray.empty t227 3)), (19, 43, v261), (20, 44, v264), (21, 45, .agg #[.int .i64 (rd y240 0), .int .i64 (rd y240 1), v250, v257, v264]), (22, 6, .pointer (some ⟨gb266, 0, none⟩))] ∧ Mem w [] w' [box 25 gb226 [.int .i64 0, .int .i64 0, .slice none 0 0, .slice none 0 0, .slice none 0 0], rowR Kd.string 9 (.slice (some ad230) t227.length ko7) t227, rowR Kd.string 9 (.slice Xo14 t231.length ko14) t231, rowR (Kd.int .i64) 3 (.slice (some ad243) y240.length ko51) y240, rowR (Kd.int .i64) 3 (.slice Xo17 y237.length ko17) y237, sel (b 9) (rowR Kd.string 9 v247 t246) (emp), sel (b 10) (rowR k76 76 v250 t249) (emp), sel (b 14) (rowR Kd.string 9 v254 t253) (emp), sel (b 15) (rowR k76 76 v257 t256) (emp), sel (b 19) (rowR Kd.string 9 v261 t260) (emp), sel (b 20) (rowR (Kd.int .i64) 3 v264 t263) (emp), sel (b 23) (box 25 gb266 [.int .i64 (rd y240 0), .int .i64 (rd y240 1), v250, v257, v264]) (sel (b 22) (box 25 gb266 [.int .i64 0, .int .i64 0, .slice none 0 0, .slice none 0 0, .slice none 0 0]) (emp))]) spec_TextThree.tab7 spec_TextThree.bits7 ?_ ?_ ?_
   ·exact ⟨.bool false, .bool false, .bool false, .bool false, .bool false, .bool false, 0, PS0' rfl _, (HM.drew.ems 7).pick [0, 1, 2, 3, 4, 5, 6, 7, 8, 9, 10, 11]⟩
   ·clear HM
    refine SZ ?_ ?_
    ·rintro b a w ⟨v247, v250, v254, v257, v261, v264, gb266, ha, HM⟩ hb hon hoff K hK
     replace ha := Aside0.mk ha
     have e5 := PG ha 5
     exact VL (.slice (some ad243) y240.length ko51) (hK.out _ _ ⟨v247, v250, v254, v257, v261, v264, gb266, PUT ha 0 hb, HM⟩)
    refine SZ ?_ ?_
    ·rintro b a w ⟨v247, v250, v254, v257, v261, v264, gb266, ha, HM⟩ hb hon hoff K hK
     replace ha := Aside0.mk ha
     have p243 : 0 ≤ (0 : Int) := (by omega)
     have q243 : (0 : Int) < (y240.length : Int) := of_decide_eq_true AS
     obtain ⟨ad243, e243, hx243_0⟩ := Kd.at_int (HM.CR 3 rfl).2.2 0 p243 q243
     obtain rfl := Option.some.inj e243
     have qi243 : (0 < y240.length) = True := eq_true (by omega)
     (try rw [show ((0 : Int)).toNat = 0 from rfl] at hx243_0)
     (try rw [Addr.add_zero'] at hx243_0)
     replace p243 := eq_true p243
     replace q243 := eq_true q243
     have e24 := PE ha 0 hon
     exact VL (.pointer (some ad243)) (hK.out _ _ ⟨v247, v250, v254, v257, v261, v264, gb266, PUT ha 1 hb, HM⟩)
    refine SZ ?_ ?_
    ·rintro b a w ⟨v247, v250, v254, v257, v261, v264, gb266, ha, HM⟩ hb hon hoff K hK
     replace ha := Aside0.mk ha
     have p243 : 0 ≤ (0 : Int) := (by omega)
     have q243 : (0 : Int) < (y240.length : Int) := of_decide_eq_true AS
     obtain ⟨ad243, e243, hx243_0⟩ := Kd.at_int (HM.CR 3 rfl).2.2 0 p243 q243
     obtain rfl := Option.some.inj e243
     have qi243 : (0 < y240.length) = True := eq_true (by omega)
     (try rw [show ((0 : Int)).toNat = 0 from rfl] at hx243_0)
     (try rw [Addr.add_zero'] at hx243_0)
     replace p243 := eq_true p243
     replace q243 := eq_true q243
     have e25 := PE ha 1 hon
     exact VL (.int .i64 (rd y240 0)) (hK.out _ _ ⟨v247, v250, v254, v257, v261, v264, gb266, PUT ha 2 hb, HM⟩)
    refine SZ ?_ ?_
    ·rintro b a w ⟨v247, v250, v254, v257, v261, v264, gb266, ha, HM⟩ hb hon hoff K hK
     replace ha := Aside0.mk ha
     have e5 := PG ha 5
     exact VL (.slice (some ad243) y240.length ko51) (hK.out _ _ ⟨v247, v250, v254, v257, v261, v264, gb266, PUT ha 3 hb, HM⟩)
    refine SZ ?_ ?_
    ·rintro b a w ⟨v247, v250, v254, v257, v261, v264, gb266, ha, HM⟩ hb hon hoff K hK
     replace ha := Aside0.mk ha
     have p244 : 0 ≤ (1 : Int) := (by omega)
     have q244 : (1 : Int) < (y240.length : Int) := of_decide_eq_true AS
     obtain ⟨ad244, e244, hx244_0⟩ := Kd.at_int (HM.CR 3 rfl).2.2 1 p244 q244
     obtain rfl := Option.some.inj e244
     have qi244 : (1 < y240.length) = True := eq_true (by omega)
     (try rw [show ((1 : Int)).toNat = 1 from rfl] at hx244_0)
     (try simp only [Nat.reduceMul, Nat.reduceEqDiff, Go.Addr.add, ↓reduceIte] at hx244_0)
     replace p244 := eq_true p244
     replace q244 := eq_true q244
     have e27 := PE ha 3 hon
     exact VL (.pointer (some (ad243.add 1))) (hK.out _ _ ⟨v247, v250, v254, v257, v261, v264, gb266, PUT ha 4 hb, HM⟩)
    refine SZ ?_ ?_
    ·rintro b a w ⟨v247, v250, v254, v257, v261, v264, gb266, ha, HM⟩ hb hon hoff K hK
     replace ha := Aside0.mk ha
     have p244 : 0 ≤ (1 : Int) := (by omega)
     have q244 : (1 : Int) < (y240.length : Int) := of_decide_eq_true AS
     obtain ⟨ad244, e244, hx244_0⟩ := Kd.at_int (HM.CR 3 rfl).2.2 1 p244 q244
     obtain rfl := Option.some.inj e244
     have qi244 : (1 < y240.length) = True := eq_true (by omega)
     (try rw [show ((1 : Int)).toNat = 1 from rfl] at hx244_0)
     (try simp only [Nat.reduceMul, Nat.reduceEqDiff, Go.Addr.add, ↓reduceIte] at hx244_0)
     replace p244 := eq_true p244
     replace q244 := eq_true q244
     have e28 := PE ha 4 hon
     exact VL (.int .i64 (rd y240 1)) (hK.out _ _ ⟨v247, v250, v254, v257, v261, v264, gb266, PUT ha 5 hb, HM⟩)
    refine SZ ?_ ?_
    ·rintro b a w ⟨v247, v250, v254, v257, v261, v264, gb266, ha, HM⟩ hb hon hoff K hK
     replace ha := Aside0.mk ha
     have e4 := PG ha 4
     exact VL (.slice (some ad230) t227.length ko7) (hK.out _ _ ⟨v247, v250, v254, v257, v261, v264, gb266, PUT ha 6 hb, HM⟩)
    refine SZ ?_ ?_
    ·rintro b a w ⟨v247, v250, v254, v257, v261, v264, gb266, ha, HM⟩ hb hon hoff K hK
     replace ha := Aside0.mk ha
     have p245 : 0 ≤ (1 : Int) := (by omega)
     have q245 : (1 : Int) < (t227.length : Int) := of_decide_eq_true AS
     obtain ⟨ad245, e245, hx245_0⟩ := Kd.at_string (HM.CR 1 rfl).2.2 1 p245 q245
     obtain rfl := Option.some.inj e245
     have qi245 : (1 < t227.length) = True := eq_true (by omega)
     (try rw [show ((1 : Int)).toNat = 1 from rfl] at hx245_0)
     (try simp only [Nat.reduceMul, Nat.reduceEqDiff, Go.Addr.add, ↓reduceIte] at hx245_0)
     replace p245 := eq_true p245
     replace q245 := eq_true q245
     have e30 := PE ha 6 hon
     exact VL (.pointer (some (ad230.add 1))) (hK.out _ _ ⟨v247, v250, v254, v257, v261, v264, gb266, PUT ha 7 hb, HM⟩)
    refine SZ ?_ ?_
    ·rintro b a w ⟨v247, v250, v254, v257, v261, v264, gb266, ha, HM⟩ hb hon hoff K hK
     replace ha := Aside0.mk ha
     have p245 : 0 ≤ (1 : Int) := (by omega)
     have q245 : (1 : Int) < (t227.length : Int) := of_decide_eq_true AS
     obtain ⟨ad245, e245, hx245_0⟩ := Kd.at_string (HM.CR 1 rfl).2.2 1 p245 q245
     obtain rfl := Option.some.inj e245
     have qi245 : (1 < t227.length) = True := eq_true (by omega)
     (try rw [show ((1 : Int)).toNat = 1 from rfl] at hx245_0)
     (try simp only [Nat.reduceMul, Nat.reduceEqDiff, Go.Addr.add, ↓reduceIte] at hx245_0)
     replace p245 := eq_true p245
     replace q245 := eq_true q245
     have e31 := PE ha 7 hon
     exact VL (.string (rdOf ByteArray.empty t227 1)) (hK.out _ _ ⟨v247, v250, v254, v257, v261, v264, gb266, PUT ha 8 hb, HM⟩)
    refine SZ ?_ ?_
    ·rintro b a w ⟨v247, v250, v254, v257, v261, v264, gb266, ha, HM⟩ hb hon hoff K hK
     replace ha := Aside0.mk ha
     have e32 := PE ha 8 hon
     refine ST (eC (some 33) rfl #[.string (rdOf ByteArray.empty t227 1)] rfl Try.func22 (spec_Cut.calls k (rdOf ByteArray.empty t227 1) t246 _ A22.out) ?_ (hargs := by (simp only [List.map_toArray, List.map_cons, List.map_nil, evc, eval_of e32]) <;> rfl))
     rintro e w52 ⟨v247, rfl, hR⟩
     refine ⟨_, rfl, ?_⟩
     replace HM := HM.call hR
     clear hR
     exact hK.out _ _ ⟨v247, v250, v254, v257, v261, v264, gb266, PUT ha 9 hb, (HM).pick [0, 1, 2, 3, 4, 12, 6, 7, 8, 9, 10, 11]⟩
    refine SZ ?_ ?_
    ·rintro b a w ⟨v247, v250, v254, v257, v261, v264, gb266, ha, HM⟩ hb hon hoff K hK
     replace ha := Aside0.mk ha
     replace HM := HM.sT 5 rfl (hon 9 rfl)
     obtain ⟨Xo54, ko54, rfl⟩ := HM.rdR 5 rfl
     have e33 := PE ha 9 hon
     refine ST (eC (some 34) rfl #[.slice Xo54 t246.length ko54] rfl Try.func23 (spec_l20Read.calls k _ _ t246 t249 _ (HM.CR 5 rfl).2.2 (HM.CR 5 rfl).2.1 A23.out) ?_ (hargs := by (simp only [List.map_toArray, List.map_cons, List.map_nil, evc, eval_of e33]) <;> rfl))
     rintro e w53 ⟨v250, rfl, hR⟩
     refine ⟨_, rfl, ?_⟩
     replace HM := HM.call hR
     clear hR
     exact hK.out _ _ ⟨.slice Xo54 t246.length ko54, v250, v254, v257, v261, v264, gb266, PUT (PCH ha 21 (hoff 21 rfl)) 10 hb, (((HM.iT 5 rfl (hon 9 rfl)).sF 11 rfl (hoff 23 rfl)).iF 11 rfl (hoff 23 rfl)).pick [0, 1, 2, 3, 4, 5, 12, 7, 8, 9, 10, 11]⟩
    refine SZ ?_ ?_
    ·rintro b a w ⟨v247, v250, v254, v257, v261, v264, gb266, ha, HM⟩ hb hon hoff K hK
     replace ha := Aside0.mk ha
     have e4 := PG ha 4
     exact VL (.slice (some ad230) t227.length ko7) (hK.out _ _ ⟨v247, v250, v254, v257, v261, v264, gb266, PUT ha 11 hb, HM⟩)
    refine SZ ?_ ?_
    ·rintro b a w ⟨v247, v250, v254, v257, v261, v264, gb266, ha, HM⟩ hb hon hoff K hK
     replace ha := Aside0.mk ha
     have p252 : 0 ≤ (2 : Int) := (by omega)
     have q252 : (2 : Int) < (t227.length : Int) := of_decide_eq_true AS
     obtain ⟨ad252, e252, hx252_0⟩ := Kd.at_string (HM.CR 1 rfl).2.2 2 p252 q252
     obtain rfl := Option.some.inj e252
     have qi252 : (2 < t227.length) = True := eq_true (by omega)
     (try rw [show ((2 : Int)).toNat = 2 from rfl] at hx252_0)
     (try simp only [Nat.reduceMul, Nat.reduceEqDiff, Go.Addr.add, ↓reduceIte] at hx252_0)
     replace p252 := eq_true p252
     replace q252 := eq_true q252
     have e35 := PE ha 11 hon
     exact VL (.pointer (some (ad230.add 2))) (hK.out _ _ ⟨v247, v250, v254, v257, v261, v264, gb266, PUT ha 12 hb, HM⟩)
    refine SZ ?_ ?_
    ·rintro b a w ⟨v247, v250, v254, v257, v261, v264, gb266, ha, HM⟩ hb hon hoff K hK
     replace ha := Aside0.mk ha
     have p252 : 0 ≤ (2 : Int) := (by omega)
     have q252 : (2 : Int) < (t227.length : Int) := of_decide_eq_true AS
     obtain ⟨ad252, e252, hx252_0⟩ := Kd.at_string (HM.CR 1 rfl).2.2 2 p252 q252
     obtain rfl := Option.some.inj e252
     have qi252 : (2 < t227.length) = True := eq_true (by omega)
     (try rw [show ((2 : Int)).toNat = 2 from rfl] at hx252_0)
     (try simp only [Nat.reduceMul, Nat.reduceEqDiff, Go.Addr.add, ↓reduceIte] at hx252_0)
     replace p252 := eq_true p252
     replace q252 := eq_true q252
     have e36 := PE ha 12 hon
     exact VL (.string (rdOf ByteArray.empty t227 2)) (hK.out _ _ ⟨v247, v250, v254, v257, v261, v264, gb266, PUT ha 13 hb, HM⟩)
    refine SZ ?_ ?_
    ·rintro b a w ⟨v247, v250, v254, v257, v261, v264, gb266, ha, HM⟩ hb hon hoff K hK
     replace ha := Aside0.mk ha
     have e37 := PE ha 13 hon
     refine ST (eC (some 38) rfl #[.string (rdOf ByteArray.empty t227 2)] rfl Try.func22 (spec_Cut.calls k (rdOf ByteArray.empty t227 2) t253 _ A25.out) ?_ (hargs := by (simp only [List.map_toArray, List.map_cons, List.map_nil, evc, eval_of e37]) <;> rfl))
     rintro e w55 ⟨v254, rfl, hR⟩
     refine ⟨_, rfl, ?_⟩
     replace HM := HM.call hR
     clear hR
     exact hK.out _ _ ⟨v247, v250, v254, v257, v261, v264, gb266, PUT ha 14 hb, (HM).pick [0, 1, 2, 3, 4, 5, 6, 12, 8, 9, 10, 11]⟩
    refine SZ ?_ ?_
    ·rintro b a w ⟨v247, v250, v254, v257, v261, v264, gb266, ha, HM⟩ hb hon hoff K hK
     replace ha := Aside0.mk ha
     replace HM := HM.sT 7 rfl (hon 14 rfl)
     obtain ⟨Xo57, ko57, rfl⟩ := HM.rdR 7 rfl
     have e38 := PE ha 14 hon
     refine ST (eC (some 39) rfl #[.slice Xo57 t253.length ko57] rfl Try.func23 (spec_l20Read.calls k _ _ t253 t256 _ (HM.CR 7 rfl).2.2 (HM.CR 7 rfl).2.1 A26.out) ?_ (hargs := by (simp only [List.map_toArray, List.map_cons, List.map_nil, evc, eval_of e38]) <;> rfl))
     rintro e w56 ⟨v257, rfl, hR⟩
     refine ⟨_, rfl, ?_⟩
     replace HM := HM.call hR
     clear hR
     exact hK.out _ _ ⟨v247, v250, .slice Xo57 t253.length ko57, v257, v261, v264, gb266, PUT (PCH ha 21 (hoff 21 rfl)) 15 hb, (((HM.iT 7 rfl (hon 14 rfl)).sF 11 rfl (hoff 23 rfl)).iF 11 rfl (hoff 23 rfl)).pick [0, 1, 2, 3, 4, 5, 6, 7, 12, 9, 10, 11]⟩
    refine SZ ?_ ?_
    ·rintro b a w ⟨v247, v250, v254, v257, v261, v264, gb266, ha, HM⟩ hb hon hoff K hK
     replace ha := Aside0.mk ha
     have e4 := PG ha 4
     exact VL (.slice (some ad230) t227.length ko7) (hK.out _ _ ⟨v247, v250, v254, v257, v261, v264, gb266, PUT ha 16 hb, HM⟩)
    refine SZ ?_ ?_
    ·rintro b a w ⟨v247, v250, v254, v257, v261, v264, gb266, ha, HM⟩ hb hon hoff K hK
     replace ha := Aside0.mk ha
     have p259 : 0 ≤ (3 : Int) := (by omega)
     have q259 : (3 : Int) < (t227.length : Int) := of_decide_eq_true AS
     obtain ⟨ad259, e259, hx259_0⟩ := Kd.at_string (HM.CR 1 rfl).2.2 3 p259 q259
     obtain rfl := Option.some.inj e259
     have qi259 : (3 < t227.length) = True := eq_true (by omega)
     (try rw [show ((3 : Int)).toNat = 3 from rfl] at hx259_0)
     (try simp only [Nat.reduceMul, Nat.reduceEqDiff, Go.Addr.add, ↓reduceIte] at hx259_0)
     replace p259 := eq_true p259
     replace q259 := eq_true q259
     have e40 := PE ha 16 hon
     exact VL (.pointer (some (ad230.add 3))) (hK.out _ _ ⟨v247, v250, v254, v257, v261, v264, gb266, PUT ha 17 hb, HM⟩)
    refine SZ ?_ ?_
    ·rintro b a w ⟨v247, v250, v254, v257, v261, v264, gb266, ha, HM⟩ hb hon hoff K hK
     replace ha := Aside0.mk ha
     have p259 : 0 ≤ (3 : Int) := (by omega)
     have q259 : (3 : Int) < (t227.length : Int) := of_decide_eq_true AS
     obtain ⟨ad259, e259, hx259_0⟩ := Kd.at_string (HM.CR 1 rfl).2.2 3 p259 q259
     obtain rfl := Option.some.inj e259
     have qi259 : (3 < t227.length) = True := eq_true (by omega)
     (try rw [show ((3 : Int)).toNat = 3 from rfl] at hx259_0)
     (try simp only [Nat.reduceMul, Nat.reduceEqDiff, Go.Addr.add, ↓reduceIte] at hx259_0)
     replace p259 := eq_true p259
     replace q259 := eq_true q259
     have e41 := PE ha 17 hon
     exact VL (.string (rdOf ByteArray.empty t227 3)) (hK.out _ _ ⟨v247, v250, v254, v257, v261, v264, gb266, PUT ha 18 hb, HM⟩)
    refine SZ ?_ ?_
    ·rintro b a w ⟨v247, v250, v254, v257, v261, v264, gb266, ha, HM⟩ hb hon hoff K hK
     replace ha := Aside0.mk ha
     have e42 := PE ha 18 hon
     refine ST (eC (some 43) rfl #[.string (rdOf ByteArray.empty t227 3)] rfl Try.func22 (spec_Cut.calls k (rdOf ByteArray.empty t227 3) t260 _ A28.out) ?_ (hargs := by (simp only [List.map_toArray, List.map_cons, List.map_nil, evc, eval_of e42]) <;> rfl))
     rintro e w58 ⟨v261, rfl, hR⟩
     refine ⟨_, rfl, ?_⟩
     replace HM := HM.call hR
     clear hR
     exact hK.out _ _ ⟨v247, v250, v254, v257, v261, v264, gb266, PUT ha 19 hb, (HM).pick [0, 1, 2, 3, 4, 5, 6, 7, 8, 12, 10, 11]⟩
    refine SZ ?_ ?_
    ·rintro b a w ⟨v247, v250, v254, v257, v261, v264, gb266, ha, HM⟩ hb hon hoff K hK
     replace ha := Aside0.mk ha
     replace HM := HM.sT 9 rfl (hon 19 rfl)
     obtain ⟨Xo60, ko60, rfl⟩ := HM.rdR 9 rfl
     have e43 := PE ha 19 hon
     refine ST (eC (some 44) rfl #[.slice Xo60 t260.length ko60] rfl Try.func21 (spec_l20Numbers.calls k _ _ t260 t263 _ (HM.CR 9 rfl).2.2 (HM.CR 9 rfl).2.1 A29.out) ?_ (hargs := by (simp only [List.map_toArray, List.map_cons, List.map_nil, evc, eval_of e43]) <;> rfl))
     rintro e w59 ⟨v264, rfl, hR⟩
     refine ⟨_, rfl, ?_⟩
     replace HM := HM.call hR
     clear hR
     exact hK.out _ _ ⟨v247, v250, v254, v257, .slice Xo60 t260.length ko60, v264, gb266, PUT (PCH ha 21 (hoff 21 rfl)) 20 hb, (((HM.iT 9 rfl (hon 19 rfl)).sF 11 rfl (hoff 23 rfl)).iF 11 rfl (hoff 23 rfl)).pick [0, 1, 2, 3, 4, 5, 6, 7, 8, 9, 12, 11]⟩
    refine SZ ?_ ?_
    ·rintro b a w ⟨v247, v250, v254, v257, v261, v264, gb266, ha, HM⟩ hb hon hoff K hK
     replace ha := Aside0.mk ha
     have HZ := HM
     replace HM := HM.sT 6 rfl (hon 10 rfl)
     replace HM := HM.sT 8 rfl (hon 15 rfl)
     replace HM := HM.sT 10 rfl (hon 20 rfl)
     obtain ⟨Xo61, ko61, rfl⟩ := HM.rdR 10 rfl
     obtain ⟨Xo62, ko62, rfl⟩ := HM.rdR 8 rfl
     obtain ⟨Xo63, ko63, rfl⟩ := HM.rdR 6 rfl
     have e26 := PE ha 2 hon
     have e29 := PE ha 5 hon
     have e34 := PE ha 10 hon
     have e39 := PE ha 15 hon
     have e44 := PE ha 20 hon
     exact VL (.agg #[.int .i64 (rd y240 0), .int .i64 (rd y240 1), .slice Xo63 t249.length ko63, .slice Xo62 t256.length ko62, .slice Xo61 t263.length ko61]) (hK.out _ _ ⟨v247, .slice Xo63 t249.length ko63, v254, .slice Xo62 t256.length ko62, v261, .slice Xo61 t263.length ko61, gb266, PUT ha 21 hb, HZ⟩)
    refine SZ ?_ ?_
    ·rintro b a w ⟨v247, v250, v254, v257, v261, v264, gb266, ha, HM⟩ hb hon hoff K hK
     replace ha := Aside0.mk ha
     refine ST (eB 6 25 [.int .i64 0, .int .i64 0, .slice none 0 0, .slice none 0 0, .slice none 0 0] HM rfl ?_)
     clear HM
     intro gb266 w64 HM
     exact hK.out _ _ ⟨v247, v250, v254, v257, v261, v264, gb266, PUT ha 22 hb, (HM.iF 12 rfl (hoff 23 rfl)).pick [0, 1, 2, 3, 4, 5, 6, 7, 8, 9, 10, 12]⟩
    refine SZ ?_ ?_
    ·rintro b a w ⟨v247, v250, v254, v257, v261, v264, gb266, ha, HM⟩ hb hon hoff K hK
     replace ha := Aside0.mk ha
     replace HM := HM.sT 6 rfl (hon 10 rfl)
     replace HM := HM.sT 8 rfl (hon 15 rfl)
     replace HM := HM.sT 10 rfl (hon 20 rfl)
     replace HM := (HM.sF 11 rfl hb).sT 11 rfl (hon 22 rfl)
     obtain ⟨Xo65, ko65, rfl⟩ := HM.rdR 6 rfl
     obtain ⟨Xo66, ko66, rfl⟩ := HM.rdR 8 rfl
     obtain ⟨Xo67, ko67, rfl⟩ := HM.rdR 10 rfl
     have e6 := PE ha 22 hon
     have e45 := PE ha 21 hon
     refine ST (eS 11 6 0 [.int .i64 (rd y240 0), .int .i64 (rd y240 1), .slice Xo65 t249.length ko65, .slice Xo66 t256.length ko66, .slice Xo67 t263.length ko67] HM rfl rfl ?_ (hp := (eval_of e6)) (hx := (by rw [eval_of e45]; rfl)))
     clear HM
     intro w68 HM
     exact hK.out _ _ ⟨v247, .slice Xo65 t249.length ko65, v254, .slice Xo66 t256.length ko66, v261, .slice Xo67 t263.length ko67, gb266, PUS ha, (((HM.iT 6 rfl (hon 10 rfl)).iT 8 rfl (hon 15 rfl)).iT 10 rfl (hon 20 rfl)).pick [0, 1, 2, 3, 4, 5, 6, 7, 8, 9, 10, 11]⟩
    exact steps_nil
   rintro _ w69 ⟨v247, v250, v254, v257, v261, v264, gb266, rfl, HM⟩
   replace HM := HM.sT 5 rfl rfl
   replace HM := HM.sT 6 rfl rfl
   replace HM := HM.sT 7 rfl rfl
   replace HM := HM.sT 8 rfl rfl
   replace HM := HM.sT 9 rfl rfl
   replace HM := HM.sT 10 rfl rfl
   replace HM := HM.sT 11 rfl rfl
   simp only [putSel, if_true, Act.put, List.setIfInBounds_toArray, List.set_cons_zero, List.set_cons_succ, gt_iff_lt, ge_iff_le]
   replace H := BN H; obtain ⟨t267, A71, H⟩ := H
   obtain ⟨_,_,_,_,_,_,_,_,_,_⟩ := bk5 (HM.bx 11 rfl)
   obtain ⟨Xo73, ko73, rfl⟩ := HM.rdR 6 rfl
   obtain ⟨Xo74, ko74, rfl⟩ := HM.rdR 8 rfl
   obtain ⟨Xo75, ko75, rfl⟩ := HM.rdR 10 rfl
   go_upto_if 49 with (first | ((with_reducible refine gC 24 rfl ?_); refine pC (some 47) rfl #[.agg #[.int .i64 (rd y240 0), .int .i64 (rd y240 1), .slice Xo73 t249.length ko73, .slice Xo74 t256.length ko74, .slice Xo75 t263.length ko75]] rfl Try.func24 (spec_l20Text.calls k (rd y240 0) (rd y240 1) _ _ t249 _ _ t256 _ _ t263 t267 _ (HM.CR 6 rfl).2.2 (HM.CR 6 rfl).2.1 (HM.CR 8 rfl).2.2 (HM.CR 8 rfl).2.1 (HM.CR 10 rfl).2.2 (HM.CR 10 rfl).2.1 A71.out) ?_; rintro e w72 ⟨rfl, hR⟩; refine ⟨_, rfl, ?_⟩; replace HM := HM.call hR; clear hR))
   replace H := IT H; rcases H with ⟨c76, H⟩ | ⟨c76, H⟩
   ·obtain ⟨c76b0, c76b1⟩ := BE c76
    clear c76
    first|rw [c76b0]|(simp only [i64_w, i32_w]; rw [c76b0])|skip
    replace H := BN H; obtain ⟨t268, A78, H⟩ := H
    obtain ⟨_,_,_,_,_,_,_,_,_,_⟩ := bk5 (HM.bx 11 rfl)
    go_upto_if 53 with (first | ((with_reducible refine gC 25 rfl ?_); refine pC (some 52) rfl #[.agg #[.int .i64 (rd y240 0), .int .i64 (rd y240 1), .slice Xo73 t249.length ko73, .slice Xo74 t256.length ko74, .slice Xo75 t263.length ko75]] rfl Try.func25 (spec_ThreeOk.calls k (rd y240 0) (rd y240 1) _ _ t249 _ _ t256 _ _ t263 t268 _ (HM.CR 6 rfl).2.2 (HM.CR 6 rfl).2.1 (HM.CR 8 rfl).2.2 (HM.CR 8 rfl).2.1 (HM.CR 10 rfl).2.2 (HM.CR 10 rfl).2.1 A78.out) ?_; rintro e w79 ⟨rfl, hR⟩; refine ⟨_, rfl, ?_⟩; replace HM := HM.call hR; clear hR))
    replace H := IB H
    rcases H with ⟨c80, H⟩ | ⟨c80, H⟩
    ·subst c80
     simp only [Option.some.injEq, Prod.mk.injEq] at H
     obtain ⟨rfl, rfl, rfl, rfl, rfl, rfl⟩ := H
     obtain ⟨_,_,_,_,_,_,_,_,_,_⟩ := bk5 (HM.bx 11 rfl)
     go_wp2_with (first | ((with_reducible refine gS 2 rfl ?_); refine pS 0 2 0 [.int .i64 (rd y240 0), .int .i64 (rd y240 1), .slice Xo73 t249.length ko73, .slice Xo74 t256.length ko74, .slice Xo75 t263.length ko75] HM rfl rfl ?_; clear HM; intro w82 HM))
     refine bodyPost_ret (results_ct rfl _ _ gb226 25 #[.int .i64 (rd y240 0), .int .i64 (rd y240 1), .slice Xo73 t249.length ko73, .slice Xo74 t256.length ko74, .slice Xo75 t263.length ko75] (0, 0) _ rfl (HM.bx 0 rfl) Try.underlying25 rfl (by kernel_rfl)) rfl ?_
     exact ⟨_, _, _, ER, (MD HM).pick [6, 8, 10]⟩
    ·subst c80
     simp only [Option.some.injEq, Prod.mk.injEq] at H
     obtain ⟨rfl, rfl, rfl, rfl, rfl, rfl⟩ := H
     go_wp2_with (first | ((with_reducible refine gS 2 rfl ?_); refine pS 0 2 0 [.int .i64 0, .int .i64 0, .slice none 0 0, .slice none 0 0, .slice none 0 0] HM rfl rfl ?_; clear HM; intro w83 HM; replace HM := HM.nl k76 76; replace HM := HM.nl k76 76; replace HM := HM.nl (Kd.int .i64) 3))
     refine bodyPost_ret (results_ct rfl _ _ gb226 25 #[.int .i64 0, .int .i64 0, .slice none 0 0, .slice none 0 0, .slice none 0 0] (0, 0) _ rfl (HM.bx 0 rfl) Try.underlying25 rfl (by kernel_rfl)) rfl ?_
     exact ⟨_, _, _, ER, (MD HM).pick [12, 13, 14]⟩
   ·obtain ⟨c76b0, c76b1⟩ := BF c76
    first|rw [c76b0]|(simp only [i64_w, i32_w]; rw [c76b0])|skip
    simp only [Option.some.injEq, Prod.mk.injEq] at H
    obtain ⟨rfl, rfl, rfl, rfl, rfl, rfl⟩ := H
    go_wp2_with (first | ((with_reducible refine gS 2 rfl ?_); refine pS 0 2 0 [.int .i64 0, .int .i64 0, .slice none 0 0, .slice none 0 0, .slice none 0 0] HM rfl rfl ?_; clear HM; intro w84 HM; replace HM := HM.nl k76 76; replace HM := HM.nl k76 76; replace HM := HM.nl (Kd.int .i64) 3))
    refine bodyPost_ret (results_ct rfl _ _ gb226 25 #[.int .i64 0, .int .i64 0, .slice none 0 0, .slice none 0 0, .slice none 0 0] (0, 0) _ rfl (HM.bx 0 rfl) Try.underlying25 rfl (by kernel_rfl)) rfl ?_
    exact ⟨_, _, _, ER, (MD HM).pick [12, 13, 14]⟩
  ·obtain ⟨c8b0, c8b1⟩ := BF c8
   first|rw [c8b0]|(simp only [i64_w, i32_w]; rw [c8b0])|skip
   simp only [Option.some.injEq, Prod.mk.injEq] at H
   obtain ⟨rfl, rfl, rfl, rfl, rfl, rfl⟩ := H
   go_wp2_with (first | ((with_reducible refine gS 2 rfl ?_); refine pS 0 2 0 [.int .i64 0, .int .i64 0, .slice none 0 0, .slice none 0 0, .slice none 0 0] HM rfl rfl ?_; clear HM; intro w85 HM; replace HM := HM.nl k76 76; replace HM := HM.nl k76 76; replace HM := HM.nl (Kd.int .i64) 3))
   refine bodyPost_ret (results_ct rfl _ _ gb226 25 #[.int .i64 0, .int .i64 0, .slice none 0 0, .slice none 0 0, .slice none 0 0] (0, 0) _ rfl (HM.bx 0 rfl) Try.underlying25 rfl (by kernel_rfl)) rfl ?_
   exact ⟨_, _, _, ER, (MD HM).pick [2, 3, 4]⟩
end Go.Proofs.Ytnlnifpehndacaa.G
