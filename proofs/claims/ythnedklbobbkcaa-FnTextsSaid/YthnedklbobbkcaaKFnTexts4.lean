/- Part 4 of the claim FnTexts, merged by pack.py (this session's program) out of: the print's words, cut to what is needed; texts that gen.py printed (it runs the kit's print in place); texts of this session. -/
import Derived.Test.YthnedklbobbkcaaKFnTexts1
import Derived.Test.YthnedklbobbkcaaKFnTexts2
import Derived.Test.YthnedklbobbkcaaKFnTexts3
namespace Go.Proofs.Ythnedklbobbkcaa.CutL
end Go.Proofs.Ythnedklbobbkcaa.CutL
namespace Go.Proofs.Ythnedklbobbkcaa.Man
end Go.Proofs.Ythnedklbobbkcaa.Man
namespace Go.Proofs.Ythnedklbobbkcaa.Mm
end Go.Proofs.Ythnedklbobbkcaa.Mm
namespace Go.Proofs.Ythnedklbobbkcaa.Sh
end Go.Proofs.Ythnedklbobbkcaa.Sh
set_option maxHeartbeats 8000000
set_option maxRecDepth 100000
namespace Go.Proofs.Ythnedklbobbkcaa.G
open Go.RowKit Go.Proofs.YthnedklbobbkcaaW.PrintWords Go.Proofs.YthnedklbobbkcaaW.PrintLast Go.Proofs.YthnedklbobbkcaaW.PrintMore Go.Proofs.Ythnedklbobbkcaa.Sh
attribute [local go_sem] max2_int min2_int max_two min_two max_three min_three max_four min_four
set_option linter.unusedVariables false
set_option linter.unusedSimpArgs false
open Go.Proofs.Ythnedklbobbkcaa.Mm
mutual
def impl_ThreeOk.j0 : Nat → Bool → Int → Int → List (S122) → List (S122) → List Int → Option (Bool)
 | 0, _, _, _, _, _, _ => none
 | k + 1, x24, x935000, x935001, x935002, x935003, x935004 => if x24 = true then (some false) else (impl_ThreeOk.l0 k x935004 (x935004.length : Int) 0 x935000 x935001 x935002 x935003 x935004)
def impl_ThreeOk.l0 : Nat → List Int → Int → Int → Int → Int → List (S122) → List (S122) → List Int → Option (Bool)
 | 0, _, _, _, _, _, _, _, _ => none
 | k + 1, x26, x27, x28, x935000, x935001, x935002, x935003, x935004 => if x28 < x27 then (if 0 ≤ x28 then (if x28 < (x26.length : Int) then ((impl_isNum.f (rd x26 x28)).bind fun t946 => (if t946 = true then (if x28 ≤ (x935004.length : Int) then ((slices_Contains_int_int.f k (x935004.take (x28 : Int).toNat) (rd x26 x28)).bind fun t948 => (if t948 = true then (some false) else (impl_ThreeOk.l0 k x26 x27 (wrap64 (x28 + 1)) x935000 x935001 x935002 x935003 x935004))) else (none)) else (some false))) else (none)) else (none)) else ((impl_copyItems.f x935002).bind fun t938 => (if t938.length + x935003.length < 3518437208883 then ((some (t938 ++ x935003 : List (S122))).bind fun y941 => (if (y941.length : Int) ≤ x935000 then ((impl_areItems.f k y941).bind fun t944 => (some t944)) else (some false))) else (none)))
end
def impl_ThreeOk.f (k : Nat) (a0_0 : Int) (a0_1 : Int) (l0_2 : List (S122)) (l0_3 : List (S122)) (l0_4 : List Int) : Option (Bool) := (impl_within.f a0_0 1 60).bind fun t935 => (if t935 = true then ((impl_within.f a0_1 1 a0_0).bind fun t936 => (if t936 = true then ((impl_Three_ghosts.f a0_0 a0_1).bind fun t937 => (impl_ThreeOk.j0 k (decide ((l0_4.length : Int) > t937)) a0_0 a0_1 l0_2 l0_3 l0_4)) else (impl_ThreeOk.j0 k true a0_0 a0_1 l0_2 l0_3 l0_4))) else (impl_ThreeOk.j0 k true a0_0 a0_1 l0_2 l0_3 l0_4))
def impl_ThreeOk.T1 : Bool × List (List Nat × List Nat) := (true, [([], []), ([0], [0]), ([1], [1]), ([2], [2]), ([3, 2], [3]), ([4], [4]), ([5, 4], [4, 5]), ([4], [4]), ([7, 4], [4, 7]), ([6, 8, 4, 4], [4, 6, 8]), ([9, 4], [4, 9]), ([4, 10], [4, 10]), ([11, 9], [11]), ([12], [12]), ([13, 12], [12, 13]), ([14, 12], [12, 14]), ([12, 12], [12]), ([15, 16, 12], [12, 15, 16]), ([12, 17], [12, 17])])
def impl_ThreeOk.B1 : List Nat := [0, 1, 3, 7, 15, 31, 63, 31, 159, 511, 1023, 2047, 4095, 8191, 16383, 32767, 8191, 131071, 262143]
theorem impl_ThreeOk.tab1 : rtab .any (opsOf Try.f60 1) = impl_ThreeOk.T1 := by kernel_rfl
theorem impl_ThreeOk.bits1 : waitsOk impl_ThreeOk.T1.2 impl_ThreeOk.B1 = true := by kernel_rfl
def impl_ThreeOk.T9 : Bool × List (List Nat × List Nat) := (true, [([], []), ([0], [0]), ([1], [1]), ([], []), ([3], [3]), ([2, 4, 2], [2, 4]), ([5, 5, 0, 1, 2, 3, 4, 5], [5])])
def impl_ThreeOk.B9 : List Nat := [0, 1, 3, 0, 8, 31, 63]
theorem impl_ThreeOk.tab9 : rtab .any (opsOf Try.f60 9) = impl_ThreeOk.T9 := by kernel_rfl
theorem impl_ThreeOk.bits9 : waitsOk impl_ThreeOk.T9.2 impl_ThreeOk.B9 = true := by kernel_rfl
theorem impl_ThreeOk.calls (k : Nat) (a0_0 : Int) (a0_1 : Int) (A0_2 : Option Addr) (c0_2 : Nat) (l0_2 : List (S122)) (A0_3 : Option Addr) (c0_3 : Nat) (l0_3 : List (S122)) (A0_4 : Option Addr) (c0_4 : Nat) (l0_4 : List Int) (r : Bool) (w : World) (hr0_2 : Kd.C k122 w A0_2 l0_2.length l0_2) (hc0_2 : l0_2.length ≤ c0_2) (hr0_3 : Kd.C k122 w A0_3 l0_3.length l0_3) (hc0_3 : l0_3.length ≤ c0_3) (hr0_4 : Kd.C (Kd.int .i64) w A0_4 l0_4.length l0_4) (hc0_4 : l0_4.length ≤ c0_4) (h : impl_ThreeOk.f k a0_0 a0_1 l0_2 l0_3 l0_4 = some r) :
  Calls Try.prog 60 #[.agg #[.int .i64 a0_0, .int .i64 a0_1, .slice A0_2 l0_2.length c0_2, .slice A0_3 l0_3.length c0_3, .slice A0_4 l0_4.length c0_4]] w fun e w' => e = .returned (.bool r) ∧ Mem w [] w' [] := by
 have hu32 := Try.underlying32
 have HR0_2 := Aside0.mk hr0_2
 have HC0_2 := Aside0.mk hc0_2
 clear hr0_2 hc0_2
 have HR0_3 := Aside0.mk hr0_3
 have HC0_3 := Aside0.mk hc0_3
 clear hr0_3 hc0_3
 have HR0_4 := Aside0.mk hr0_4
 have HC0_4 := Aside0.mk hc0_4
 clear hr0_4 hc0_4
 have HM := Mem.nil w
 have H := h
 clear h
 unfold impl_ThreeOk.f at H
 go_enter Try.func60, Try.ntmps60
 have HC3 := Aside0.mk H
 clear H
 go_upto_region 1 with (first | ((with_reducible refine gN 1 rfl ?_); refine pB 1 32 [.int .i64 a0_0, .int .i64 a0_1, .slice A0_2 l0_2.length c0_2, .slice A0_3 l0_3.length c0_3, .slice A0_4 l0_4.length c0_4] HM rfl ?_; clear HM; intro gb934 w2 HM))
 go_cut [24] (fun v24 wc => ∃ (kq : Nat) (x24_2 : Bool), v24 = .bool x24_2 ∧ Aside0 (impl_ThreeOk.j0 kq x24_2 a0_0 a0_1 l0_2 l0_3 l0_4 = some r) ∧ Aside0 (kq ≤ k) ∧ Mem w [] wc [box 32 gb934 [.int .i64 a0_0, .int .i64 a0_1, .slice A0_2 l0_2.length c0_2, .slice A0_3 l0_3.length c0_3, .slice A0_4 l0_4.length c0_4]])
 case first =>
  have H := HC3.out
  clear HC3
  try go_wp2
  replace H := BN H; obtain ⟨t935, A4, H⟩ := H
  replace H := IB H
  rcases H with ⟨c5, H⟩ | ⟨c5, H⟩
  ·subst c5
   replace H := BN H; obtain ⟨t936, A6, H⟩ := H
   replace H := IB H
   rcases H with ⟨c7, H⟩ | ⟨c7, H⟩
   ·subst c7
    replace H := BN H; obtain ⟨t937, A8, H⟩ := H
    refine RGN 19 [0, 1, 2, 3, 4, 5, 6, 7, 8, 9, 10, 11, 12, 13, 14, 15, 16, 17, 18] (fun a0 b a w' => a = putSel a0 b [(0, 6, .pointer (some ⟨gb934, 0, none⟩)), (1, 7, .int .i64 a0_0), (2, 8, .bool true), (3, 9, .bool (!true)), (4, 10, .bool (!true)), (5, 11, .pointer (some ⟨gb934, 1, none⟩)), (6, 12, .int .i64 a0_1), (7, 13, .pointer (some ⟨gb934, 0, none⟩)), (8, 14, .int .i64 a0_0), (9, 15, .bool true), (10, 16, .bool (!true)), (11, 17, .bool (!true)), (12, 18, .bool (!true)), (13, 19, .pointer (some ⟨gb934, 4, none⟩)), (14, 20, .slice A0_4 l0_4.length c0_4), (15, 21, .int .i64 (l0_4.length : Int)), (16, 22, .int .i64 t937), (17, 23, .bool (decide ((l0_4.length : Int) > t937))), (18, 24, .bool (decide ((l0_4.length : Int) > t937)))] ∧ Mem w [] w' [box 32 gb934 [.int .i64 a0_0, .int .i64 a0_1, .slice A0_2 l0_2.length c0_2, .slice A0_3 l0_3.length c0_3, .slice A0_4 l0_4.length c0_4]]) impl_ThreeOk.tab1 impl_ThreeOk.bits1 ?_ ?_ ?_
    ·exact ⟨PS0' rfl _, (HM.drew).pick [0]⟩
    ·clear HM
     refine SY ?_ ?_
     ·intro b a w ha HM hb hon hoff K hK
      have e1 := PG ha 1
      exact VL (.pointer (some ⟨gb934, 0, none⟩)) (hK.out _ _ ⟨PUT ha 0 hb, HM⟩)
     refine SY ?_ ?_
     ·intro b a w ha HM hb hon hoff K hK
      obtain ⟨_,_,_,_,_,_,_,_,_,_⟩ := bk5 (HM.bx 0 rfl)
      have e6 := PE ha 0 hon
      exact VL (.int .i64 a0_0) (hK.out _ _ ⟨PUT ha 1 hb, HM⟩)
     refine SY ?_ ?_
     ·intro b a w ha HM hb hon hoff K hK
      have e7 := PE ha 1 hon
      refine ST (eC (some 8) rfl #[.int .i64 a0_0, .int .i64 1, .int .i64 60] rfl Try.func92 (impl_within.calls a0_0 1 60 true _ A4.out) ?_ (hargs := by (simp only [List.map_toArray, List.map_cons, List.map_nil, evc, eval_of e7]) <;> rfl))
      rintro e w17 ⟨rfl, hd⟩
      refine ⟨_, rfl, ?_⟩
      replace HM := HM.drawn hd
      clear hd
      exact hK.out _ _ ⟨PUT ha 2 hb, (HM).pick [0]⟩
     refine SY ?_ ?_
     ·intro b a w ha HM hb hon hoff K hK
      have e8 := PE ha 2 hon
      exact VL (.bool (!true)) (hK.out _ _ ⟨PUT ha 3 hb, HM⟩)
     refine SY ?_ ?_
     ·intro b a w ha HM hb hon hoff K hK
      have e9 := PE ha 3 hon
      exact VL (.bool (!true)) (hK.out _ _ ⟨PUT ha 4 hb, HM⟩)
     refine SY ?_ ?_
     ·intro b a w ha HM hb hon hoff K hK
      have e1 := PG ha 1
      have e10 := PE ha 4 hon
      exact VL (.pointer (some ⟨gb934, 1, none⟩)) (hK.out _ _ ⟨PUT ha 5 hb, HM⟩) (hw := wanted_on rfl rfl rfl (e10.trans (by first | rfl | (simp [*]; done))))
     refine SY ?_ ?_
     ·intro b a w ha HM hb hon hoff K hK
      obtain ⟨_,_,_,_,_,_,_,_,_,_⟩ := bk5 (HM.bx 0 rfl)
      have e11 := PE ha 5 hon
      have e10 := PE ha 4 hon
      exact VL (.int .i64 a0_1) (hK.out _ _ ⟨PUT ha 6 hb, HM⟩) (hw := wanted_on rfl rfl rfl (e10.trans (by first | rfl | (simp [*]; done))))
     refine SY ?_ ?_
     ·intro b a w ha HM hb hon hoff K hK
      have e1 := PG ha 1
      have e10 := PE ha 4 hon
      exact VL (.pointer (some ⟨gb934, 0, none⟩)) (hK.out _ _ ⟨PUT ha 7 hb, HM⟩) (hw := wanted_on rfl rfl rfl (e10.trans (by first | rfl | (simp [*]; done))))
     refine SY ?_ ?_
     ·intro b a w ha HM hb hon hoff K hK
      obtain ⟨_,_,_,_,_,_,_,_,_,_⟩ := bk5 (HM.bx 0 rfl)
      have e13 := PE ha 7 hon
      have e10 := PE ha 4 hon
      exact VL (.int .i64 a0_0) (hK.out _ _ ⟨PUT ha 8 hb, HM⟩) (hw := wanted_on rfl rfl rfl (e10.trans (by first | rfl | (simp [*]; done))))
     refine SY ?_ ?_
     ·intro b a w ha HM hb hon hoff K hK
      have e12 := PE ha 6 hon
      have e14 := PE ha 8 hon
      have e10 := PE ha 4 hon
      refine ST (eC (some 15) rfl #[.int .i64 a0_1, .int .i64 1, .int .i64 a0_0] rfl Try.func92 (impl_within.calls a0_1 1 a0_0 true _ A6.out) ?_ (hargs := by (simp only [List.map_toArray, List.map_cons, List.map_nil, evc, eval_of e12, eval_of e14]) <;> rfl)) (hw := wanted_on rfl rfl rfl (e10.trans (by first | rfl | (simp [*]; done))))
      rintro e w20 ⟨rfl, hd⟩
      refine ⟨_, rfl, ?_⟩
      replace HM := HM.drawn hd
      clear hd
      exact hK.out _ _ ⟨PUT ha 9 hb, (HM).pick [0]⟩
     refine SY ?_ ?_
     ·intro b a w ha HM hb hon hoff K hK
      have e15 := PE ha 9 hon
      have e10 := PE ha 4 hon
      exact VL (.bool (!true)) (hK.out _ _ ⟨PUT ha 10 hb, HM⟩) (hw := wanted_on rfl rfl rfl (e10.trans (by first | rfl | (simp [*]; done))))
     refine SY ?_ ?_
     ·intro b a w ha HM hb hon hoff K hK
      have e10 := PE ha 4 hon
      have e16 := PE ha 10 hon
      exact VL (.bool (!true)) (hK.out _ _ ⟨PUT ha 11 hb, HM⟩)
     refine SY ?_ ?_
     ·intro b a w ha HM hb hon hoff K hK
      have e17 := PE ha 11 hon
      exact VL (.bool (!true)) (hK.out _ _ ⟨PUT ha 12 hb, HM⟩)
     refine SY ?_ ?_
     ·intro b a w ha HM hb hon hoff K hK
      have e1 := PG ha 1
      have e18 := PE ha 12 hon
      exact VL (.pointer (some ⟨gb934, 4, none⟩)) (hK.out _ _ ⟨PUT ha 13 hb, HM⟩) (hw := wanted_on rfl rfl rfl (e18.trans (by first | rfl | (simp [*]; done))))
     refine SY ?_ ?_
     ·intro b a w ha HM hb hon hoff K hK
      obtain ⟨_,_,_,_,_,_,_,_,_,_⟩ := bk5 (HM.bx 0 rfl)
      have e19 := PE ha 13 hon
      have e18 := PE ha 12 hon
      exact VL (.slice A0_4 l0_4.length c0_4) (hK.out _ _ ⟨PUT ha 14 hb, HM⟩) (hw := wanted_on rfl rfl rfl (e18.trans (by first | rfl | (simp [*]; done))))
     refine SY ?_ ?_
     ·intro b a w ha HM hb hon hoff K hK
      have e20 := PE ha 14 hon
      have e18 := PE ha 12 hon
      exact VL (.int .i64 (l0_4.length : Int)) (hK.out _ _ ⟨PUT ha 15 hb, HM⟩) (hw := wanted_on rfl rfl rfl (e18.trans (by first | rfl | (simp [*]; done))))
     refine SY ?_ ?_
     ·intro b a w ha HM hb hon hoff K hK
      have e1 := PG ha 1
      have e18 := PE ha 12 hon
      refine ST (eC (some 22) rfl #[.pointer (some ⟨gb934, 0, none⟩)] rfl Try.func120 (impl_Three_ghosts.calls gb934 a0_0 a0_1 _ _ _ t937 _ (HM.bx 0 rfl) A8.out) ?_ (hargs := by (simp only [List.map_toArray, List.map_cons, List.map_nil, evc, eval_of e1]) <;> rfl)) (hw := wanted_on rfl rfl rfl (e18.trans (by first | rfl | (simp [*]; done))))
      rintro e w22 ⟨rfl, nd_, rfl⟩
      refine ⟨_, rfl, ?_⟩
      replace HM := HM.drewN nd_
      exact hK.out _ _ ⟨PUT ha 16 hb, (HM).pick [0]⟩
     refine SY ?_ ?_
     ·intro b a w ha HM hb hon hoff K hK
      have e21 := PE ha 15 hon
      have e22 := PE ha 16 hon
      have e18 := PE ha 12 hon
      exact VL (.bool (decide ((l0_4.length : Int) > t937))) (hK.out _ _ ⟨PUT ha 17 hb, HM⟩) (hw := wanted_on rfl rfl rfl (e18.trans (by first | rfl | (simp [*]; done))))
     refine SY ?_ ?_
     ·intro b a w ha HM hb hon hoff K hK
      have e18 := PE ha 12 hon
      have e23 := PE ha 17 hon
      exact VL (.bool (decide ((l0_4.length : Int) > t937))) (hK.out _ _ ⟨PUT ha 18 hb, HM⟩)
     exact steps_nil
    rintro _ w23 ⟨rfl, HM⟩
    simp only [putSel, if_true, Act.put, List.setIfInBounds_toArray, List.set_cons_zero, List.set_cons_succ, gt_iff_lt, ge_iff_le]
    have H' := Aside0.mk H
    clear H
    go_wp2
    go_meet
    case rel => exact ⟨_, (decide ((l0_4.length : Int) > t937)), RS, H', ⟨by first | omega | exact Nat.le_refl _⟩, (MD HM).pick [0]⟩
   ·subst c7
    refine RGN 19 [0, 1, 2, 3, 4, 5, 6, 7, 8, 9, 10, 11, 12, 13, 14, 15, 16, 17, 18] (fun a0 b a w' => a = putSel a0 b [(0, 6, .pointer (some ⟨gb934, 0, none⟩)), (1, 7, .int .i64 a0_0), (2, 8, .bool true), (3, 9, .bool (!true)), (4, 10, .bool (!true)), (5, 11, .pointer (some ⟨gb934, 1, none⟩)), (6, 12, .int .i64 a0_1), (7, 13, .pointer (some ⟨gb934, 0, none⟩)), (8, 14, .int .i64 a0_0), (9, 15, .bool false), (10, 16, .bool (!false)), (11, 17, .bool (!false)), (12, 18, .bool (!false)), (13, 19, undef), (14, 20, undef), (15, 21, undef), (16, 22, undef), (17, 23, undef), (18, 24, .bool true)] ∧ Mem w [] w' [box 32 gb934 [.int .i64 a0_0, .int .i64 a0_1, .slice A0_2 l0_2.length c0_2, .slice A0_3 l0_3.length c0_3, .slice A0_4 l0_4.length c0_4]]) impl_ThreeOk.tab1 impl_ThreeOk.bits1 ?_ ?_ ?_
    ·exact ⟨PS0' rfl _, (HM.drew).pick [0]⟩
    ·clear HM
     refine SY ?_ ?_
     ·intro b a w ha HM hb hon hoff K hK
      have e1 := PG ha 1
      exact VL (.pointer (some ⟨gb934, 0, none⟩)) (hK.out _ _ ⟨PUT ha 0 hb, HM⟩)
     refine SY ?_ ?_
     ·intro b a w ha HM hb hon hoff K hK
      obtain ⟨_,_,_,_,_,_,_,_,_,_⟩ := bk5 (HM.bx 0 rfl)
      have e6 := PE ha 0 hon
      exact VL (.int .i64 a0_0) (hK.out _ _ ⟨PUT ha 1 hb, HM⟩)
     refine SY ?_ ?_
     ·intro b a w ha HM hb hon hoff K hK
      have e7 := PE ha 1 hon
      refine ST (eC (some 8) rfl #[.int .i64 a0_0, .int .i64 1, .int .i64 60] rfl Try.func92 (impl_within.calls a0_0 1 60 true _ A4.out) ?_ (hargs := by (simp only [List.map_toArray, List.map_cons, List.map_nil, evc, eval_of e7]) <;> rfl))
      rintro e w30 ⟨rfl, hd⟩
      refine ⟨_, rfl, ?_⟩
      replace HM := HM.drawn hd
      clear hd
      exact hK.out _ _ ⟨PUT ha 2 hb, (HM).pick [0]⟩
     refine SY ?_ ?_
     ·intro b a w ha HM hb hon hoff K hK
      have e8 := PE ha 2 hon
      exact VL (.bool (!true)) (hK.out _ _ ⟨PUT ha 3 hb, HM⟩)
     refine SY ?_ ?_
     ·intro b a w ha HM hb hon hoff K hK
      have e9 := PE ha 3 hon
      exact VL (.bool (!true)) (hK.out _ _ ⟨PUT ha 4 hb, HM⟩)
     refine SY ?_ ?_
     ·intro b a w ha HM hb hon hoff K hK
      have e1 := PG ha 1
      have e10 := PE ha 4 hon
      exact VL (.pointer (some ⟨gb934, 1, none⟩)) (hK.out _ _ ⟨PUT ha 5 hb, HM⟩) (hw := wanted_on rfl rfl rfl (e10.trans (by first | rfl | (simp [*]; done))))
     refine SY ?_ ?_
     ·intro b a w ha HM hb hon hoff K hK
      obtain ⟨_,_,_,_,_,_,_,_,_,_⟩ := bk5 (HM.bx 0 rfl)
      have e11 := PE ha 5 hon
      have e10 := PE ha 4 hon
      exact VL (.int .i64 a0_1) (hK.out _ _ ⟨PUT ha 6 hb, HM⟩) (hw := wanted_on rfl rfl rfl (e10.trans (by first | rfl | (simp [*]; done))))
     refine SY ?_ ?_
     ·intro b a w ha HM hb hon hoff K hK
      have e1 := PG ha 1
      have e10 := PE ha 4 hon
      exact VL (.pointer (some ⟨gb934, 0, none⟩)) (hK.out _ _ ⟨PUT ha 7 hb, HM⟩) (hw := wanted_on rfl rfl rfl (e10.trans (by first | rfl | (simp [*]; done))))
     refine SY ?_ ?_
     ·intro b a w ha HM hb hon hoff K hK
      obtain ⟨_,_,_,_,_,_,_,_,_,_⟩ := bk5 (HM.bx 0 rfl)
      have e13 := PE ha 7 hon
      have e10 := PE ha 4 hon
      exact VL (.int .i64 a0_0) (hK.out _ _ ⟨PUT ha 8 hb, HM⟩) (hw := wanted_on rfl rfl rfl (e10.trans (by first | rfl | (simp [*]; done))))
     refine SY ?_ ?_
     ·intro b a w ha HM hb hon hoff K hK
      have e12 := PE ha 6 hon
      have e14 := PE ha 8 hon
      have e10 := PE ha 4 hon
      refine ST (eC (some 15) rfl #[.int .i64 a0_1, .int .i64 1, .int .i64 a0_0] rfl Try.func92 (impl_within.calls a0_1 1 a0_0 false _ A6.out) ?_ (hargs := by (simp only [List.map_toArray, List.map_cons, List.map_nil, evc, eval_of e12, eval_of e14]) <;> rfl)) (hw := wanted_on rfl rfl rfl (e10.trans (by first | rfl | (simp [*]; done))))
      rintro e w33 ⟨rfl, hd⟩
      refine ⟨_, rfl, ?_⟩
      replace HM := HM.drawn hd
      clear hd
      exact hK.out _ _ ⟨PUT ha 9 hb, (HM).pick [0]⟩
     refine SY ?_ ?_
     ·intro b a w ha HM hb hon hoff K hK
      have e15 := PE ha 9 hon
      have e10 := PE ha 4 hon
      exact VL (.bool (!false)) (hK.out _ _ ⟨PUT ha 10 hb, HM⟩) (hw := wanted_on rfl rfl rfl (e10.trans (by first | rfl | (simp [*]; done))))
     refine SY ?_ ?_
     ·intro b a w ha HM hb hon hoff K hK
      have e10 := PE ha 4 hon
      have e16 := PE ha 10 hon
      exact VL (.bool (!false)) (hK.out _ _ ⟨PUT ha 11 hb, HM⟩)
     refine SY ?_ ?_
     ·intro b a w ha HM hb hon hoff K hK
      have e17 := PE ha 11 hon
      exact VL (.bool (!false)) (hK.out _ _ ⟨PUT ha 12 hb, HM⟩)
     refine SY ?_ ?_
     ·intro b a w ha HM hb hon hoff K hK
      have e18 := PE ha 12 hon
      exact VN ( wanted_off rfl rfl rfl (e18.trans (by first | rfl | (simp [*]; done)))) (hK.out _ _ ⟨PUT ha 13 hb, HM⟩)
     refine SY ?_ ?_
     ·intro b a w ha HM hb hon hoff K hK
      have e18 := PE ha 12 hon
      exact VN ( wanted_off rfl rfl rfl (e18.trans (by first | rfl | (simp [*]; done)))) (hK.out _ _ ⟨PUT ha 14 hb, HM⟩)
     refine SY ?_ ?_
     ·intro b a w ha HM hb hon hoff K hK
      have e18 := PE ha 12 hon
      exact VN ( wanted_off rfl rfl rfl (e18.trans (by first | rfl | (simp [*]; done)))) (hK.out _ _ ⟨PUT ha 15 hb, HM⟩)
     refine SY ?_ ?_
     ·intro b a w ha HM hb hon hoff K hK
      have e18 := PE ha 12 hon
      exact VN ( wanted_off rfl rfl rfl (e18.trans (by first | rfl | (simp [*]; done)))) (hK.out _ _ ⟨PUT ha 16 hb, HM⟩)
     refine SY ?_ ?_
     ·intro b a w ha HM hb hon hoff K hK
      have e18 := PE ha 12 hon
      exact VN ( wanted_off rfl rfl rfl (e18.trans (by first | rfl | (simp [*]; done)))) (hK.out _ _ ⟨PUT ha 17 hb, HM⟩)
     refine SY ?_ ?_
     ·intro b a w ha HM hb hon hoff K hK
      have e18 := PE ha 12 hon
      have e23 := PE ha 17 hon
      exact VL (.bool true) (hK.out _ _ ⟨PUT ha 18 hb, HM⟩)
     exact steps_nil
    rintro _ w34 ⟨rfl, HM⟩
    simp only [putSel, if_true, Act.put, List.setIfInBounds_toArray, List.set_cons_zero, List.set_cons_succ, gt_iff_lt, ge_iff_le]
    have H' := Aside0.mk H
    clear H
    go_wp2
    go_meet
    case rel => exact ⟨_, (true), RS, H', ⟨by first | omega | exact Nat.le_refl _⟩, (MD HM).pick [0]⟩
  ·subst c5
   refine RGN 19 [0, 1, 2, 3, 4, 5, 6, 7, 8, 9, 10, 11, 12, 13, 14, 15, 16, 17, 18] (fun a0 b a w' => a = putSel a0 b [(0, 6, .pointer (some ⟨gb934, 0, none⟩)), (1, 7, .int .i64 a0_0), (2, 8, .bool false), (3, 9, .bool (!false)), (4, 10, .bool (!false)), (5, 11, undef), (6, 12, undef), (7, 13, undef), (8, 14, undef), (9, 15, undef), (10, 16, undef), (11, 17, .bool true), (12, 18, .bool true), (13, 19, undef), (14, 20, undef), (15, 21, undef), (16, 22, undef), (17, 23, undef), (18, 24, .bool true)] ∧ Mem w [] w' [box 32 gb934 [.int .i64 a0_0, .int .i64 a0_1, .slice A0_2 l0_2.length c0_2, .slice A0_3 l0_3.length c0_3, .slice A0_4 l0_4.length c0_4]]) impl_ThreeOk.tab1 impl_ThreeOk.bits1 ?_ ?_ ?_
   ·exact ⟨PS0' rfl _, (HM.drew).pick [0]⟩
   ·clear HM
    refine SY ?_ ?_
    ·intro b a w ha HM hb hon hoff K hK
     have e1 := PG ha 1
     exact VL (.pointer (some ⟨gb934, 0, none⟩)) (hK.out _ _ ⟨PUT ha 0 hb, HM⟩)
    refine SY ?_ ?_
    ·intro b a w ha HM hb hon hoff K hK
     obtain ⟨_,_,_,_,_,_,_,_,_,_⟩ := bk5 (HM.bx 0 rfl)
     have e6 := PE ha 0 hon
     exact VL (.int .i64 a0_0) (hK.out _ _ ⟨PUT ha 1 hb, HM⟩)
    refine SY ?_ ?_
    ·intro b a w ha HM hb hon hoff K hK
     have e7 := PE ha 1 hon
     refine ST (eC (some 8) rfl #[.int .i64 a0_0, .int .i64 1, .int .i64 60] rfl Try.func92 (impl_within.calls a0_0 1 60 false _ A4.out) ?_ (hargs := by (simp only [List.map_toArray, List.map_cons, List.map_nil, evc, eval_of e7]) <;> rfl))
     rintro e w38 ⟨rfl, hd⟩
     refine ⟨_, rfl, ?_⟩
     replace HM := HM.drawn hd
     clear hd
     exact hK.out _ _ ⟨PUT ha 2 hb, (HM).pick [0]⟩
    refine SY ?_ ?_
    ·intro b a w ha HM hb hon hoff K hK
     have e8 := PE ha 2 hon
     exact VL (.bool (!false)) (hK.out _ _ ⟨PUT ha 3 hb, HM⟩)
    refine SY ?_ ?_
    ·intro b a w ha HM hb hon hoff K hK
     have e9 := PE ha 3 hon
     exact VL (.bool (!false)) (hK.out _ _ ⟨PUT ha 4 hb, HM⟩)
    refine SY ?_ ?_
    ·intro b a w ha HM hb hon hoff K hK
     have e10 := PE ha 4 hon
     exact VN ( wanted_off rfl rfl rfl (e10.trans (by first | rfl | (simp [*]; done)))) (hK.out _ _ ⟨PUT ha 5 hb, HM⟩)
    refine SY ?_ ?_
    ·intro b a w ha HM hb hon hoff K hK
     have e10 := PE ha 4 hon
     exact VN ( wanted_off rfl rfl rfl (e10.trans (by first | rfl | (simp [*]; done)))) (hK.out _ _ ⟨PUT ha 6 hb, HM⟩)
    refine SY ?_ ?_
    ·intro b a w ha HM hb hon hoff K hK
     have e10 := PE ha 4 hon
     exact VN ( wanted_off rfl rfl rfl (e10.trans (by first | rfl | (simp [*]; done)))) (hK.out _ _ ⟨PUT ha 7 hb, HM⟩)
    refine SY ?_ ?_
    ·intro b a w ha HM hb hon hoff K hK
     have e10 := PE ha 4 hon
     exact VN ( wanted_off rfl rfl rfl (e10.trans (by first | rfl | (simp [*]; done)))) (hK.out _ _ ⟨PUT ha 8 hb, HM⟩)
    refine SY ?_ ?_
    ·intro b a w ha HM hb hon hoff K hK
     have e10 := PE ha 4 hon
     exact VN ( wanted_off rfl rfl rfl (e10.trans (by first | rfl | (simp [*]; done)))) (hK.out _ _ ⟨PUT ha 9 hb, HM⟩)
    refine SY ?_ ?_
    ·intro b a w ha HM hb hon hoff K hK
     have e10 := PE ha 4 hon
     exact VN ( wanted_off rfl rfl rfl (e10.trans (by first | rfl | (simp [*]; done)))) (hK.out _ _ ⟨PUT ha 10 hb, HM⟩)
    refine SY ?_ ?_
    ·intro b a w ha HM hb hon hoff K hK
     have e10 := PE ha 4 hon
     have e16 := PE ha 10 hon
     exact VL (.bool true) (hK.out _ _ ⟨PUT ha 11 hb, HM⟩)
    refine SY ?_ ?_
    ·intro b a w ha HM hb hon hoff K hK
     have e17 := PE ha 11 hon
     exact VL (.bool true) (hK.out _ _ ⟨PUT ha 12 hb, HM⟩)
    refine SY ?_ ?_
    ·intro b a w ha HM hb hon hoff K hK
     have e18 := PE ha 12 hon
     exact VN ( wanted_off rfl rfl rfl (e18.trans (by first | rfl | (simp [*]; done)))) (hK.out _ _ ⟨PUT ha 13 hb, HM⟩)
    refine SY ?_ ?_
    ·intro b a w ha HM hb hon hoff K hK
     have e18 := PE ha 12 hon
     exact VN ( wanted_off rfl rfl rfl (e18.trans (by first | rfl | (simp [*]; done)))) (hK.out _ _ ⟨PUT ha 14 hb, HM⟩)
    refine SY ?_ ?_
    ·intro b a w ha HM hb hon hoff K hK
     have e18 := PE ha 12 hon
     exact VN ( wanted_off rfl rfl rfl (e18.trans (by first | rfl | (simp [*]; done)))) (hK.out _ _ ⟨PUT ha 15 hb, HM⟩)
    refine SY ?_ ?_
    ·intro b a w ha HM hb hon hoff K hK
     have e18 := PE ha 12 hon
     exact VN ( wanted_off rfl rfl rfl (e18.trans (by first | rfl | (simp [*]; done)))) (hK.out _ _ ⟨PUT ha 16 hb, HM⟩)
    refine SY ?_ ?_
    ·intro b a w ha HM hb hon hoff K hK
     have e18 := PE ha 12 hon
     exact VN ( wanted_off rfl rfl rfl (e18.trans (by first | rfl | (simp [*]; done)))) (hK.out _ _ ⟨PUT ha 17 hb, HM⟩)
    refine SY ?_ ?_
    ·intro b a w ha HM hb hon hoff K hK
     have e18 := PE ha 12 hon
     have e23 := PE ha 17 hon
     exact VL (.bool true) (hK.out _ _ ⟨PUT ha 18 hb, HM⟩)
    exact steps_nil
   rintro _ w39 ⟨rfl, HM⟩
   simp only [putSel, if_true, Act.put, List.setIfInBounds_toArray, List.set_cons_zero, List.set_cons_succ, gt_iff_lt, ge_iff_le]
   have H' := Aside0.mk H
   clear H
   go_wp2
   go_meet
   case rel => exact ⟨_, (true), RS, H', ⟨by first | omega | exact Nat.le_refl _⟩, (MD HM).pick [0]⟩
 case rest =>
  clear HC3 HM
  obtain ⟨kq, x24_2, rfl, HA, HJ2, HM⟩ := hcut
  cases kq with
  | zero => exact absurd HA.out (by simp [impl_ThreeOk.j0])
  | succ kj2 =>
   have H := HA.out
   clear HA
   simp only [impl_ThreeOk.j0] at H
   go_upto_if 24 with (fail)
   replace H := IB H
   rcases H with ⟨c40, H⟩ | ⟨c40, H⟩
   ·subst c40
    obtain rfl := Option.some.inj H
    go_wp2
    go_ret
    exact ⟨ER, (MD HM).pick []⟩
   ·subst c40
    have H' := Aside0.mk H
    clear H
    obtain ⟨_,_,_,_,_,_,_,_,_,_⟩ := bk5 (HM.bx 0 rfl)
    go_wp2
    go_loopg [28] kj2 (fun kq v28 w' => ∃ (x28_2 : Int), v28 = .int .i64 x28_2 ∧ Aside0 (impl_ThreeOk.l0 kq l0_4 (l0_4.length : Int) x28_2 a0_0 a0_1 l0_2 l0_3 l0_4 = some r) ∧ Aside0 (kq ≤ kj2) ∧ Mem w [] w' [box 32 gb934 [.int .i64 a0_0, .int .i64 a0_1, .slice A0_2 l0_2.length c0_2, .slice A0_3 l0_3.length c0_3, .slice A0_4 l0_4.length c0_4]])
    case atStart => exact ⟨(0), RS, H', ⟨Nat.le_refl _⟩, (MD HM).pick [0]⟩
    case round =>
     clear H' HM
     obtain ⟨x28_2, rfl, HA, HK2, HM⟩ := hrel
     cases gk with
     | zero => exact absurd HA.out (by simp [impl_ThreeOk.l0])
     | succ k2 =>
      have H := HA.out
      clear HA
      simp only [impl_ThreeOk.l0] at H
      go_upto_if 29 with (fail)
      replace H := IT H; rcases H with ⟨c42, H⟩ | ⟨c42, H⟩
      ·have c42b0 := decide_eq_true c42
       clear c42
       first|rw [c42b0]|(simp only [i64_w, i32_w]; rw [c42b0])|skip
       replace H := GD H; obtain ⟨c43, H⟩ := H
       have c43b0 := decide_eq_true c43
       clear c43
       replace H := GD H; obtain ⟨c44, H⟩ := H
       have c44b0 := decide_eq_true c44
       clear c44
       replace H := BN H; obtain ⟨t946, A45, H⟩ := H
       replace H := IB H
       rcases H with ⟨c47, H⟩ | ⟨c47, H⟩
       ·subst c47
        have c49b0 := eq_true (of_decide_eq_true AS : 0 ≤ x28_2)
        replace H := GD H; obtain ⟨c50, H⟩ := H
        have c50b0 := eq_true c50
        have c50b1 : decide (x28_2 ≤ (l0_4.length : Int)) = true := decide_eq_true c50
        clear c50
        replace H := BN H; obtain ⟨t948, A52, H⟩ := H
        have p945 : 0 ≤ (x28_2 : Int) := of_decide_eq_true AS
        have q945 : (x28_2 : Int) < (l0_4.length : Int) := of_decide_eq_true AS
        obtain ⟨ad945, e945, hx945_0⟩ := Kd.at_int (HM.came HR0_4.out) x28_2 p945 q945
        cases e945
        replace p945 := eq_true p945
        replace q945 := eq_true q945
        go_upto_if 43 with (first | ((with_reducible refine gC 121 rfl ?_); refine pC (some 34) rfl #[.int .i64 (rd l0_4 x28_2)] rfl Try.func121 (impl_isNum.calls (rd l0_4 x28_2) true _ A45.out) ?_; rintro e w46 ⟨rfl, hd⟩; refine ⟨_, rfl, ?_⟩; replace HM := HM.drawn hd; clear hd; obtain ⟨_,_,_,_,_,_,_,_,_,_⟩ := bk5 (HM.bx 0 rfl)) | ((with_reducible refine gate_sl (t := 30) rfl ?_); refine pRtf 30 3 (Kd.int .i64) _ _ x28_2 l0_4 (some ad945) c0_4 rfl Try.underlying30 info3 HC0_4.out (of_decide_eq_true AS) (of_decide_eq_true AS) ?_; intro Yx51 bx51 hYx51 hbx51; have HYx51 := Aside0.mk hYx51; have HBx51 := Aside0.mk hbx51; clear hYx51 hbx51; have hlx51 : (l0_4.take (x28_2 : Int).toNat).length = (x28_2 : Int).toNat := by rw [List.length_take]; have h_ : (x28_2 : Int) ≤ ((l0_4.length : Int) : Int) := of_decide_eq_true AS; omega) | ((with_reducible refine gC 122 rfl ?_); refine pC (some 42) rfl #[.slice Yx51 (l0_4.take (x28_2 : Int).toNat).length bx51, .int .i64 (rd l0_4 x28_2)] rfl Try.func122 (slices_Contains_int_int.calls k2 _ _ (l0_4.take (x28_2 : Int).toNat) (rd l0_4 x28_2) t948 _ (HYx51.out _ (HM.came HR0_4.out)) HBx51.out A52.out) ?_ (hargs := by (try simp only [List.map_toArray, List.map_cons, List.map_nil]); first | done | rfl | (rw [hlx51]; rfl) | (simp only [List.length_take]; rfl)); rintro e w53 ⟨rfl, hd⟩; refine ⟨_, rfl, ?_⟩; replace HM := HM.drawn hd; clear hd))
        replace H := IB H
        rcases H with ⟨c54, H⟩ | ⟨c54, H⟩
        ·subst c54
         obtain rfl := Option.some.inj H
         go_wp2
         go_ret
         exact ⟨ER, (MD HM).pick []⟩
        ·subst c54
         have H' := Aside0.mk H
         clear H
         go_wp2
         go_roundg k2
         case measure => have := HJ2.out; have := HK2.out; omega
         case rel => exact ⟨(wrap64 (x28_2 + 1)), RS, H', ⟨by have := HJ2.out; have := HK2.out; omega⟩, (MD HM).pick [0]⟩
       ·subst c47
        obtain rfl := Option.some.inj H
        have p945 : 0 ≤ (x28_2 : Int) := of_decide_eq_true AS
        have q945 : (x28_2 : Int) < (l0_4.length : Int) := of_decide_eq_true AS
        obtain ⟨ad945, e945, hx945_0⟩ := Kd.at_int (HM.came HR0_4.out) x28_2 p945 q945
        cases e945
        replace p945 := eq_true p945
        replace q945 := eq_true q945
        go_wp2_with (first | ((with_reducible refine gC 121 rfl ?_); refine pC (some 34) rfl #[.int .i64 (rd l0_4 x28_2)] rfl Try.func121 (impl_isNum.calls (rd l0_4 x28_2) false _ A45.out) ?_; rintro e w46 ⟨rfl, hd⟩; refine ⟨_, rfl, ?_⟩; replace HM := HM.drawn hd; clear hd))
        go_ret
        exact ⟨ER, (MD HM).pick []⟩
      ·have c42b0 := decide_eq_false c42
       clear c42
       first|rw [c42b0]|(simp only [i64_w, i32_w]; rw [c42b0])|skip
       try go_wp2
       replace H := BN H; obtain ⟨t938, A55, H⟩ := H
       replace H := GD H; obtain ⟨c56, H⟩ := H
       have LMc56 := Aside0.mk c56
       clear c56
       replace H := BLt H; obtain ⟨y941, Ny941, H⟩ := H
       replace Ny941 := Aside0.mk Ny941
       refine RGN 7 [0, 1, 2, 3, 4, 5, 6] (fun a0 b a w' => ∃ (v939 : Value) (v942 : Value), a = putSel a0 b [(0, 45, .pointer (some ⟨gb934, 2, none⟩)), (1, 46, .slice A0_2 l0_2.length c0_2), (2, 47, v939), (3, 48, .pointer (some ⟨gb934, 3, none⟩)), (4, 49, .slice A0_3 l0_3.length c0_3), (5, 50, v942), (6, 5, v942)] ∧ Mem w [] w' [box 32 gb934 [.int .i64 a0_0, .int .i64 a0_1, .slice A0_2 l0_2.length c0_2, .slice A0_3 l0_3.length c0_3, .slice A0_4 l0_4.length c0_4], sel (b 5) (rowR k122 122 v942 y941) (sel (b 2) (rowR k122 122 v939 t938) (emp))]) impl_ThreeOk.tab9 impl_ThreeOk.bits9 ?_ ?_ ?_
       ·exact ⟨.bool false, .bool false, PS0' rfl _, (HM.drew.ems 1).pick [0, 1]⟩
       ·clear HM
        refine SZ ?_ ?_
        ·rintro b a w ⟨v939, v942, ha, HM⟩ hb hon hoff K hK
         replace ha := Aside0.mk ha
         have e1 := PG ha 1
         exact VL (.pointer (some ⟨gb934, 2, none⟩)) (hK.out _ _ ⟨v939, v942, PUT ha 0 hb, HM⟩)
        refine SZ ?_ ?_
        ·rintro b a w ⟨v939, v942, ha, HM⟩ hb hon hoff K hK
         replace ha := Aside0.mk ha
         obtain ⟨_,_,_,_,_,_,_,_,_,_⟩ := bk5 (HM.bx 0 rfl)
         have e45 := PE ha 0 hon
         exact VL (.slice A0_2 l0_2.length c0_2) (hK.out _ _ ⟨v939, v942, PUT ha 1 hb, HM⟩)
        refine SZ ?_ ?_
        ·rintro b a w ⟨v939, v942, ha, HM⟩ hb hon hoff K hK
         replace ha := Aside0.mk ha
         have e46 := PE ha 1 hon
         refine ST (eC (some 47) rfl #[.slice A0_2 l0_2.length c0_2] rfl Try.func123 (impl_copyItems.calls _ _ l0_2 t938 _ (HM.came HR0_2.out) HC0_2.out A55.out) ?_ (hargs := by (simp only [List.map_toArray, List.map_cons, List.map_nil, evc, eval_of e46]) <;> rfl))
         rintro e w62 ⟨v939, rfl, hR⟩
         refine ⟨_, rfl, ?_⟩
         replace HM := HM.call hR
         clear hR
         exact hK.out _ _ ⟨v939, v942, PUT ha 2 hb, (HM.iF 2 rfl (hoff 5 rfl)).pick [0, 2]⟩
        refine SZ ?_ ?_
        ·rintro b a w ⟨v939, v942, ha, HM⟩ hb hon hoff K hK
         replace ha := Aside0.mk ha
         have e1 := PG ha 1
         exact VL (.pointer (some ⟨gb934, 3, none⟩)) (hK.out _ _ ⟨v939, v942, PUT ha 3 hb, HM⟩)
        refine SZ ?_ ?_
        ·rintro b a w ⟨v939, v942, ha, HM⟩ hb hon hoff K hK
         replace ha := Aside0.mk ha
         obtain ⟨_,_,_,_,_,_,_,_,_,_⟩ := bk5 (HM.bx 0 rfl)
         have e48 := PE ha 3 hon
         exact VL (.slice A0_3 l0_3.length c0_3) (hK.out _ _ ⟨v939, v942, PUT ha 4 hb, HM⟩)
        refine SZ ?_ ?_
        ·rintro b a w ⟨v939, v942, ha, HM⟩ hb hon hoff K hK
         replace ha := Aside0.mk ha
         replace HM := (HM.sF 1 rfl hb).sT 1 rfl (hon 2 rfl)
         have e47 := PE ha 2 hon
         have e49 := PE ha 4 hon
         refine ST (eA 1 (.tmp 47) (.tmp 49) 29 122 k122 v939 t938 l0_3 A0_3 l0_3.length c0_3 HM rfl Try.underlying29 info122 rfl (HM.came HR0_3.out) (by have h_ := LMc56.out; omega) ?_ (ops := #[]) (hw := by rfl) (hs := (eval_of e47)) (hx := (eval_of e49)))
         clear HM
         intro v942 w64 HM
         replace HM := HM.nm 1 rfl Ny941.out
         exact hK.out _ _ ⟨v939, v942, PUT (PCH ha 6 (hoff 6 rfl)) 5 hb, (HM).pick [0, 1]⟩
        refine SZ ?_ ?_
        ·rintro b a w ⟨v939, v942, ha, HM⟩ hb hon hoff K hK
         replace ha := Aside0.mk ha
         have e50 := PE ha 5 hon
         exact VL (v942) (hK.out _ _ ⟨v939, v942, PUT ha 6 hb, HM⟩)
        exact steps_nil
       rintro _ w65 ⟨v939, v942, rfl, HM⟩
       replace HM := HM.sT 1 rfl rfl
       simp only [putSel, if_true, Act.put, List.setIfInBounds_toArray, List.set_cons_zero, List.set_cons_succ, gt_iff_lt, ge_iff_le]
       replace H := IT H; rcases H with ⟨c68, H⟩ | ⟨c68, H⟩
       ·have c68b0 := decide_eq_true c68
        clear c68
        replace H := BN H; obtain ⟨t944, A69, H⟩ := H
        obtain rfl := Option.some.inj H
        obtain ⟨Xo66, ko66, rfl⟩ := HM.rdR 1 rfl
        obtain ⟨_,_,_,_,_,_,_,_,_,_⟩ := bk5 (HM.bx 0 rfl)
        go_wp2_with (first | ((with_reducible refine gC 124 rfl ?_); refine pC (some 58) rfl #[.slice Xo66 y941.length ko66] rfl Try.func124 (impl_areItems.calls k2 _ _ y941 t944 _ (HM.CR 1 rfl).2.2 (HM.CR 1 rfl).2.1 A69.out) ?_; rintro e w70 ⟨rfl, hR⟩; refine ⟨_, rfl, ?_⟩; replace HM := HM.call hR; clear hR))
        go_ret
        exact ⟨ER, (MD HM).pick []⟩
       ·have c68b0 := decide_eq_false c68
        clear c68
        obtain rfl := Option.some.inj H
        obtain ⟨Xo66, ko66, rfl⟩ := HM.rdR 1 rfl
        obtain ⟨_,_,_,_,_,_,_,_,_,_⟩ := bk5 (HM.bx 0 rfl)
        go_wp2
        go_ret
        exact ⟨ER, (MD HM).pick []⟩
mutual
def impl_ThreeText.j0 : Nat → ByteArray → ByteArray → Bool → Int → Int → List (S122) → List (S122) → List Int → Option (ByteArray)
 | 0, _, _, _, _, _, _, _, _ => none
 | k + 1, x3, x4, x24, x950000, x950001, x950002, x950003, x950004 => if x24 = true then (some (⟨#[]⟩ : ByteArray)) else ((impl_NumText.f k x950000).bind fun t953 => ((impl_NumText.f k x950001).bind fun t954 => ((impl_glued.f k (([(⟨#[116, 104, 114, 101, 101]⟩ : ByteArray), t953, t954] : List ByteArray))).bind fun t958 => (if t958.size + 1 ≤ 9223372036854775807 then (if t958.size + 1 + x3.size ≤ 9223372036854775807 then (if t958.size + 1 + x3.size + x4.size ≤ 9223372036854775807 then (if t958.size + 1 + x3.size + x4.size + 5 ≤ 9223372036854775807 then (impl_ThreeText.l0 k ((((t958 ++ (⟨#[10]⟩ : ByteArray)) ++ x3) ++ x4) ++ (⟨#[103, 104, 111, 115, 116]⟩ : ByteArray)) x950004 (x950004.length : Int) 0) else (none)) else (none)) else (none)) else (none)))))
def impl_ThreeText.l0 : Nat → ByteArray → List Int → Int → Int → Option (ByteArray)
 | 0, _, _, _, _ => none
 | k + 1, x5, x40, x41, x42 => if x42 < x41 then (if 0 ≤ x42 then (if x42 < (x40.length : Int) then (if x5.size + 1 ≤ 9223372036854775807 then ((impl_NumText.f k (rd x40 x42)).bind fun t960 => (if x5.size + 1 + t960.size ≤ 9223372036854775807 then (impl_ThreeText.l0 k ((x5 ++ (⟨#[32]⟩ : ByteArray)) ++ t960) x40 x41 (wrap64 (x42 + 1))) else (none))) else (none)) else (none)) else (none)) else (if x5.size + 1 ≤ 9223372036854775807 then (some (x5 ++ (⟨#[10]⟩ : ByteArray))) else (none))
end
def impl_ThreeText.f (k : Nat) (a0_0 : Int) (a0_1 : Int) (l0_2 : List (S122)) (l0_3 : List (S122)) (l0_4 : List Int) : Option (ByteArray) := (impl_itemsText.f k (⟨#[115, 109, 97, 108, 108]⟩ : ByteArray) l0_2).bind fun t950 => ((impl_itemsText.f k (⟨#[109, 97, 105, 110]⟩ : ByteArray) l0_3).bind fun t951 => ((impl_ThreeOk.f k a0_0 a0_1 l0_2 l0_3 l0_4).bind fun t952 => (if t952 = true then (if t950.toList = ([] : List UInt8) then (impl_ThreeText.j0 k t950 t951 true a0_0 a0_1 l0_2 l0_3 l0_4) else (impl_ThreeText.j0 k t950 t951 (t951.toList == ([] : List UInt8)) a0_0 a0_1 l0_2 l0_3 l0_4)) else (impl_ThreeText.j0 k t950 t951 true a0_0 a0_1 l0_2 l0_3 l0_4))))
def impl_ThreeText.T1 : Bool × List (List Nat × List Nat) := (true, [([], []), ([0], [0]), ([1], [1]), ([], []), ([3], [3]), ([4, 2], [4]), ([2, 5, 0, 1, 2], [2]), ([5, 6, 0, 1, 2, 3, 4, 5, 6], [5])])
def impl_ThreeText.B1 : List Nat := [0, 1, 3, 0, 8, 31, 63, 127]
theorem impl_ThreeText.tab1 : rtab .any (opsOf Try.f14 1) = impl_ThreeText.T1 := by kernel_rfl
theorem impl_ThreeText.bits1 : waitsOk impl_ThreeText.T1.2 impl_ThreeText.B1 = true := by kernel_rfl
def impl_ThreeText.T4 : Bool × List (List Nat × List Nat) := (true, [([], []), ([0], [0]), ([1], [1]), ([], []), ([3], [3]), ([4, 2], [4]), ([2, 5], [2, 5]), ([6, 5], [6]), ([7], [7]), ([], []), ([8, 9], [8, 9]), ([], []), ([10, 11], [10, 11]), ([12], [12]), ([13, 7, 0, 1, 2, 3, 4, 5, 6, 7, 8, 9, 10, 11, 12, 13], [13])])
def impl_ThreeText.B4 : List Nat := [0, 1, 3, 0, 8, 31, 63, 127, 255, 0, 1023, 0, 4095, 8191, 16383]
theorem impl_ThreeText.tab4 : rtab .any (opsOf Try.f14 4) = impl_ThreeText.T4 := by kernel_rfl
theorem impl_ThreeText.bits4 : waitsOk impl_ThreeText.T4.2 impl_ThreeText.B4 = true := by kernel_rfl
theorem impl_ThreeText.calls (k : Nat) (a0_0 : Int) (a0_1 : Int) (A0_2 : Option Addr) (c0_2 : Nat) (l0_2 : List (S122)) (A0_3 : Option Addr) (c0_3 : Nat) (l0_3 : List (S122)) (A0_4 : Option Addr) (c0_4 : Nat) (l0_4 : List Int) (r : ByteArray) (w : World) (hr0_2 : Kd.C k122 w A0_2 l0_2.length l0_2) (hc0_2 : l0_2.length ≤ c0_2) (hr0_3 : Kd.C k122 w A0_3 l0_3.length l0_3) (hc0_3 : l0_3.length ≤ c0_3) (hr0_4 : Kd.C (Kd.int .i64) w A0_4 l0_4.length l0_4) (hc0_4 : l0_4.length ≤ c0_4) (h : impl_ThreeText.f k a0_0 a0_1 l0_2 l0_3 l0_4 = some r) :
  Calls Try.prog 14 #[.agg #[.int .i64 a0_0, .int .i64 a0_1, .slice A0_2 l0_2.length c0_2, .slice A0_3 l0_3.length c0_3, .slice A0_4 l0_4.length c0_4]] w fun e w' => e = .returned (.string r) ∧ Mem w [] w' [] := by
 have hu32 := Try.underlying32
 have HR0_2 := Aside0.mk hr0_2
 have HC0_2 := Aside0.mk hc0_2
 clear hr0_2 hc0_2
 have HR0_3 := Aside0.mk hr0_3
 have HC0_3 := Aside0.mk hc0_3
 clear hr0_3 hc0_3
 have HR0_4 := Aside0.mk hr0_4
 have HC0_4 := Aside0.mk hc0_4
 clear hr0_4 hc0_4
 have HM := Mem.nil w
 have H := h
 clear h
 unfold impl_ThreeText.f at H
 go_enter Try.func14, Try.ntmps14
 try go_wp2_with (first | ((with_reducible refine gN 1 rfl ?_); refine pB 1 32 [.int .i64 a0_0, .int .i64 a0_1, .slice A0_2 l0_2.length c0_2, .slice A0_3 l0_3.length c0_3, .slice A0_4 l0_4.length c0_4] HM rfl ?_; clear HM; intro gb949 w2 HM))
 replace H := BN H; obtain ⟨t950, A3, H⟩ := H
 replace H := BN H; obtain ⟨t951, A4, H⟩ := H
 refine RGN 8 [0, 1, 2, 3, 4, 5, 6, 7] (fun a0 b a w' => a = putSel a0 b [(0, 8, .pointer (some ⟨gb949, 2, none⟩)), (1, 9, .slice A0_2 l0_2.length c0_2), (2, 10, .string t950), (3, 11, .pointer (some ⟨gb949, 3, none⟩)), (4, 12, .slice A0_3 l0_3.length c0_3), (5, 13, .string t951), (6, 3, .string t950), (7, 4, .string t951)] ∧ Mem w [] w' [box 32 gb949 [.int .i64 a0_0, .int .i64 a0_1, .slice A0_2 l0_2.length c0_2, .slice A0_3 l0_3.length c0_3, .slice A0_4 l0_4.length c0_4]]) impl_ThreeText.tab1 impl_ThreeText.bits1 ?_ ?_ ?_
 ·exact ⟨PS0' rfl _, (HM.drew).pick [0]⟩
 ·clear HM
  refine SY ?_ ?_
  ·intro b a w ha HM hb hon hoff K hK
   have e1 := PG ha 1
   exact VL (.pointer (some ⟨gb949, 2, none⟩)) (hK.out _ _ ⟨PUT ha 0 hb, HM⟩)
  refine SY ?_ ?_
  ·intro b a w ha HM hb hon hoff K hK
   obtain ⟨_,_,_,_,_,_,_,_,_,_⟩ := bk5 (HM.bx 0 rfl)
   have e8 := PE ha 0 hon
   exact VL (.slice A0_2 l0_2.length c0_2) (hK.out _ _ ⟨PUT ha 1 hb, HM⟩)
  refine SY ?_ ?_
  ·intro b a w ha HM hb hon hoff K hK
   have e9 := PE ha 1 hon
   refine ST (eC (some 10) rfl #[.string (⟨#[115, 109, 97, 108, 108]⟩ : ByteArray), .slice A0_2 l0_2.length c0_2] rfl Try.func59 (impl_itemsText.calls k (⟨#[115, 109, 97, 108, 108]⟩ : ByteArray) _ _ l0_2 t950 _ (HM.came HR0_2.out) HC0_2.out A3.out) ?_ (hargs := by (simp only [List.map_toArray, List.map_cons, List.map_nil, evc, eval_of e9]) <;> rfl))
   rintro e w10 ⟨rfl, hR⟩
   refine ⟨_, rfl, ?_⟩
   replace HM := HM.call hR
   clear hR
   exact hK.out _ _ ⟨PUT ha 2 hb, (HM).pick [0]⟩
  refine SY ?_ ?_
  ·intro b a w ha HM hb hon hoff K hK
   have e1 := PG ha 1
   exact VL (.pointer (some ⟨gb949, 3, none⟩)) (hK.out _ _ ⟨PUT ha 3 hb, HM⟩)
  refine SY ?_ ?_
  ·intro b a w ha HM hb hon hoff K hK
   obtain ⟨_,_,_,_,_,_,_,_,_,_⟩ := bk5 (HM.bx 0 rfl)
   have e11 := PE ha 3 hon
   exact VL (.slice A0_3 l0_3.length c0_3) (hK.out _ _ ⟨PUT ha 4 hb, HM⟩)
  refine SY ?_ ?_
  ·intro b a w ha HM hb hon hoff K hK
   have e12 := PE ha 4 hon
   refine ST (eC (some 13) rfl #[.string (⟨#[109, 97, 105, 110]⟩ : ByteArray), .slice A0_3 l0_3.length c0_3] rfl Try.func59 (impl_itemsText.calls k (⟨#[109, 97, 105, 110]⟩ : ByteArray) _ _ l0_3 t951 _ (HM.came HR0_3.out) HC0_3.out A4.out) ?_ (hargs := by (simp only [List.map_toArray, List.map_cons, List.map_nil, evc, eval_of e12]) <;> rfl))
   rintro e w12 ⟨rfl, hR⟩
   refine ⟨_, rfl, ?_⟩
   replace HM := HM.call hR
   clear hR
   exact hK.out _ _ ⟨PUT ha 5 hb, (HM).pick [0]⟩
  refine SY ?_ ?_
  ·intro b a w ha HM hb hon hoff K hK
   have e10 := PE ha 2 hon
   exact VL (.string t950) (hK.out _ _ ⟨PUT ha 6 hb, HM⟩)
  refine SY ?_ ?_
  ·intro b a w ha HM hb hon hoff K hK
   have e13 := PE ha 5 hon
   exact VL (.string t951) (hK.out _ _ ⟨PUT ha 7 hb, HM⟩)
  exact steps_nil
 rintro _ w13 ⟨rfl, HM⟩
 simp only [putSel, if_true, Act.put, List.setIfInBounds_toArray, List.set_cons_zero, List.set_cons_succ, gt_iff_lt, ge_iff_le]
 have HC14 := Aside0.mk H
 clear H
 go_upto_region 2 with (fail)
 go_cut [24] (fun v24 wc => ∃ (kq : Nat) (x24_13 : Bool), v24 = .bool x24_13 ∧ Aside0 (impl_ThreeText.j0 kq t950 t951 x24_13 a0_0 a0_1 l0_2 l0_3 l0_4 = some r) ∧ Aside0 (kq ≤ k) ∧ Mem w [] wc [box 32 gb949 [.int .i64 a0_0, .int .i64 a0_1, .slice A0_2 l0_2.length c0_2, .slice A0_3 l0_3.length c0_3, .slice A0_4 l0_4.length c0_4]])
 case first =>
  have H := HC14.out
  clear HC14
  replace H := BN H; obtain ⟨t952, A16, H⟩ := H
  replace H := IB H
  rcases H with ⟨c18, H⟩ | ⟨c18, H⟩
  ·subst c18
   replace H := IT H; rcases H with ⟨c19, H⟩ | ⟨c19, H⟩
   ·obtain ⟨c19b0, c19b1⟩ := BE c19
    have c19b6 : (t950.toList).isEmpty = true := by first | (rw [c19]; rfl) | (cases h_ : t950.toList with | nil => exact absurd h_ c19 | cons _ _ => rfl)
    clear c19
    have H' := Aside0.mk H
    clear H
    obtain ⟨_,_,_,_,_,_,_,_,_,_⟩ := bk5 (HM.bx 0 rfl)
    go_wp2_with (first | ((with_reducible refine gC 60 rfl ?_); refine pC (some 15) rfl #[.agg #[.int .i64 a0_0, .int .i64 a0_1, .slice A0_2 l0_2.length c0_2, .slice A0_3 l0_3.length c0_3, .slice A0_4 l0_4.length c0_4]] rfl Try.func60 (impl_ThreeOk.calls k a0_0 a0_1 _ _ l0_2 _ _ l0_3 _ _ l0_4 true _ (HM.came HR0_2.out) HC0_2.out (HM.came HR0_3.out) HC0_3.out (HM.came HR0_4.out) HC0_4.out A16.out) ?_; rintro e w17 ⟨rfl, hR⟩; refine ⟨_, rfl, ?_⟩; replace HM := HM.call hR; clear hR))
    go_meet
    case rel => exact ⟨_, (true), RS, H', ⟨by first | omega | exact Nat.le_refl _⟩, (MD HM).pick [0]⟩
   ·obtain ⟨c19b0, c19b1⟩ := BF c19
    have c19b6 : (t950.toList).isEmpty = false := by first | (rw [c19]; rfl) | (cases h_ : t950.toList with | nil => exact absurd h_ c19 | cons _ _ => rfl)
    have H' := Aside0.mk H
    clear H
    obtain ⟨_,_,_,_,_,_,_,_,_,_⟩ := bk5 (HM.bx 0 rfl)
    go_wp2_with (first | ((with_reducible refine gC 60 rfl ?_); refine pC (some 15) rfl #[.agg #[.int .i64 a0_0, .int .i64 a0_1, .slice A0_2 l0_2.length c0_2, .slice A0_3 l0_3.length c0_3, .slice A0_4 l0_4.length c0_4]] rfl Try.func60 (impl_ThreeOk.calls k a0_0 a0_1 _ _ l0_2 _ _ l0_3 _ _ l0_4 true _ (HM.came HR0_2.out) HC0_2.out (HM.came HR0_3.out) HC0_3.out (HM.came HR0_4.out) HC0_4.out A16.out) ?_; rintro e w17 ⟨rfl, hR⟩; refine ⟨_, rfl, ?_⟩; replace HM := HM.call hR; clear hR))
    go_meet
    case rel => exact ⟨_, ((t951.toList == ([] : List UInt8))), (by first | rfl | (generalize t951 = y_; cases y_ with | mk d_ => cases d_ with | mk l_ => cases l_ <;> rfl) | (simp; done) | (generalize t951.toList = y_; cases y_ <;> simp)), H', ⟨by first | omega | exact Nat.le_refl _⟩, (MD HM).pick [0]⟩
  ·subst c18
   have H' := Aside0.mk H
   clear H
   obtain ⟨_,_,_,_,_,_,_,_,_,_⟩ := bk5 (HM.bx 0 rfl)
   go_wp2_with (first | ((with_reducible refine gC 60 rfl ?_); refine pC (some 15) rfl #[.agg #[.int .i64 a0_0, .int .i64 a0_1, .slice A0_2 l0_2.length c0_2, .slice A0_3 l0_3.length c0_3, .slice A0_4 l0_4.length c0_4]] rfl Try.func60 (impl_ThreeOk.calls k a0_0 a0_1 _ _ l0_2 _ _ l0_3 _ _ l0_4 false _ (HM.came HR0_2.out) HC0_2.out (HM.came HR0_3.out) HC0_3.out (HM.came HR0_4.out) HC0_4.out A16.out) ?_; rintro e w17 ⟨rfl, hR⟩; refine ⟨_, rfl, ?_⟩; replace HM := HM.call hR; clear hR))
   go_meet
   case rel => exact ⟨_, (true), RS, H', ⟨by first | omega | exact Nat.le_refl _⟩, (MD HM).pick [0]⟩
 case rest =>
  clear HC14 HM
  obtain ⟨kq, x24_13, rfl, HA, HJ13, HM⟩ := hcut
  cases kq with
  | zero => exact absurd HA.out (by simp [impl_ThreeText.j0])
  | succ kj13 =>
   have H := HA.out
   clear HA
   simp only [impl_ThreeText.j0] at H
   go_upto_if 24 with (fail)
   replace H := IB H
   rcases H with ⟨c20, H⟩ | ⟨c20, H⟩
   ·subst c20
    obtain rfl := Option.some.inj H
    go_wp2
    go_ret
    exact ⟨ER, (MD HM).pick []⟩
   ·subst c20
    try go_wp2
    replace H := BN H; obtain ⟨t953, A21, H⟩ := H
    replace H := BN H; obtain ⟨t954, A22, H⟩ := H
    replace H := BN H; obtain ⟨t958, A23, H⟩ := H
    replace H := GD H; obtain ⟨c24, H⟩ := H
    have c24b0 := eq_true c24
    have c24b1 : decide (t958.size + 1 ≤ 9223372036854775807) = true := decide_eq_true c24
    try have c24b2 : (9223372036854775807 < t958.size + 1) = False := eq_false (Nat.not_lt.2 c24)
    replace H := GD H; obtain ⟨c25, H⟩ := H
    have c25b0 := eq_true c25
    have c25b1 : decide (t958.size + 1 + t950.size ≤ 9223372036854775807) = true := decide_eq_true c25
    try have c25b2 : (9223372036854775807 < t958.size + 1 + t950.size) = False := eq_false (Nat.not_lt.2 c25)
    replace H := GD H; obtain ⟨c26, H⟩ := H
    have c26b0 := eq_true c26
    have c26b1 : decide (t958.size + 1 + t950.size + t951.size ≤ 9223372036854775807) = true := decide_eq_true c26
    try have c26b2 : (9223372036854775807 < t958.size + 1 + t950.size + t951.size) = False := eq_false (Nat.not_lt.2 c26)
    replace H := GD H; obtain ⟨c27, H⟩ := H
    have c27b0 := eq_true c27
    have c27b1 : decide (t958.size + 1 + t950.size + t951.size + 5 ≤ 9223372036854775807) = true := decide_eq_true c27
    try have c27b2 : (9223372036854775807 < t958.size + 1 + t950.size + t951.size + 5) = False := eq_false (Nat.not_lt.2 c27)
    refine RGN 15 [0, 1, 2, 3, 4, 5, 6, 7, 8, 9, 10, 11, 12, 13, 14] (fun a0 b a w' => ∃ (v956 : Value), a = putSel a0 b [(0, 25, .pointer (some ⟨gb949, 0, none⟩)), (1, 26, .int .i64 a0_0), (2, 27, .string t953), (3, 28, .pointer (some ⟨gb949, 1, none⟩)), (4, 29, .int .i64 a0_1), (5, 30, .string t954), (6, 31, v956), (7, 32, .string t958), (8, 33, .string (t958 ++ (⟨#[10]⟩ : ByteArray))), (9, 34, .string t950), (10, 35, .string ((t958 ++ (⟨#[10]⟩ : ByteArray)) ++ t950)), (11, 36, .string t951), (12, 37, .string (((t958 ++ (⟨#[10]⟩ : ByteArray)) ++ t950) ++ t951)), (13, 38, .string ((((t958 ++ (⟨#[10]⟩ : ByteArray)) ++ t950) ++ t951) ++ (⟨#[103, 104, 111, 115, 116]⟩ : ByteArray))), (14, 5, .string ((((t958 ++ (⟨#[10]⟩ : ByteArray)) ++ t950) ++ t951) ++ (⟨#[103, 104, 111, 115, 116]⟩ : ByteArray)))] ∧ Mem w [] w' [box 32 gb949 [.int .i64 a0_0, .int .i64 a0_1, .slice A0_2 l0_2.length c0_2, .slice A0_3 l0_3.length c0_3, .slice A0_4 l0_4.length c0_4], sel (b 6) (rowR Kd.string 9 v956 (([(⟨#[116, 104, 114, 101, 101]⟩ : ByteArray), t953, t954] : List ByteArray))) (emp)]) impl_ThreeText.tab4 impl_ThreeText.bits4 ?_ ?_ ?_
    ·exact ⟨.bool false, PS0' rfl _, (HM.drew.ems 1).pick [0, 1]⟩
    ·clear HM
     refine SZ ?_ ?_
     ·rintro b a w ⟨v956, ha, HM⟩ hb hon hoff K hK
      replace ha := Aside0.mk ha
      have e1 := PG ha 1
      exact VL (.pointer (some ⟨gb949, 0, none⟩)) (hK.out _ _ ⟨v956, PUT ha 0 hb, HM⟩)
     refine SZ ?_ ?_
     ·rintro b a w ⟨v956, ha, HM⟩ hb hon hoff K hK
      replace ha := Aside0.mk ha
      obtain ⟨_,_,_,_,_,_,_,_,_,_⟩ := bk5 (HM.bx 0 rfl)
      have e25 := PE ha 0 hon
      exact VL (.int .i64 a0_0) (hK.out _ _ ⟨v956, PUT ha 1 hb, HM⟩)
     refine SZ ?_ ?_
     ·rintro b a w ⟨v956, ha, HM⟩ hb hon hoff K hK
      replace ha := Aside0.mk ha
      have e26 := PE ha 1 hon
      refine ST (eC (some 27) rfl #[.int .i64 a0_0] rfl Try.func62 (impl_NumText.calls kj13 a0_0 t953 _ A21.out) ?_ (hargs := by (simp only [List.map_toArray, List.map_cons, List.map_nil, evc, eval_of e26]) <;> rfl))
      rintro e w36 ⟨rfl, hR⟩
      refine ⟨_, rfl, ?_⟩
      replace HM := HM.call hR
      clear hR
      exact hK.out _ _ ⟨v956, PUT ha 2 hb, (HM).pick [0, 1]⟩
     refine SZ ?_ ?_
     ·rintro b a w ⟨v956, ha, HM⟩ hb hon hoff K hK
      replace ha := Aside0.mk ha
      have e1 := PG ha 1
      exact VL (.pointer (some ⟨gb949, 1, none⟩)) (hK.out _ _ ⟨v956, PUT ha 3 hb, HM⟩)
     refine SZ ?_ ?_
     ·rintro b a w ⟨v956, ha, HM⟩ hb hon hoff K hK
      replace ha := Aside0.mk ha
      obtain ⟨_,_,_,_,_,_,_,_,_,_⟩ := bk5 (HM.bx 0 rfl)
      have e28 := PE ha 3 hon
      exact VL (.int .i64 a0_1) (hK.out _ _ ⟨v956, PUT ha 4 hb, HM⟩)
     refine SZ ?_ ?_
     ·rintro b a w ⟨v956, ha, HM⟩ hb hon hoff K hK
      replace ha := Aside0.mk ha
      have e29 := PE ha 4 hon
      refine ST (eC (some 30) rfl #[.int .i64 a0_1] rfl Try.func62 (impl_NumText.calls kj13 a0_1 t954 _ A22.out) ?_ (hargs := by (simp only [List.map_toArray, List.map_cons, List.map_nil, evc, eval_of e29]) <;> rfl))
      rintro e w38 ⟨rfl, hR⟩
      refine ⟨_, rfl, ?_⟩
      replace HM := HM.call hR
      clear hR
      exact hK.out _ _ ⟨v956, PUT ha 5 hb, (HM).pick [0, 1]⟩
     refine SZ ?_ ?_
     ·rintro b a w ⟨v956, ha, HM⟩ hb hon hoff K hK
      replace ha := Aside0.mk ha
      have e27 := PE ha 2 hon
      have e30 := PE ha 5 hon
      refine ST (eL 31 Kd.string 9 ([(⟨#[116, 104, 114, 101, 101]⟩ : ByteArray), t953, t954] : List ByteArray) [.string (⟨#[116, 104, 114, 101, 101]⟩ : ByteArray), .string t953, .string t954] (Reps.one (show Kd.M Kd.string _ _ _ (⟨#[116, 104, 114, 101, 101]⟩ : ByteArray) [.string (⟨#[116, 104, 114, 101, 101]⟩ : ByteArray)] from rfl) (Reps.one (show Kd.M Kd.string _ _ _ t953 [.string t953] from rfl) (Reps.one (show Kd.M Kd.string _ _ _ t954 [.string t954] from rfl) (Reps.none _ _)))) HM rfl ?_)
      clear HM
      intro v956 w39 HM
      exact hK.out _ _ ⟨v956, PUT ha 6 hb, (HM).pick [0, 2]⟩
     refine SZ ?_ ?_
     ·rintro b a w ⟨v956, ha, HM⟩ hb hon hoff K hK
      replace ha := Aside0.mk ha
      replace HM := HM.sT 1 rfl (hon 6 rfl)
      obtain ⟨Xo41, ko41, rfl⟩ := HM.rdR 1 rfl
      have e31 := PE ha 6 hon
      refine ST (eC (some 32) rfl #[.slice Xo41 (([(⟨#[116, 104, 114, 101, 101]⟩ : ByteArray), t953, t954] : List ByteArray)).length ko41] rfl Try.func61 (impl_glued.calls kj13 _ _ (([(⟨#[116, 104, 114, 101, 101]⟩ : ByteArray), t953, t954] : List ByteArray)) t958 _ (HM.CR 1 rfl).2.2 (HM.CR 1 rfl).2.1 A23.out) ?_ (hargs := by (simp only [List.map_toArray, List.map_cons, List.map_nil, evc, eval_of e31]) <;> rfl))
      rintro e w40 ⟨rfl, hd⟩
      refine ⟨_, rfl, ?_⟩
      replace HM := HM.drawn hd
      clear hd
      exact hK.out _ _ ⟨.slice Xo41 (([(⟨#[116, 104, 114, 101, 101]⟩ : ByteArray), t953, t954] : List ByteArray)).length ko41, PUT ha 7 hb, (HM.iT 1 rfl (hon 6 rfl)).pick [0, 1]⟩
     refine SZ ?_ ?_
     ·rintro b a w ⟨v956, ha, HM⟩ hb hon hoff K hK
      replace ha := Aside0.mk ha
      have e32 := PE ha 7 hon
      exact VL (.string (t958 ++ (⟨#[10]⟩ : ByteArray))) (hK.out _ _ ⟨v956, PUT ha 8 hb, HM⟩)
     refine SZ ?_ ?_
     ·rintro b a w ⟨v956, ha, HM⟩ hb hon hoff K hK
      replace ha := Aside0.mk ha
      have e3 := PG ha 3
      exact VL (.string t950) (hK.out _ _ ⟨v956, PUT ha 9 hb, HM⟩)
     refine SZ ?_ ?_
     ·rintro b a w ⟨v956, ha, HM⟩ hb hon hoff K hK
      replace ha := Aside0.mk ha
      have e33 := PE ha 8 hon
      have e34 := PE ha 9 hon
      exact VL (.string ((t958 ++ (⟨#[10]⟩ : ByteArray)) ++ t950)) (hK.out _ _ ⟨v956, PUT ha 10 hb, HM⟩)
     refine SZ ?_ ?_
     ·rintro b a w ⟨v956, ha, HM⟩ hb hon hoff K hK
      replace ha := Aside0.mk ha
      have e4 := PG ha 4
      exact VL (.string t951) (hK.out _ _ ⟨v956, PUT ha 11 hb, HM⟩)
     refine SZ ?_ ?_
     ·rintro b a w ⟨v956, ha, HM⟩ hb hon hoff K hK
      replace ha := Aside0.mk ha
      have e35 := PE ha 10 hon
      have e36 := PE ha 11 hon
      exact VL (.string (((t958 ++ (⟨#[10]⟩ : ByteArray)) ++ t950) ++ t951)) (hK.out _ _ ⟨v956, PUT ha 12 hb, HM⟩)
     refine SZ ?_ ?_
     ·rintro b a w ⟨v956, ha, HM⟩ hb hon hoff K hK
      replace ha := Aside0.mk ha
      have e37 := PE ha 12 hon
      exact VL (.string ((((t958 ++ (⟨#[10]⟩ : ByteArray)) ++ t950) ++ t951) ++ (⟨#[103, 104, 111, 115, 116]⟩ : ByteArray))) (hK.out _ _ ⟨v956, PUT ha 13 hb, HM⟩)
     refine SZ ?_ ?_
     ·rintro b a w ⟨v956, ha, HM⟩ hb hon hoff K hK
      replace ha := Aside0.mk ha
      have e38 := PE ha 13 hon
      exact VL (.string ((((t958 ++ (⟨#[10]⟩ : ByteArray)) ++ t950) ++ t951) ++ (⟨#[103, 104, 111, 115, 116]⟩ : ByteArray))) (hK.out _ _ ⟨v956, PUT ha 14 hb, HM⟩)
     exact steps_nil
    rintro _ w42 ⟨v956, rfl, HM⟩
    replace HM := HM.sT 1 rfl rfl
    simp only [putSel, if_true, Act.put, List.setIfInBounds_toArray, List.set_cons_zero, List.set_cons_succ, gt_iff_lt, ge_iff_le]
    have H' := Aside0.mk H
    clear H
    obtain ⟨_,_,_,_,_,_,_,_,_,_⟩ := bk5 (HM.bx 0 rfl)
    go_wp2
    go_loopg [5, 42] kj13 (fun kq v5 v42 w' => ∃ (x5_2 : ByteArray) (x42_2 : Int), v5 = .string x5_2 ∧ v42 = .int .i64 x42_2 ∧ Aside0 (impl_ThreeText.l0 kq x5_2 l0_4 (l0_4.length : Int) x42_2 = some r) ∧ Aside0 (kq ≤ kj13) ∧ Mem w [] w' [box 32 gb949 [.int .i64 a0_0, .int .i64 a0_1, .slice A0_2 l0_2.length c0_2, .slice A0_3 l0_3.length c0_3, .slice A0_4 l0_4.length c0_4]])
    case atStart => exact ⟨((((t958 ++ (⟨#[10]⟩ : ByteArray)) ++ t950) ++ t951) ++ (⟨#[103, 104, 111, 115, 116]⟩ : ByteArray)), (0), RS, RS, H', ⟨Nat.le_refl _⟩, (MD HM).pick [0]⟩
    case round =>
     clear H' HM
     obtain ⟨x5_2, x42_2, rfl, rfl, HA, HK2, HM⟩ := hrel
     cases gk with
     | zero => exact absurd HA.out (by simp [impl_ThreeText.l0])
     | succ k2 =>
      have H := HA.out
      clear HA
      simp only [impl_ThreeText.l0] at H
      go_upto_if 43 with (fail)
      replace H := IT H; rcases H with ⟨c44, H⟩ | ⟨c44, H⟩
      ·have c44b0 := decide_eq_true c44
       clear c44
       first|rw [c44b0]|(simp only [i64_w, i32_w]; rw [c44b0])|skip
       replace H := GD H; obtain ⟨c45, H⟩ := H
       have c45b0 := decide_eq_true c45
       clear c45
       replace H := GD H; obtain ⟨c46, H⟩ := H
       have c46b0 := decide_eq_true c46
       clear c46
       replace H := GD H; obtain ⟨c47, H⟩ := H
       have c47b0 := eq_true c47
       have c47b1 : decide (x5_2.size + 1 ≤ 9223372036854775807) = true := decide_eq_true c47
       try have c47b2 : (9223372036854775807 < x5_2.size + 1) = False := eq_false (Nat.not_lt.2 c47)
       replace H := BN H; obtain ⟨t960, A48, H⟩ := H
       replace H := GD H; obtain ⟨c50, H⟩ := H
       have c50b0 := eq_true c50
       have c50b1 : decide (x5_2.size + 1 + t960.size ≤ 9223372036854775807) = true := decide_eq_true c50
       try have c50b2 : (9223372036854775807 < x5_2.size + 1 + t960.size) = False := eq_false (Nat.not_lt.2 c50)
       have H' := Aside0.mk H
       clear H
       have p959 : 0 ≤ (x42_2 : Int) := of_decide_eq_true AS
       have q959 : (x42_2 : Int) < (l0_4.length : Int) := of_decide_eq_true AS
       obtain ⟨ad959, e959, hx959_0⟩ := Kd.at_int (HM.came HR0_4.out) x42_2 p959 q959
       cases e959
       replace p959 := eq_true p959
       replace q959 := eq_true q959
       go_wp2_with (first | ((with_reducible refine gC 62 rfl ?_); refine pC (some 49) rfl #[.int .i64 (rd l0_4 x42_2)] rfl Try.func62 (impl_NumText.calls k2 (rd l0_4 x42_2) t960 _ A48.out) ?_; rintro e w49 ⟨rfl, hR⟩; refine ⟨_, rfl, ?_⟩; replace HM := HM.call hR; clear hR))
       go_roundg k2
       case measure => have := HJ13.out; have := HK2.out; omega
       case rel => exact ⟨((x5_2 ++ (⟨#[32]⟩ : ByteArray)) ++ t960), (wrap64 (x42_2 + 1)), RS, RS, H', ⟨by have := HJ13.out; have := HK2.out; omega⟩, (MD HM).pick [0]⟩
      ·have c44b0 := decide_eq_false c44
       clear c44
       first|rw [c44b0]|(simp only [i64_w, i32_w]; rw [c44b0])|skip
       replace H := GD H; obtain ⟨c51, H⟩ := H
       have c51b0 := eq_true c51
       have c51b1 : decide (x5_2.size + 1 ≤ 9223372036854775807) = true := decide_eq_true c51
       try have c51b2 : (9223372036854775807 < x5_2.size + 1) = False := eq_false (Nat.not_lt.2 c51)
       obtain rfl := Option.some.inj H
       go_wp2
       go_ret
       exact ⟨ER, (MD HM).pick []⟩
def impl_numbers.l0 : Nat → ByteArray → List ByteArray → List Int → List ByteArray → Int → Int → Option (List Int × Bool)
 | 0, _, _, _, _, _, _ => none
 | k + 1, x1, x6, x7, x16, x17, x18 => if x18 < x17 then (if 0 ≤ x18 then (if x18 < (x16.length : Int) then ((impl_TextNum.f k (rdOf ByteArray.empty x16 x18)).bind fun bt972 => (if bt972.2 = true then (if x7.length < 17592186044416 then (impl_numbers.l0 k x1 x6 (x7 ++ [bt972.1]) x16 x17 (wrap64 (x18 + 1))) else (none)) else (some (([] : List Int), false)))) else (none)) else (none)) else (if 0 < (x6.length : Int) then (some (x7, ((rdOf ByteArray.empty x6 0).toList == x1.toList))) else (none))
def impl_numbers.f (k : Nat) (a0 : ByteArray) (a1 : ByteArray) : Option (List Int × Bool) := (impl_Cut.f k a0).bind fun t961 => (if 1 ≤ (t961.length : Int) then ((some (t961.tail : List ByteArray)).bind fun y967 => (impl_numbers.l0 k a1 t961 (([] : List Int)) y967 (y967.length : Int) 0)) else (none))
theorem impl_numbers.calls (k : Nat) (a0 : ByteArray) (a1 : ByteArray) (r1 : List Int) (r2 : Bool) (w : World)  (h : impl_numbers.f k a0 a1 = some (r1, r2)) :
  Calls Try.prog 64 #[.string a0, .string a1] w fun e w' => ∃ v0_ : Value, e = .returned (.tuple #[v0_, .bool r2]) ∧ Mem w [] w' [rowR (Kd.int .i64) 3 v0_ r1] := by
 have HM := Mem.nil w
 have H := h
 clear h
 unfold impl_numbers.f at H
 go_enter Try.func64, Try.ntmps64
 replace H := BN H; obtain ⟨t961, A3, H⟩ := H
 replace H := GD H; obtain ⟨c6, H⟩ := H
 have c6b0 := eq_true c6
 have c6b1 : decide (1 ≤ (t961.length : Int)) = true := decide_eq_true c6
 clear c6
 replace H := BLt H; obtain ⟨_, rfl, H⟩ := H
 have H' := Aside0.mk H
 clear H
 go_wp2_with (first | ((with_reducible refine gC 69 rfl ?_); refine pC (some 13) rfl #[.string a0] rfl Try.func69 (impl_Cut.calls k a0 t961 _ A3.out) ?_; rintro e w4 ⟨v962, rfl, hR⟩; refine ⟨_, rfl, ?_⟩; replace HM := HM.call hR; clear hR) | ((with_reducible refine gN 14 rfl ?_); refine pL 14 (Kd.int .i64) 3 ([] : List Int) [] (Reps.none _ _) HM rfl ?_; clear HM; intro v965 w5 HM; obtain ⟨Xo7, ko7, rfl⟩ := HM.rdR 0 rfl) | ((with_reducible refine gate_sl (t := 47) rfl ?_); refine pRdf 47 9 Kd.string _ _ 1 t961 Xo7 ko7 rfl Try.underlying47 info9 (HM.CR 0 rfl).2.1 (by omega) (of_decide_eq_true AS) ?_; intro Yx8 bx8 hYx8 hbx8; simp only [Int.reduceToNat, List.drop_one] at hYx8 hbx8; have HYx8 := Aside0.mk hYx8; have HBx8 := Aside0.mk hbx8; clear hYx8 hbx8))
 repeat (go_quiet (first | ((with_reducible refine gC 69 rfl ?_); refine pC (some 13) rfl #[.string a0] rfl Try.func69 (impl_Cut.calls k a0 t961 _ A3.out) ?_; rintro e w4 ⟨v962, rfl, hR⟩; refine ⟨_, rfl, ?_⟩; replace HM := HM.call hR; clear hR) | ((with_reducible refine gN 14 rfl ?_); refine pL 14 (Kd.int .i64) 3 ([] : List Int) [] (Reps.none _ _) HM rfl ?_; clear HM; intro v965 w5 HM; obtain ⟨Xo7, ko7, rfl⟩ := HM.rdR 0 rfl) | ((with_reducible refine gate_sl (t := 47) rfl ?_); refine pRdf 47 9 Kd.string _ _ 1 t961 Xo7 ko7 rfl Try.underlying47 info9 (HM.CR 0 rfl).2.1 (by omega) (of_decide_eq_true AS) ?_; intro Yx8 bx8 hYx8 hbx8; simp only [Int.reduceToNat, List.drop_one] at hYx8 hbx8; have HYx8 := Aside0.mk hYx8; have HBx8 := Aside0.mk hbx8; clear hYx8 hbx8)); try go_wp2_with (first | ((with_reducible refine gC 69 rfl ?_); refine pC (some 13) rfl #[.string a0] rfl Try.func69 (impl_Cut.calls k a0 t961 _ A3.out) ?_; rintro e w4 ⟨v962, rfl, hR⟩; refine ⟨_, rfl, ?_⟩; replace HM := HM.call hR; clear hR) | ((with_reducible refine gN 14 rfl ?_); refine pL 14 (Kd.int .i64) 3 ([] : List Int) [] (Reps.none _ _) HM rfl ?_; clear HM; intro v965 w5 HM; obtain ⟨Xo7, ko7, rfl⟩ := HM.rdR 0 rfl) | ((with_reducible refine gate_sl (t := 47) rfl ?_); refine pRdf 47 9 Kd.string _ _ 1 t961 Xo7 ko7 rfl Try.underlying47 info9 (HM.CR 0 rfl).2.1 (by omega) (of_decide_eq_true AS) ?_; intro Yx8 bx8 hYx8 hbx8; simp only [Int.reduceToNat, List.drop_one] at hYx8 hbx8; have HYx8 := Aside0.mk hYx8; have HBx8 := Aside0.mk hbx8; clear hYx8 hbx8)))
 go_loopg [7, 18] k (fun kq v7 v18 w' => ∃ (x7_1 : List Int) (x18_1 : Int), v18 = .int .i64 x18_1 ∧ Aside0 (impl_numbers.l0 kq a1 t961 x7_1 (t961.tail) ((t961.tail).length : Int) x18_1 = some (r1, r2)) ∧ Aside0 (kq ≤ k) ∧ Mem w [] w' [rowR Kd.string 9 (.slice Xo7 t961.length ko7) t961, rowR (Kd.int .i64) 3 v7 x7_1])
 case atStart => exact ⟨((([] : List Int))), (0), RS, H', ⟨Nat.le_refl _⟩, (MD HM).pick [0, 1]⟩
 case round =>
  clear H' HM
  obtain ⟨x7_1, x18_1, rfl, HA, HK1, HM⟩ := hrel
  cases gk with
  | zero => exact absurd HA.out (by simp [impl_numbers.l0])
  | succ k1 =>
   have H := HA.out
   clear HA
   simp only [impl_numbers.l0] at H
   go_upto_if 19 with (fail)
   repeat (go_quiet (fail); go_upto_if 19 with (fail))
   replace H := IT H; rcases H with ⟨c9, H⟩ | ⟨c9, H⟩
   ·have c9b0 := decide_eq_true c9
    have c9b5 := c9b0
    simp only [List.length_tail] at c9b5
    clear c9
    first|rw [c9b0]|rw [c9b5]|(simp only [i64_w, i32_w]; rw [c9b0])|skip
    replace H := GD H; obtain ⟨c10, H⟩ := H
    have c10b0 := decide_eq_true c10
    clear c10
    replace H := GD H; obtain ⟨c11, H⟩ := H
    have c11b0 := decide_eq_true c11
    have c11b5 := c11b0
    simp only [List.length_tail] at c11b5
    clear c11
    replace H := BN H; obtain ⟨⟨t972, t973⟩, A12, H⟩ := H
    have p971 : 0 ≤ (x18_1 : Int) := of_decide_eq_true AS
    have q971 : (x18_1 : Int) < ((t961.tail).length : Int) := of_decide_eq_true AS
    obtain ⟨ad971, e971, hx971_0⟩ := Kd.at_string (HYx8.out _ (HM.CR 0 rfl).2.2) x18_1 p971 q971
    cases e971
    replace p971 := eq_true p971
    replace q971 := eq_true q971
    have qt971 := q971
    simp only [List.length_tail] at qt971
    go_upto_if 28 with (first | ((with_reducible refine gC 115 rfl ?_); refine pC (some 24) rfl #[.string (rdOf ByteArray.empty (t961.tail) x18_1)] rfl Try.func115 (impl_TextNum.calls k1 (rdOf ByteArray.empty (t961.tail) x18_1) t972 t973 _ A12.out) ?_; rintro e w13 ⟨rfl, hR⟩; refine ⟨_, rfl, ?_⟩; replace HM := HM.call hR; clear hR))
    repeat (go_quiet (first | ((with_reducible refine gC 115 rfl ?_); refine pC (some 24) rfl #[.string (rdOf ByteArray.empty (t961.tail) x18_1)] rfl Try.func115 (impl_TextNum.calls k1 (rdOf ByteArray.empty (t961.tail) x18_1) t972 t973 _ A12.out) ?_; rintro e w13 ⟨rfl, hR⟩; refine ⟨_, rfl, ?_⟩; replace HM := HM.call hR; clear hR)); go_upto_if 28 with (first | ((with_reducible refine gC 115 rfl ?_); refine pC (some 24) rfl #[.string (rdOf ByteArray.empty (t961.tail) x18_1)] rfl Try.func115 (impl_TextNum.calls k1 (rdOf ByteArray.empty (t961.tail) x18_1) t972 t973 _ A12.out) ?_; rintro e w13 ⟨rfl, hR⟩; refine ⟨_, rfl, ?_⟩; replace HM := HM.call hR; clear hR)))
    replace H := IB H
    rcases H with ⟨c14, H⟩ | ⟨c14, H⟩
    ·subst c14
     replace H := GD H; obtain ⟨c15, H⟩ := H
     have LMc15 := Aside0.mk c15
     clear c15
     have H' := Aside0.mk H
     clear H
     go_wp2_with (first | ((with_reducible refine gN 31 rfl ?_); refine pL 31 (Kd.int .i64) 3 [t972] [.int .i64 t972] (Reps.one (show Kd.M (Kd.int .i64) _ _ _ t972 [.int .i64 t972] from rfl) (Reps.none _ _)) HM rfl ?_; clear HM; intro v17 w16 HM; obtain ⟨Xv17, kv17, rfl⟩ := HM.rdR 2 rfl) | ((with_reducible refine gate_builtin (b := .append) (xs := #[.tmp 29, .tmp 31]) rfl ?_); refine pA 1 (.tmp 29) (.tmp 31) 30 3 (Kd.int .i64) u7 x7_1 [t972] Xv17 ([t972].length) kv17 HM rfl Try.underlying30 info3 rfl (HM.CR 2 rfl).2.2 (by have h_ := LMc15.out; simp only [List.length_singleton]; omega) ?_; clear HM; intro v975 w18 HM))
     repeat (go_quiet (first | ((with_reducible refine gN 31 rfl ?_); refine pL 31 (Kd.int .i64) 3 [t972] [.int .i64 t972] (Reps.one (show Kd.M (Kd.int .i64) _ _ _ t972 [.int .i64 t972] from rfl) (Reps.none _ _)) HM rfl ?_; clear HM; intro v17 w16 HM; obtain ⟨Xv17, kv17, rfl⟩ := HM.rdR 2 rfl) | ((with_reducible refine gate_builtin (b := .append) (xs := #[.tmp 29, .tmp 31]) rfl ?_); refine pA 1 (.tmp 29) (.tmp 31) 30 3 (Kd.int .i64) u7 x7_1 [t972] Xv17 ([t972].length) kv17 HM rfl Try.underlying30 info3 rfl (HM.CR 2 rfl).2.2 (by have h_ := LMc15.out; simp only [List.length_singleton]; omega) ?_; clear HM; intro v975 w18 HM)); try go_wp2_with (first | ((with_reducible refine gN 31 rfl ?_); refine pL 31 (Kd.int .i64) 3 [t972] [.int .i64 t972] (Reps.one (show Kd.M (Kd.int .i64) _ _ _ t972 [.int .i64 t972] from rfl) (Reps.none _ _)) HM rfl ?_; clear HM; intro v17 w16 HM; obtain ⟨Xv17, kv17, rfl⟩ := HM.rdR 2 rfl) | ((with_reducible refine gate_builtin (b := .append) (xs := #[.tmp 29, .tmp 31]) rfl ?_); refine pA 1 (.tmp 29) (.tmp 31) 30 3 (Kd.int .i64) u7 x7_1 [t972] Xv17 ([t972].length) kv17 HM rfl Try.underlying30 info3 rfl (HM.CR 2 rfl).2.2 (by have h_ := LMc15.out; simp only [List.length_singleton]; omega) ?_; clear HM; intro v975 w18 HM)))
     go_roundg k1
     case measure => have := HK1.out; omega
     case rel => exact ⟨((x7_1 ++ [t972])), (wrap64 (x18_1 + 1)), RS, H', ⟨by have := HK1.out; omega⟩, (MD HM).pick [0, 1]⟩
    ·subst c14
     simp only [Option.some.injEq, Prod.mk.injEq] at H
     obtain ⟨rfl, rfl⟩ := H
     replace HM := HM.nl (Kd.int .i64) 3
     go_wp2
     repeat (go_quiet (fail); try go_wp2_with (fail))
     go_ret2
     exact ⟨_, ER, (MD HM).pick [2]⟩
   ·have c9b0 : decide (x18_1 < ((t961.tail).length : Int)) = false := decide_eq_false c9
    have c9b5 := c9b0
    simp only [List.length_tail] at c9b5
    clear c9
    first|rw [c9b0]|rw [c9b5]|(simp only [i64_w, i32_w]; rw [c9b0])|skip
    replace H := GD H; obtain ⟨c19, H⟩ := H
    replace c19 : 0 < (t961.length : Int) := c19
    have c19b0 : decide (0 < (t961.length : Int)) = true := decide_eq_true c19
    have c19b1 : decide (0 < t961.length) = true := decide_eq_true (by omega)
    have c19b9 : decide (0 < t961.length) = true := decide_eq_true (by omega)
    clear c19
    simp only [Option.some.injEq, Prod.mk.injEq] at H
    obtain ⟨rfl, rfl⟩ := H
    have p977 : 0 ≤ (0 : Int) := (by omega)
    have q977 : (0 : Int) < (t961.length : Int) := of_decide_eq_true AS
    obtain ⟨ad977, e977, hx977_0⟩ := Kd.at_string (HM.CR 0 rfl).2.2 0 p977 q977
    cases e977
    have qi977 : (0 < t961.length) = True := eq_true (by omega)
    (try rw [show ((0 : Int)).toNat = 0 from rfl] at hx977_0)
    (try rw [Addr.add_zero'] at hx977_0)
    replace p977 := eq_true p977
    replace q977 := eq_true q977
    go_wp2
    repeat (go_quiet (fail); try go_wp2_with (fail))
    go_ret2
    exact ⟨_, ER, (MD HM).pick [1]⟩
end Go.Proofs.Ythnedklbobbkcaa.G

namespace Go.Proofs.Ythnedklbobbkcaa.G
open Go.RowKit Go.Proofs.YthnedklbobbkcaaW.PrintWords Go.Proofs.YthnedklbobbkcaaW.PrintLast Go.Proofs.YthnedklbobbkcaaW.PrintMore Go.Proofs.Ythnedklbobbkcaa.Sh
attribute [local go_sem] max2_int min2_int max_two min_two max_three min_three max_four min_four
set_option linter.unusedVariables false
set_option linter.unusedSimpArgs false
open Go.Proofs.Ythnedklbobbkcaa.Man
open Go.Proofs.Ythnedklbobbkcaa.CutL
def strings_Cut.f (a0 : ByteArray) (a1 : ByteArray) : Option (ByteArray × ByteArray × Bool) := if a0.size < 4294967281 then (if a1 = (⟨#[61]⟩ : ByteArray) then some (cutAt a0 61) else if a1 = (⟨#[42]⟩ : ByteArray) then some (cutAt a0 42) else none) else none
theorem strings_Cut.one (a0 : ByteArray) (c : UInt8) (w : World) (hs : a0.size < 4294967281) :
  Calls Try.prog 173 #[.string a0, .string ⟨#[c]⟩] w fun e w' => e = .returned (.tuple #[.string (cutAt a0 c).1, .string (cutAt a0 c).2.1, .bool (cutAt a0 c).2.2]) ∧ Below w.heap.size w w' := by
 have hc := cut_one a0 c w hs
 clear hs
 obtain ⟨⟨x, y, z⟩, hr⟩ : ∃ r, r = cutAt a0 c := ⟨_, rfl⟩
 rw [← hr] at hc ⊢
 clear hr
 go_enter Try.func173, Try.ntmps173
 go_wp2_with fail
 refine hc.mono ?_
 rintro e w' ⟨rfl, hb⟩
 have HB := Aside0.mk hb
 clear hb hc
 go_wp2
 go_ret3
 exact ⟨rfl, HB.out⟩
theorem strings_Cut.calls (a0 : ByteArray) (a1 : ByteArray) (r1 : ByteArray) (r2 : ByteArray) (r3 : Bool) (w : World) (h : strings_Cut.f a0 a1 = some (r1, r2, r3)) :
  Calls Try.prog 173 #[.string a0, .string a1] w fun e w' => e = .returned (.tuple #[.string r1, .string r2, .bool r3]) ∧ Below w.heap.size w w' := by
 unfold strings_Cut.f at h
 by_cases c : a0.size < 4294967281
 rotate_left
 ·rw [if_neg c] at h; cases h
 rw [if_pos c] at h
 by_cases c1 : a1 = (⟨#[61]⟩ : ByteArray)
 ·rw [if_pos c1] at h
  have h := Option.some.inj h
  subst c1
  have hh := strings_Cut.one a0 61 w c
  rw [h] at hh
  exact hh
 rw [if_neg c1] at h
 by_cases c2 : a1 = (⟨#[42]⟩ : ByteArray)
 ·rw [if_pos c2] at h
  have h := Option.some.inj h
  subst c2
  have hh := strings_Cut.one a0 42 w c
  rw [h] at hh
  exact hh
 rw [if_neg c2] at h; cases h
end Go.Proofs.Ythnedklbobbkcaa.G

namespace Go.Proofs.Ythnedklbobbkcaa.G
open Go.RowKit Go.Proofs.YthnedklbobbkcaaW.PrintWords Go.Proofs.YthnedklbobbkcaaW.PrintLast Go.Proofs.YthnedklbobbkcaaW.PrintMore Go.Proofs.Ythnedklbobbkcaa.Sh
attribute [local go_sem] max2_int min2_int max_two min_two max_three min_three max_four min_four
set_option linter.unusedVariables false
set_option linter.unusedSimpArgs false
open Go.Proofs.Ythnedklbobbkcaa.Mm
def impl_TextItem.f (k : Nat) (a0 : ByteArray) : Option (ByteArray × ByteArray × Int × Bool) := (strings_Cut.f a0 (⟨#[61]⟩ : ByteArray)).bind fun bt984 => ((strings_Cut.f bt984.2.1 (⟨#[42]⟩ : ByteArray)).bind fun bt987 => ((impl_TextNum.f k bt987.2.1).bind fun bt990 => (if bt984.2.2 = true then (if bt987.2.2 = true then (if bt990.2 = true then ((impl_ItemText.f k bt984.1 bt987.1 bt990.1).bind fun t993 => (if t993.toList = a0.toList then (some (bt984.1, bt987.1, bt990.1, true)) else (some ((⟨#[]⟩ : ByteArray), (⟨#[]⟩ : ByteArray), 0, false)))) else (some ((⟨#[]⟩ : ByteArray), (⟨#[]⟩ : ByteArray), 0, false))) else (some ((⟨#[]⟩ : ByteArray), (⟨#[]⟩ : ByteArray), 0, false))) else (some ((⟨#[]⟩ : ByteArray), (⟨#[]⟩ : ByteArray), 0, false)))))
theorem impl_TextItem.calls (k : Nat) (a0 : ByteArray) (r1 : ByteArray) (r2 : ByteArray) (r3 : Int) (r4 : Bool) (w : World)  (h : impl_TextItem.f k a0 = some (r1, r2, r3, r4)) :
  Calls Try.prog 125 #[.string a0] w fun e w' => e = .returned (.tuple #[.agg #[.string r1, .string r2, .int .i64 r3], .bool r4]) ∧ Mem w [] w' [] := by
 have hu122 := Try.underlying122
 have HM := Mem.nil w
 have H := h
 clear h
 unfold impl_TextItem.f at H
 go_enter Try.func125, Try.ntmps125
 replace H := BN H; obtain ⟨⟨t984, t985, t986⟩, A3, H⟩ := H
 replace H := BN H; obtain ⟨⟨t987, t988, t989⟩, A5, H⟩ := H
 replace H := BN H; obtain ⟨⟨t990, t991⟩, A7, H⟩ := H
 replace H := IB H
 rcases H with ⟨c11, H⟩ | ⟨c11, H⟩
 ·subst c11
  replace H := IB H
  rcases H with ⟨c12, H⟩ | ⟨c12, H⟩
  ·subst c12
   replace H := IB H
   rcases H with ⟨c13, H⟩ | ⟨c13, H⟩
   ·subst c13
    replace H := BN H; obtain ⟨t993, A15, H⟩ := H
    go_upto_if 49 with (first | ((with_reducible refine gN 2 rfl ?_); refine pB 2 122 [.string (⟨#[]⟩ : ByteArray), .string (⟨#[]⟩ : ByteArray), .int .i64 0] HM rfl ?_; clear HM; intro gb983 w2 HM) | ((with_reducible refine gC 173 rfl ?_); refine pC (some 15) rfl #[.string a0, .string (⟨#[61]⟩ : ByteArray)] rfl Try.func173 (strings_Cut.calls a0 (⟨#[61]⟩ : ByteArray) t984 t985 true _ A3.out) ?_; rintro e w4 ⟨rfl, hb⟩; refine ⟨_, rfl, ?_⟩; replace HM := HM.below hb; clear hb) | ((with_reducible refine gC 173 rfl ?_); refine pC (some 21) rfl #[.string t985, .string (⟨#[42]⟩ : ByteArray)] rfl Try.func173 (strings_Cut.calls t985 (⟨#[42]⟩ : ByteArray) t987 t988 true _ A5.out) ?_; rintro e w6 ⟨rfl, hb⟩; refine ⟨_, rfl, ?_⟩; replace HM := HM.below hb; clear hb) | ((with_reducible refine gC 115 rfl ?_); refine pC (some 27) rfl #[.string t988] rfl Try.func115 (impl_TextNum.calls k t988 t990 true _ A7.out) ?_; rintro e w8 ⟨rfl, hR⟩; refine ⟨_, rfl, ?_⟩; replace HM := HM.call hR; clear hR) | ((with_reducible refine gN 12 rfl ?_); refine pB 12 122 [.string (⟨#[]⟩ : ByteArray), .string (⟨#[]⟩ : ByteArray), .int .i64 0] HM rfl ?_; clear HM; intro gb992 w9 HM) | ((with_reducible refine gS 12 rfl ?_); refine pS 1 12 0 [.string t984, .string t987, .int .i64 t990] HM rfl rfl ?_; clear HM; intro w10 HM; obtain ⟨_,_,_,_,_,_⟩ := bk3 (HM.bx 1 rfl)) | ((with_reducible refine gC 119 rfl ?_); refine pC (some 46) rfl #[.agg #[.string t984, .string t987, .int .i64 t990]] rfl Try.func119 (impl_ItemText.calls k t984 t987 t990 t993 _ A15.out) ?_; rintro e w16 ⟨rfl, hR⟩; refine ⟨_, rfl, ?_⟩; replace HM := HM.call hR; clear hR))
    replace HM := nzM HM
    replace H := IT H; rcases H with ⟨c17, H⟩ | ⟨c17, H⟩
    ·have c17b0 : (t993.toList == a0.toList) = true := beq_iff_eq.mpr c17
     have c17b1 : (t993.toList != a0.toList) = false := bne_eq_false_iff_eq.mpr c17
     clear c17
     first|rw [c17b0]|(simp only [i64_w, i32_w]; rw [c17b0])|skip
     simp only [Option.some.injEq, Prod.mk.injEq] at H
     obtain ⟨rfl, rfl, rfl, rfl⟩ := H
     obtain ⟨_,_,_,_,_,_⟩ := bk3 (HM.bx 1 rfl)
     go_wp2_with (first | ((with_reducible refine gS 2 rfl ?_); refine pS 0 2 0 [.string t984, .string t987, .int .i64 t990] HM rfl rfl ?_; clear HM; intro w19 HM))
     refine bodyPost_ret (results_ct rfl _ _ gb983 122 #[.string t984, .string t987, .int .i64 t990] (0, 0) _ rfl (HM.bx 0 rfl) Try.underlying122 rfl (by kernel_rfl)) rfl ?_
     exact ⟨ER, (MD HM).pick []⟩
    ·have c17b0 : (t993.toList == a0.toList) = false := beq_eq_false_iff_ne.mpr c17
     have c17b1 : (t993.toList != a0.toList) = true := bne_iff_ne.mpr c17
     first|rw [c17b0]|(simp only [i64_w, i32_w]; rw [c17b0])|skip
     simp only [Option.some.injEq, Prod.mk.injEq] at H
     obtain ⟨rfl, rfl, rfl, rfl⟩ := H
     go_wp2_with (first | ((with_reducible refine gS 2 rfl ?_); refine pS 0 2 0 [.string (⟨#[]⟩ : ByteArray), .string (⟨#[]⟩ : ByteArray), .int .i64 0] HM rfl rfl ?_; clear HM; intro w20 HM))
     refine bodyPost_ret (results_ct rfl _ _ gb983 122 #[.string (⟨#[]⟩ : ByteArray), .string (⟨#[]⟩ : ByteArray), .int .i64 0] (0, 0) _ rfl (HM.bx 0 rfl) Try.underlying122 rfl (by kernel_rfl)) rfl ?_
     exact ⟨ER, (MD HM).pick []⟩
   ·subst c13
    simp only [Option.some.injEq, Prod.mk.injEq] at H
    obtain ⟨rfl, rfl, rfl, rfl⟩ := H
    go_wp2_with (first | ((with_reducible refine gN 2 rfl ?_); refine pB 2 122 [.string (⟨#[]⟩ : ByteArray), .string (⟨#[]⟩ : ByteArray), .int .i64 0] HM rfl ?_; clear HM; intro gb983 w2 HM) | ((with_reducible refine gC 173 rfl ?_); refine pC (some 15) rfl #[.string a0, .string (⟨#[61]⟩ : ByteArray)] rfl Try.func173 (strings_Cut.calls a0 (⟨#[61]⟩ : ByteArray) t984 t985 true _ A3.out) ?_; rintro e w4 ⟨rfl, hb⟩; refine ⟨_, rfl, ?_⟩; replace HM := HM.below hb; clear hb) | ((with_reducible refine gC 173 rfl ?_); refine pC (some 21) rfl #[.string t985, .string (⟨#[42]⟩ : ByteArray)] rfl Try.func173 (strings_Cut.calls t985 (⟨#[42]⟩ : ByteArray) t987 t988 true _ A5.out) ?_; rintro e w6 ⟨rfl, hb⟩; refine ⟨_, rfl, ?_⟩; replace HM := HM.below hb; clear hb) | ((with_reducible refine gC 115 rfl ?_); refine pC (some 27) rfl #[.string t988] rfl Try.func115 (impl_TextNum.calls k t988 t990 false _ A7.out) ?_; rintro e w8 ⟨rfl, hR⟩; refine ⟨_, rfl, ?_⟩; replace HM := HM.call hR; clear hR) | ((with_reducible refine gN 12 rfl ?_); refine pB 12 122 [.string (⟨#[]⟩ : ByteArray), .string (⟨#[]⟩ : ByteArray), .int .i64 0] HM rfl ?_; clear HM; intro gb992 w9 HM) | ((with_reducible refine gS 12 rfl ?_); refine pS 1 12 0 [.string t984, .string t987, .int .i64 t990] HM rfl rfl ?_; clear HM; intro w10 HM) | ((with_reducible refine gS 2 rfl ?_); refine pS 0 2 0 [.string (⟨#[]⟩ : ByteArray), .string (⟨#[]⟩ : ByteArray), .int .i64 0] HM rfl rfl ?_; clear HM; intro w21 HM))
    refine bodyPost_ret (results_ct rfl _ _ gb983 122 #[.string (⟨#[]⟩ : ByteArray), .string (⟨#[]⟩ : ByteArray), .int .i64 0] (0, 0) _ rfl (HM.bx 0 rfl) Try.underlying122 rfl (by kernel_rfl)) rfl ?_
    exact ⟨ER, (MD HM).pick []⟩
  ·subst c12
   simp only [Option.some.injEq, Prod.mk.injEq] at H
   obtain ⟨rfl, rfl, rfl, rfl⟩ := H
   go_wp2_with (first | ((with_reducible refine gN 2 rfl ?_); refine pB 2 122 [.string (⟨#[]⟩ : ByteArray), .string (⟨#[]⟩ : ByteArray), .int .i64 0] HM rfl ?_; clear HM; intro gb983 w2 HM) | ((with_reducible refine gC 173 rfl ?_); refine pC (some 15) rfl #[.string a0, .string (⟨#[61]⟩ : ByteArray)] rfl Try.func173 (strings_Cut.calls a0 (⟨#[61]⟩ : ByteArray) t984 t985 true _ A3.out) ?_; rintro e w4 ⟨rfl, hb⟩; refine ⟨_, rfl, ?_⟩; replace HM := HM.below hb; clear hb) | ((with_reducible refine gC 173 rfl ?_); refine pC (some 21) rfl #[.string t985, .string (⟨#[42]⟩ : ByteArray)] rfl Try.func173 (strings_Cut.calls t985 (⟨#[42]⟩ : ByteArray) t987 t988 false _ A5.out) ?_; rintro e w6 ⟨rfl, hb⟩; refine ⟨_, rfl, ?_⟩; replace HM := HM.below hb; clear hb) | ((with_reducible refine gC 115 rfl ?_); refine pC (some 27) rfl #[.string t988] rfl Try.func115 (impl_TextNum.calls k t988 t990 t991 _ A7.out) ?_; rintro e w8 ⟨rfl, hR⟩; refine ⟨_, rfl, ?_⟩; replace HM := HM.call hR; clear hR) | ((with_reducible refine gN 12 rfl ?_); refine pB 12 122 [.string (⟨#[]⟩ : ByteArray), .string (⟨#[]⟩ : ByteArray), .int .i64 0] HM rfl ?_; clear HM; intro gb992 w9 HM) | ((with_reducible refine gS 12 rfl ?_); refine pS 1 12 0 [.string t984, .string t987, .int .i64 t990] HM rfl rfl ?_; clear HM; intro w10 HM) | ((with_reducible refine gS 2 rfl ?_); refine pS 0 2 0 [.string (⟨#[]⟩ : ByteArray), .string (⟨#[]⟩ : ByteArray), .int .i64 0] HM rfl rfl ?_; clear HM; intro w22 HM))
   refine bodyPost_ret (results_ct rfl _ _ gb983 122 #[.string (⟨#[]⟩ : ByteArray), .string (⟨#[]⟩ : ByteArray), .int .i64 0] (0, 0) _ rfl (HM.bx 0 rfl) Try.underlying122 rfl (by kernel_rfl)) rfl ?_
   exact ⟨ER, (MD HM).pick []⟩
 ·subst c11
  simp only [Option.some.injEq, Prod.mk.injEq] at H
  obtain ⟨rfl, rfl, rfl, rfl⟩ := H
  go_wp2_with (first | ((with_reducible refine gN 2 rfl ?_); refine pB 2 122 [.string (⟨#[]⟩ : ByteArray), .string (⟨#[]⟩ : ByteArray), .int .i64 0] HM rfl ?_; clear HM; intro gb983 w2 HM) | ((with_reducible refine gC 173 rfl ?_); refine pC (some 15) rfl #[.string a0, .string (⟨#[61]⟩ : ByteArray)] rfl Try.func173 (strings_Cut.calls a0 (⟨#[61]⟩ : ByteArray) t984 t985 false _ A3.out) ?_; rintro e w4 ⟨rfl, hb⟩; refine ⟨_, rfl, ?_⟩; replace HM := HM.below hb; clear hb) | ((with_reducible refine gC 173 rfl ?_); refine pC (some 21) rfl #[.string t985, .string (⟨#[42]⟩ : ByteArray)] rfl Try.func173 (strings_Cut.calls t985 (⟨#[42]⟩ : ByteArray) t987 t988 t989 _ A5.out) ?_; rintro e w6 ⟨rfl, hb⟩; refine ⟨_, rfl, ?_⟩; replace HM := HM.below hb; clear hb) | ((with_reducible refine gC 115 rfl ?_); refine pC (some 27) rfl #[.string t988] rfl Try.func115 (impl_TextNum.calls k t988 t990 t991 _ A7.out) ?_; rintro e w8 ⟨rfl, hR⟩; refine ⟨_, rfl, ?_⟩; replace HM := HM.call hR; clear hR) | ((with_reducible refine gN 12 rfl ?_); refine pB 12 122 [.string (⟨#[]⟩ : ByteArray), .string (⟨#[]⟩ : ByteArray), .int .i64 0] HM rfl ?_; clear HM; intro gb992 w9 HM) | ((with_reducible refine gS 12 rfl ?_); refine pS 1 12 0 [.string t984, .string t987, .int .i64 t990] HM rfl rfl ?_; clear HM; intro w10 HM) | ((with_reducible refine gS 2 rfl ?_); refine pS 0 2 0 [.string (⟨#[]⟩ : ByteArray), .string (⟨#[]⟩ : ByteArray), .int .i64 0] HM rfl rfl ?_; clear HM; intro w23 HM))
  refine bodyPost_ret (results_ct rfl _ _ gb983 122 #[.string (⟨#[]⟩ : ByteArray), .string (⟨#[]⟩ : ByteArray), .int .i64 0] (0, 0) _ rfl (HM.bx 0 rfl) Try.underlying122 rfl (by kernel_rfl)) rfl ?_
  exact ⟨ER, (MD HM).pick []⟩
def impl_items.l0 : Nat → ByteArray → List ByteArray → List (S122) → List ByteArray → Int → Int → Option ((List (S122)) × Bool)
 | 0, _, _, _, _, _, _ => none
 | k + 1, x1, x6, x7, x16, x17, x18 => if x18 < x17 then (if 0 ≤ x18 then (if x18 < (x16.length : Int) then ((impl_TextItem.f k (rdOf ByteArray.empty x16 x18)).bind fun bt1005 => (if bt1005.2.2.2 = true then (if x7.length < 3518437208883 then (impl_items.l0 k x1 x6 (x7 ++ [(⟨bt1005.1, bt1005.2.1, bt1005.2.2.1⟩ : S122)]) x16 x17 (wrap64 (x18 + 1))) else (none)) else (some (([] : List (S122)), false)))) else (none)) else (none)) else (if 0 < (x6.length : Int) then (some (x7, ((rdOf ByteArray.empty x6 0).toList == x1.toList))) else (none))
def impl_items.f (k : Nat) (a0 : ByteArray) (a1 : ByteArray) : Option ((List (S122)) × Bool) := (impl_Cut.f k a0).bind fun t994 => (if 1 ≤ (t994.length : Int) then ((some (t994.tail : List ByteArray)).bind fun y1000 => (impl_items.l0 k a1 t994 (([] : List (S122))) y1000 (y1000.length : Int) 0)) else (none))
theorem impl_items.calls (k : Nat) (a0 : ByteArray) (a1 : ByteArray) (r1 : List (S122)) (r2 : Bool) (w : World)  (h : impl_items.f k a0 a1 = some (r1, r2)) :
  Calls Try.prog 65 #[.string a0, .string a1] w fun e w' => ∃ v0_ : Value, e = .returned (.tuple #[v0_, .bool r2]) ∧ Mem w [] w' [rowR k122 122 v0_ r1] := by
 have hu122 := Try.underlying122
 have HM := Mem.nil w
 have H := h
 clear h
 unfold impl_items.f at H
 go_enter Try.func65, Try.ntmps65
 replace H := BN H; obtain ⟨t994, A3, H⟩ := H
 replace H := GD H; obtain ⟨c6, H⟩ := H
 have c6b0 := eq_true c6
 have c6b1 : decide (1 ≤ (t994.length : Int)) = true := decide_eq_true c6
 clear c6
 replace H := BLt H; obtain ⟨_, rfl, H⟩ := H
 have H' := Aside0.mk H
 clear H
 go_wp2_with (first | ((with_reducible refine gC 69 rfl ?_); refine pC (some 13) rfl #[.string a0] rfl Try.func69 (impl_Cut.calls k a0 t994 _ A3.out) ?_; rintro e w4 ⟨v995, rfl, hR⟩; refine ⟨_, rfl, ?_⟩; replace HM := HM.call hR; clear hR) | ((with_reducible refine gN 14 rfl ?_); refine pL 14 k122 122 ([] : List (S122)) [] (Reps.none _ _) HM rfl ?_; clear HM; intro v998 w5 HM; obtain ⟨Xo7, ko7, rfl⟩ := HM.rdR 0 rfl) | ((with_reducible refine gate_sl (t := 47) rfl ?_); refine pRdf 47 9 Kd.string _ _ 1 t994 Xo7 ko7 rfl Try.underlying47 info9 (HM.CR 0 rfl).2.1 (by omega) (of_decide_eq_true AS) ?_; intro Yx8 bx8 hYx8 hbx8; simp only [Int.reduceToNat, List.drop_one] at hYx8 hbx8; have HYx8 := Aside0.mk hYx8; have HBx8 := Aside0.mk hbx8; clear hYx8 hbx8))
 repeat (go_quiet (first | ((with_reducible refine gC 69 rfl ?_); refine pC (some 13) rfl #[.string a0] rfl Try.func69 (impl_Cut.calls k a0 t994 _ A3.out) ?_; rintro e w4 ⟨v995, rfl, hR⟩; refine ⟨_, rfl, ?_⟩; replace HM := HM.call hR; clear hR) | ((with_reducible refine gN 14 rfl ?_); refine pL 14 k122 122 ([] : List (S122)) [] (Reps.none _ _) HM rfl ?_; clear HM; intro v998 w5 HM; obtain ⟨Xo7, ko7, rfl⟩ := HM.rdR 0 rfl) | ((with_reducible refine gate_sl (t := 47) rfl ?_); refine pRdf 47 9 Kd.string _ _ 1 t994 Xo7 ko7 rfl Try.underlying47 info9 (HM.CR 0 rfl).2.1 (by omega) (of_decide_eq_true AS) ?_; intro Yx8 bx8 hYx8 hbx8; simp only [Int.reduceToNat, List.drop_one] at hYx8 hbx8; have HYx8 := Aside0.mk hYx8; have HBx8 := Aside0.mk hbx8; clear hYx8 hbx8)); try go_wp2_with (first | ((with_reducible refine gC 69 rfl ?_); refine pC (some 13) rfl #[.string a0] rfl Try.func69 (impl_Cut.calls k a0 t994 _ A3.out) ?_; rintro e w4 ⟨v995, rfl, hR⟩; refine ⟨_, rfl, ?_⟩; replace HM := HM.call hR; clear hR) | ((with_reducible refine gN 14 rfl ?_); refine pL 14 k122 122 ([] : List (S122)) [] (Reps.none _ _) HM rfl ?_; clear HM; intro v998 w5 HM; obtain ⟨Xo7, ko7, rfl⟩ := HM.rdR 0 rfl) | ((with_reducible refine gate_sl (t := 47) rfl ?_); refine pRdf 47 9 Kd.string _ _ 1 t994 Xo7 ko7 rfl Try.underlying47 info9 (HM.CR 0 rfl).2.1 (by omega) (of_decide_eq_true AS) ?_; intro Yx8 bx8 hYx8 hbx8; simp only [Int.reduceToNat, List.drop_one] at hYx8 hbx8; have HYx8 := Aside0.mk hYx8; have HBx8 := Aside0.mk hbx8; clear hYx8 hbx8)))
 go_loopg [7, 18] k (fun kq v7 v18 w' => ∃ (x7_1 : List (S122)) (x18_1 : Int), v18 = .int .i64 x18_1 ∧ Aside0 (impl_items.l0 kq a1 t994 x7_1 (t994.tail) ((t994.tail).length : Int) x18_1 = some (r1, r2)) ∧ Aside0 (kq ≤ k) ∧ Mem w [] w' [rowR Kd.string 9 (.slice Xo7 t994.length ko7) t994, rowR k122 122 v7 x7_1])
 case atStart => exact ⟨((([] : List (S122)))), (0), RS, H', ⟨Nat.le_refl _⟩, (MD HM).pick [0, 1]⟩
 case round =>
  clear H' HM
  obtain ⟨x7_1, x18_1, rfl, HA, HK1, HM⟩ := hrel
  cases gk with
  | zero => exact absurd HA.out (by simp [impl_items.l0])
  | succ k1 =>
   have H := HA.out
   clear HA
   simp only [impl_items.l0] at H
   go_upto_if 19 with (fail)
   repeat (go_quiet (fail); go_upto_if 19 with (fail))
   replace H := IT H; rcases H with ⟨c9, H⟩ | ⟨c9, H⟩
   ·have c9b0 := decide_eq_true c9
    have c9b5 := c9b0
    simp only [List.length_tail] at c9b5
    clear c9
    first|rw [c9b0]|rw [c9b5]|(simp only [i64_w, i32_w]; rw [c9b0])|skip
    replace H := GD H; obtain ⟨c10, H⟩ := H
    have c10b0 := decide_eq_true c10
    clear c10
    replace H := GD H; obtain ⟨c11, H⟩ := H
    have c11b0 := decide_eq_true c11
    have c11b5 := c11b0
    simp only [List.length_tail] at c11b5
    clear c11
    replace H := BN H; obtain ⟨⟨t1005, t1006, t1007, t1008⟩, A12, H⟩ := H
    have p1004 : 0 ≤ (x18_1 : Int) := of_decide_eq_true AS
    have q1004 : (x18_1 : Int) < ((t994.tail).length : Int) := of_decide_eq_true AS
    obtain ⟨ad1004, e1004, hx1004_0⟩ := Kd.at_string (HYx8.out _ (HM.CR 0 rfl).2.2) x18_1 p1004 q1004
    cases e1004
    replace p1004 := eq_true p1004
    replace q1004 := eq_true q1004
    have qt1004 := q1004
    simp only [List.length_tail] at qt1004
    go_upto_if 28 with (first | ((with_reducible refine gC 125 rfl ?_); refine pC (some 24) rfl #[.string (rdOf ByteArray.empty (t994.tail) x18_1)] rfl Try.func125 (impl_TextItem.calls k1 (rdOf ByteArray.empty (t994.tail) x18_1) t1005 t1006 t1007 t1008 _ A12.out) ?_; rintro e w13 ⟨rfl, hR⟩; refine ⟨_, rfl, ?_⟩; replace HM := HM.call hR; clear hR) | ((with_reducible refine gN 10 rfl ?_); refine pB 10 122 [.string (⟨#[]⟩ : ByteArray), .string (⟨#[]⟩ : ByteArray), .int .i64 0] HM rfl ?_; clear HM; intro gb1009 w14 HM) | ((with_reducible refine gS 10 rfl ?_); refine pS 2 10 0 [.string t1005, .string t1006, .int .i64 t1007] HM rfl rfl ?_; clear HM; intro w15 HM))
    repeat (go_quiet (first | ((with_reducible refine gC 125 rfl ?_); refine pC (some 24) rfl #[.string (rdOf ByteArray.empty (t994.tail) x18_1)] rfl Try.func125 (impl_TextItem.calls k1 (rdOf ByteArray.empty (t994.tail) x18_1) t1005 t1006 t1007 t1008 _ A12.out) ?_; rintro e w13 ⟨rfl, hR⟩; refine ⟨_, rfl, ?_⟩; replace HM := HM.call hR; clear hR) | ((with_reducible refine gN 10 rfl ?_); refine pB 10 122 [.string (⟨#[]⟩ : ByteArray), .string (⟨#[]⟩ : ByteArray), .int .i64 0] HM rfl ?_; clear HM; intro gb1009 w14 HM) | ((with_reducible refine gS 10 rfl ?_); refine pS 2 10 0 [.string t1005, .string t1006, .int .i64 t1007] HM rfl rfl ?_; clear HM; intro w15 HM)); go_upto_if 28 with (first | ((with_reducible refine gC 125 rfl ?_); refine pC (some 24) rfl #[.string (rdOf ByteArray.empty (t994.tail) x18_1)] rfl Try.func125 (impl_TextItem.calls k1 (rdOf ByteArray.empty (t994.tail) x18_1) t1005 t1006 t1007 t1008 _ A12.out) ?_; rintro e w13 ⟨rfl, hR⟩; refine ⟨_, rfl, ?_⟩; replace HM := HM.call hR; clear hR) | ((with_reducible refine gN 10 rfl ?_); refine pB 10 122 [.string (⟨#[]⟩ : ByteArray), .string (⟨#[]⟩ : ByteArray), .int .i64 0] HM rfl ?_; clear HM; intro gb1009 w14 HM) | ((with_reducible refine gS 10 rfl ?_); refine pS 2 10 0 [.string t1005, .string t1006, .int .i64 t1007] HM rfl rfl ?_; clear HM; intro w15 HM)))
    replace HM := nzM HM
    replace H := IB H
    rcases H with ⟨c16, H⟩ | ⟨c16, H⟩
    ·subst c16
     replace H := GD H; obtain ⟨c18, H⟩ := H
     have LMc18 := Aside0.mk c18
     clear c18
     have H' := Aside0.mk H
     clear H
     obtain ⟨_,_,_,_,_,_⟩ := bk3 (HM.bx 2 rfl)
     go_wp2_with (first | ((with_reducible refine gN 31 rfl ?_); refine pL 31 k122 122 [(⟨t1005, t1006, t1007⟩ : S122)] [.string t1005, .string t1006, .int .i64 t1007] (Reps.c3 (show Kd.M k122 _ _ _ (⟨t1005, t1006, t1007⟩ : S122) [.string t1005, .string t1006, .int .i64 t1007] from (k122_mkM _ _ _ (⟨t1005, t1006, t1007⟩ : S122))) (Reps.none _ _)) HM rfl ?_; clear HM; intro v20 w19 HM; obtain ⟨Xv20, kv20, rfl⟩ := HM.rdR 3 rfl) | ((with_reducible refine gate_builtin (b := .append) (xs := #[.tmp 29, .tmp 31]) rfl ?_); refine pA 1 (.tmp 29) (.tmp 31) 29 122 k122 u7 x7_1 [(⟨t1005, t1006, t1007⟩ : S122)] Xv20 ([(⟨t1005, t1006, t1007⟩ : S122)].length) kv20 HM rfl Try.underlying29 info122 rfl (HM.CR 3 rfl).2.2 (by have h_ := LMc18.out; simp only [List.length_singleton]; omega) ?_; clear HM; intro v1011 w21 HM))
     repeat (go_quiet (first | ((with_reducible refine gN 31 rfl ?_); refine pL 31 k122 122 [(⟨t1005, t1006, t1007⟩ : S122)] [.string t1005, .string t1006, .int .i64 t1007] (Reps.c3 (show Kd.M k122 _ _ _ (⟨t1005, t1006, t1007⟩ : S122) [.string t1005, .string t1006, .int .i64 t1007] from (k122_mkM _ _ _ (⟨t1005, t1006, t1007⟩ : S122))) (Reps.none _ _)) HM rfl ?_; clear HM; intro v20 w19 HM; obtain ⟨Xv20, kv20, rfl⟩ := HM.rdR 3 rfl) | ((with_reducible refine gate_builtin (b := .append) (xs := #[.tmp 29, .tmp 31]) rfl ?_); refine pA 1 (.tmp 29) (.tmp 31) 29 122 k122 u7 x7_1 [(⟨t1005, t1006, t1007⟩ : S122)] Xv20 ([(⟨t1005, t1006, t1007⟩ : S122)].length) kv20 HM rfl Try.underlying29 info122 rfl (HM.CR 3 rfl).2.2 (by have h_ := LMc18.out; simp only [List.length_singleton]; omega) ?_; clear HM; intro v1011 w21 HM)); try go_wp2_with (first | ((with_reducible refine gN 31 rfl ?_); refine pL 31 k122 122 [(⟨t1005, t1006, t1007⟩ : S122)] [.string t1005, .string t1006, .int .i64 t1007] (Reps.c3 (show Kd.M k122 _ _ _ (⟨t1005, t1006, t1007⟩ : S122) [.string t1005, .string t1006, .int .i64 t1007] from (k122_mkM _ _ _ (⟨t1005, t1006, t1007⟩ : S122))) (Reps.none _ _)) HM rfl ?_; clear HM; intro v20 w19 HM; obtain ⟨Xv20, kv20, rfl⟩ := HM.rdR 3 rfl) | ((with_reducible refine gate_builtin (b := .append) (xs := #[.tmp 29, .tmp 31]) rfl ?_); refine pA 1 (.tmp 29) (.tmp 31) 29 122 k122 u7 x7_1 [(⟨t1005, t1006, t1007⟩ : S122)] Xv20 ([(⟨t1005, t1006, t1007⟩ : S122)].length) kv20 HM rfl Try.underlying29 info122 rfl (HM.CR 3 rfl).2.2 (by have h_ := LMc18.out; simp only [List.length_singleton]; omega) ?_; clear HM; intro v1011 w21 HM)))
     go_roundg k1
     case measure => have := HK1.out; omega
     case rel => exact ⟨((x7_1 ++ [(⟨t1005, t1006, t1007⟩ : S122)])), (wrap64 (x18_1 + 1)), RS, H', ⟨by have := HK1.out; omega⟩, (MD HM).pick [0, 1]⟩
    ·subst c16
     simp only [Option.some.injEq, Prod.mk.injEq] at H
     obtain ⟨rfl, rfl⟩ := H
     replace HM := HM.nl k122 122
     go_wp2
     repeat (go_quiet (fail); try go_wp2_with (fail))
     go_ret2
     exact ⟨_, ER, (MD HM).pick [3]⟩
   ·have c9b0 : decide (x18_1 < ((t994.tail).length : Int)) = false := decide_eq_false c9
    have c9b5 := c9b0
    simp only [List.length_tail] at c9b5
    clear c9
    first|rw [c9b0]|rw [c9b5]|(simp only [i64_w, i32_w]; rw [c9b0])|skip
    replace H := GD H; obtain ⟨c22, H⟩ := H
    replace c22 : 0 < (t994.length : Int) := c22
    have c22b0 : decide (0 < (t994.length : Int)) = true := decide_eq_true c22
    have c22b1 : decide (0 < t994.length) = true := decide_eq_true (by omega)
    have c22b9 : decide (0 < t994.length) = true := decide_eq_true (by omega)
    clear c22
    simp only [Option.some.injEq, Prod.mk.injEq] at H
    obtain ⟨rfl, rfl⟩ := H
    have p1013 : 0 ≤ (0 : Int) := (by omega)
    have q1013 : (0 : Int) < (t994.length : Int) := of_decide_eq_true AS
    obtain ⟨ad1013, e1013, hx1013_0⟩ := Kd.at_string (HM.CR 0 rfl).2.2 0 p1013 q1013
    cases e1013
    have qi1013 : (0 < t994.length) = True := eq_true (by omega)
    (try rw [show ((0 : Int)).toNat = 0 from rfl] at hx1013_0)
    (try rw [Addr.add_zero'] at hx1013_0)
    replace p1013 := eq_true p1013
    replace q1013 := eq_true q1013
    go_wp2
    repeat (go_quiet (fail); try go_wp2_with (fail))
    go_ret2
    exact ⟨_, ER, (MD HM).pick [1]⟩
mutual
def impl_TextThree.j0 : Nat → List ByteArray → Bool → Option (Int × Int × (List (S122)) × (List (S122)) × List Int × Int)
 | 0, _, _ => none
 | k + 1, x4, x28 => if x28 = true then (some (0, 0, ([] : List (S122)), ([] : List (S122)), ([] : List Int), 2)) else (if 0 < (x4.length : Int) then ((impl_numbers.f k (rdOf ByteArray.empty x4 0) (⟨#[116, 104, 114, 101, 101]⟩ : ByteArray)).bind fun bt1021 => (if 1 < (x4.length : Int) then ((impl_items.f k (rdOf ByteArray.empty x4 1) (⟨#[115, 109, 97, 108, 108]⟩ : ByteArray)).bind fun bt1026 => (if 2 < (x4.length : Int) then ((impl_items.f k (rdOf ByteArray.empty x4 2) (⟨#[109, 97, 105, 110]⟩ : ByteArray)).bind fun bt1031 => (if 3 < (x4.length : Int) then ((impl_numbers.f k (rdOf ByteArray.empty x4 3) (⟨#[103, 104, 111, 115, 116]⟩ : ByteArray)).bind fun bt1036 => (if bt1021.2 = true then (if bt1026.2 = true then (if bt1031.2 = true then (if bt1036.2 = true then (impl_TextThree.j1 k bt1021.1 bt1026.1 bt1031.1 bt1036.1 ((bt1021.1.length : Int) != 2)) else (impl_TextThree.j1 k bt1021.1 bt1026.1 bt1031.1 bt1036.1 true)) else (impl_TextThree.j1 k bt1021.1 bt1026.1 bt1031.1 bt1036.1 true)) else (impl_TextThree.j1 k bt1021.1 bt1026.1 bt1031.1 bt1036.1 true)) else (impl_TextThree.j1 k bt1021.1 bt1026.1 bt1031.1 bt1036.1 true))) else (none))) else (none))) else (none))) else (none))
def impl_TextThree.j1 : Nat → List Int → List (S122) → List (S122) → List Int → Bool → Option (Int × Int × (List (S122)) × (List (S122)) × List Int × Int)
 | 0, _, _, _, _, _ => none
 | k + 1, x5, x7, x9, x11, x76 => if x76 = true then (some (0, 0, ([] : List (S122)), ([] : List (S122)), ([] : List Int), 2)) else (if 0 < (x5.length : Int) then (if 1 < (x5.length : Int) then ((impl_ThreeOk.f k (rd x5 0) (rd x5 1) x7 x9 x11).bind fun t1043 => (if t1043 = true then (some (rd x5 0, rd x5 1, x7, x9, x11, 0)) else (some (0, 0, ([] : List (S122)), ([] : List (S122)), ([] : List Int), 3)))) else (none)) else (none))
end
def impl_TextThree.f (k : Nat) (a0 : ByteArray) : Option (Int × Int × (List (S122)) × (List (S122)) × List Int × Int) := if (a0.size : Int) > 8000 then (some (0, 0, ([] : List (S122)), ([] : List (S122)), ([] : List Int), 1)) else ((impl_split.f k a0 10).bind fun t1016 => (if (t1016.length : Int) = 5 then (if 4 < (t1016.length : Int) then (impl_TextThree.j0 k t1016 ((rdOf ByteArray.empty t1016 4).toList != ([] : List UInt8))) else (none)) else (impl_TextThree.j0 k t1016 true)))
def impl_TextThree.T12 : Bool × List (List Nat × List Nat) := (true, [([], []), ([0], [0]), ([1], [1]), ([], []), ([3], [3]), ([4], [4]), ([], []), ([], []), ([], []), ([2, 5, 6, 7, 8], [2, 5, 6, 7, 8]), ([], []), ([10, 9, 0, 1, 2, 3, 4, 5, 6, 7, 8, 9, 10], [9, 10])])
def impl_TextThree.B12 : List Nat := [0, 1, 3, 0, 8, 24, 0, 0, 0, 511, 0, 2047]
theorem impl_TextThree.tab12 : rtab .any (opsOf Try.f15 12) = impl_TextThree.T12 := by kernel_rfl
theorem impl_TextThree.bits12 : waitsOk impl_TextThree.T12.2 impl_TextThree.B12 = true := by kernel_rfl
theorem impl_TextThree.z0 {P : Prop} (h : P := by have := HJ6.out; first | omega | exact Nat.le_refl _) : P := h
theorem impl_TextThree.calls (k : Nat) (a0 : ByteArray) (r1 : Int) (r2 : Int) (r3 : List (S122)) (r4 : List (S122)) (r5 : List Int) (r6 : Int) (w : World)  (h : impl_TextThree.f k a0 = some (r1, r2, r3, r4, r5, r6)) :
  Calls Try.prog 15 #[.string a0] w fun e w' => ∃ v2_ v3_ v4_ : Value, e = .returned (.tuple #[.agg #[.int .i64 r1, .int .i64 r2, v2_, v3_, v4_], .int .i64 r6]) ∧ Mem w [] w' [rowR k122 122 v2_ r3, rowR k122 122 v3_ r4, rowR (Kd.int .i64) 3 v4_ r5] := by
 have hu32 := Try.underlying32
 have HM := Mem.nil w
 have H := h
 clear h
 unfold impl_TextThree.f at H
 go_enter Try.func15, Try.ntmps15
 go_upto_if 16 with (first | ((with_reducible refine gN 2 rfl ?_); refine pB 2 32 [.int .i64 0, .int .i64 0, .slice none 0 0, .slice none 0 0, .slice none 0 0] HM rfl ?_; clear HM; intro gb1015 w2 HM))
 replace H := IT H; rcases H with ⟨c3, H⟩ | ⟨c3, H⟩
 ·replace c3 : (a0.size : Int) > 8000 := c3
  have c3b0 : decide (8000 < (a0.size : Int)) = true := decide_eq_true c3
  have c3b1 : decide (8000 < a0.size) = true := decide_eq_true (by omega)
  clear c3
  first|rw [c3b0]|(simp only [i64_w, i32_w]; rw [c3b0])|skip
  simp only [Option.some.injEq, Prod.mk.injEq] at H
  obtain ⟨rfl, rfl, rfl, rfl, rfl, rfl⟩ := H
  go_wp2_with (first | ((with_reducible refine gS 2 rfl ?_); refine pS 0 2 0 [.int .i64 0, .int .i64 0, .slice none 0 0, .slice none 0 0, .slice none 0 0] HM rfl rfl ?_; clear HM; intro w4 HM; replace HM := HM.nl k122 122; replace HM := HM.nl k122 122; replace HM := HM.nl (Kd.int .i64) 3))
  refine bodyPost_ret (results_ct rfl _ _ gb1015 32 #[.int .i64 0, .int .i64 0, .slice none 0 0, .slice none 0 0, .slice none 0 0] (0, 0) _ rfl (HM.bx 0 rfl) Try.underlying32 rfl (by kernel_rfl)) rfl ?_
  exact ⟨_, _, _, ER, (MD HM).pick [1, 2, 3]⟩
 ·replace c3 : ¬ ((a0.size : Int) > 8000) := c3
  have c3b0 : decide (8000 < (a0.size : Int)) = false := decide_eq_false c3
  have c3b1 : decide (8000 < a0.size) = false := decide_eq_false (by omega)
  clear c3
  first|rw [c3b0]|(simp only [i64_w, i32_w]; rw [c3b0])|skip
  replace H := BN H; obtain ⟨t1016, A5, H⟩ := H
  have HC7 := Aside0.mk H
  clear H
  go_upto_region 4 with (first | ((with_reducible refine gC 63 rfl ?_); refine pC (some 19) rfl #[.string a0, .int .u8 10] rfl Try.func63 (impl_split.calls k a0 10 t1016 _ A5.out) ?_; rintro e w6 ⟨v1017, rfl, hR⟩; refine ⟨_, rfl, ?_⟩; replace HM := HM.call hR; clear hR))
  go_cut [28] (fun v28 wc => ∃ (kq : Nat) (x28_6 : Bool), v28 = .bool x28_6 ∧ Aside0 (impl_TextThree.j0 kq t1016 x28_6 = some (r1, r2, r3, r4, r5, r6)) ∧ Aside0 (kq ≤ k) ∧ Mem w [] wc [rowR Kd.string 9 v1017 t1016, box 32 gb1015 [.int .i64 0, .int .i64 0, .slice none 0 0, .slice none 0 0, .slice none 0 0]])
  case first =>
   have H := HC7.out
   clear HC7
   replace H := IT H; rcases H with ⟨c9, H⟩ | ⟨c9, H⟩
   ·obtain ⟨c9b0, c9b1⟩ := BE c9
    clear c9
    replace H := GD H; obtain ⟨c10, H⟩ := H
    replace c10 : 4 < (t1016.length : Int) := c10
    have c10b0 := decide_eq_true c10
    have c10b1 : decide (4 < t1016.length) = true := decide_eq_true (by omega)
    have c10b9 : decide (4 < t1016.length) = true := decide_eq_true (by omega)
    clear c10
    have H' := Aside0.mk H
    clear H
    obtain ⟨Xo8, ko8, rfl⟩ := HM.rdR 1 rfl
    have p1019 : 0 ≤ (4 : Int) := (by omega)
    have q1019 : (4 : Int) < (t1016.length : Int) := of_decide_eq_true AS
    obtain ⟨ad1019, e1019, hx1019_0⟩ := Kd.at_string (HM.CR 1 rfl).2.2 4 p1019 q1019
    cases e1019
    have qi1019 : (4 < t1016.length) = True := eq_true (by omega)
    (try rw [show ((4 : Int)).toNat = 4 from rfl] at hx1019_0)
    (try simp only [Nat.reduceMul, Nat.reduceEqDiff, Go.Addr.add, ↓reduceIte] at hx1019_0)
    replace p1019 := eq_true p1019
    replace q1019 := eq_true q1019
    go_wp2
    go_meet
    case rel => exact ⟨_, (((rdOf ByteArray.empty t1016 4).toList != ([] : List UInt8))), (by first | rfl | (generalize (rdOf ByteArray.empty t1016 4) = y_; cases y_ with | mk d_ => cases d_ with | mk l_ => cases l_ <;> rfl) | (simp; done) | (generalize (rdOf ByteArray.empty t1016 4).toList = y_; cases y_ <;> simp)), H', ⟨by first | omega | exact Nat.le_refl _⟩, (MD HM).pick [1, 0]⟩
   ·obtain ⟨c9b0, c9b1⟩ := BF c9
    have H' := Aside0.mk H
    clear H
    obtain ⟨Xo8, ko8, rfl⟩ := HM.rdR 1 rfl
    go_wp2
    go_meet
    case rel => exact ⟨_, (true), RS, H', ⟨by first | omega | exact Nat.le_refl _⟩, (MD HM).pick [1, 0]⟩
  case rest =>
   clear HC7 HM
   obtain ⟨kq, x28_6, rfl, HA, HJ6, HM⟩ := hcut
   cases kq with
   | zero => exact absurd HA.out (by simp [impl_TextThree.j0])
   | succ kj6 =>
    have H := HA.out
    clear HA
    simp only [impl_TextThree.j0] at H
    go_upto_if 28 with (fail)
    replace H := IB H
    rcases H with ⟨c11, H⟩ | ⟨c11, H⟩
    ·subst c11
     simp only [Option.some.injEq, Prod.mk.injEq] at H
     obtain ⟨rfl, rfl, rfl, rfl, rfl, rfl⟩ := H
     go_wp2_with (first | ((with_reducible refine gS 2 rfl ?_); refine pS 1 2 0 [.int .i64 0, .int .i64 0, .slice none 0 0, .slice none 0 0, .slice none 0 0] HM rfl rfl ?_; clear HM; intro w12 HM; replace HM := HM.nl k122 122; replace HM := HM.nl k122 122; replace HM := HM.nl (Kd.int .i64) 3))
     refine bodyPost_ret (results_ct rfl _ _ gb1015 32 #[.int .i64 0, .int .i64 0, .slice none 0 0, .slice none 0 0, .slice none 0 0] (0, 0) _ rfl (HM.bx 1 rfl) Try.underlying32 rfl (by kernel_rfl)) rfl ?_
     exact ⟨_, _, _, ER, (MD HM).pick [2, 3, 4]⟩
    ·subst c11
     replace H := GD H; obtain ⟨c13, H⟩ := H
     replace c13 : 0 < (t1016.length : Int) := c13
     have c13b0 := decide_eq_true c13
     have c13b1 : decide (0 < t1016.length) = true := decide_eq_true (by omega)
     have c13b9 : decide (0 < t1016.length) = true := decide_eq_true (by omega)
     clear c13
     replace H := BN H; obtain ⟨⟨t1021, t1022⟩, A15, H⟩ := H
     replace H := GD H; obtain ⟨c17, H⟩ := H
     replace c17 : 1 < (t1016.length : Int) := c17
     have c17b0 : decide (1 < (t1016.length : Int)) = true := decide_eq_true c17
     have c17b1 : decide (1 < t1016.length) = true := decide_eq_true (by omega)
     have c17b9 : decide (1 < t1016.length) = true := decide_eq_true (by omega)
     clear c17
     replace H := BN H; obtain ⟨⟨t1026, t1027⟩, A18, H⟩ := H
     replace H := GD H; obtain ⟨c20, H⟩ := H
     replace c20 : 2 < (t1016.length : Int) := c20
     have c20b0 : decide (2 < (t1016.length : Int)) = true := decide_eq_true c20
     have c20b1 : decide (2 < t1016.length) = true := decide_eq_true (by omega)
     have c20b9 : decide (2 < t1016.length) = true := decide_eq_true (by omega)
     clear c20
     replace H := BN H; obtain ⟨⟨t1031, t1032⟩, A21, H⟩ := H
     replace H := GD H; obtain ⟨c23, H⟩ := H
     replace c23 : 3 < (t1016.length : Int) := c23
     have c23b0 : decide (3 < (t1016.length : Int)) = true := decide_eq_true c23
     have c23b1 : decide (3 < t1016.length) = true := decide_eq_true (by omega)
     have c23b9 : decide (3 < t1016.length) = true := decide_eq_true (by omega)
     clear c23
     replace H := BN H; obtain ⟨⟨t1036, t1037⟩, A24, H⟩ := H
     have HC26 := Aside0.mk H
     clear H
     obtain ⟨Xo14, ko14, rfl⟩ := HM.rdR 0 rfl
     have p1020 : 0 ≤ (0 : Int) := (by omega)
     have q1020 : (0 : Int) < (t1016.length : Int) := of_decide_eq_true AS
     obtain ⟨ad1020, e1020, hx1020_0⟩ := Kd.at_string (HM.CR 0 rfl).2.2 0 p1020 q1020
     cases e1020
     have qi1020 : (0 < t1016.length) = True := eq_true (by omega)
     (try rw [show ((0 : Int)).toNat = 0 from rfl] at hx1020_0)
     (try rw [Addr.add_zero'] at hx1020_0)
     replace p1020 := eq_true p1020
     replace q1020 := eq_true q1020
     go_upto_region 10 with (first | ((with_reducible refine gC 64 rfl ?_); refine pC (some 34) rfl #[.string (rdOf ByteArray.empty t1016 0), .string (⟨#[116, 104, 114, 101, 101]⟩ : ByteArray)] rfl Try.func64 (impl_numbers.calls kj6 (rdOf ByteArray.empty t1016 0) (⟨#[116, 104, 114, 101, 101]⟩ : ByteArray) t1021 t1022 _ A15.out) ?_; rintro e w16 ⟨v1023, rfl, hR⟩; refine ⟨_, rfl, ?_⟩; replace HM := HM.call hR; clear hR; have p1025 : 0 ≤ (1 : Int) := (by omega); have q1025 : (1 : Int) < (t1016.length : Int) := of_decide_eq_true AS; obtain ⟨ad1025, e1025, hx1025_0⟩ := Kd.at_string (HM.CR 0 rfl).2.2 1 p1025 q1025; obtain rfl := Option.some.inj e1025; have qi1025 : (1 < t1016.length) = True := eq_true (by omega); (try rw [show ((1 : Int)).toNat = 1 from rfl] at hx1025_0); (try simp only [Nat.reduceMul, Nat.reduceEqDiff, Go.Addr.add, ↓reduceIte] at hx1025_0); replace p1025 := eq_true p1025; replace q1025 := eq_true q1025) | ((with_reducible refine gC 65 rfl ?_); refine pC (some 41) rfl #[.string (rdOf ByteArray.empty t1016 1), .string (⟨#[115, 109, 97, 108, 108]⟩ : ByteArray)] rfl Try.func65 (impl_items.calls kj6 (rdOf ByteArray.empty t1016 1) (⟨#[115, 109, 97, 108, 108]⟩ : ByteArray) t1026 t1027 _ A18.out) ?_; rintro e w19 ⟨v1028, rfl, hR⟩; refine ⟨_, rfl, ?_⟩; replace HM := HM.call hR; clear hR; have p1030 : 0 ≤ (2 : Int) := (by omega); have q1030 : (2 : Int) < (t1016.length : Int) := of_decide_eq_true AS; obtain ⟨ad1030, e1030, hx1030_0⟩ := Kd.at_string (HM.CR 0 rfl).2.2 2 p1030 q1030; obtain rfl := Option.some.inj e1030; have qi1030 : (2 < t1016.length) = True := eq_true (by omega); (try rw [show ((2 : Int)).toNat = 2 from rfl] at hx1030_0); (try simp only [Nat.reduceMul, Nat.reduceEqDiff, Go.Addr.add, ↓reduceIte] at hx1030_0); replace p1030 := eq_true p1030; replace q1030 := eq_true q1030) | ((with_reducible refine gC 65 rfl ?_); refine pC (some 48) rfl #[.string (rdOf ByteArray.empty t1016 2), .string (⟨#[109, 97, 105, 110]⟩ : ByteArray)] rfl Try.func65 (impl_items.calls kj6 (rdOf ByteArray.empty t1016 2) (⟨#[109, 97, 105, 110]⟩ : ByteArray) t1031 t1032 _ A21.out) ?_; rintro e w22 ⟨v1033, rfl, hR⟩; refine ⟨_, rfl, ?_⟩; replace HM := HM.call hR; clear hR; have p1035 : 0 ≤ (3 : Int) := (by omega); have q1035 : (3 : Int) < (t1016.length : Int) := of_decide_eq_true AS; obtain ⟨ad1035, e1035, hx1035_0⟩ := Kd.at_string (HM.CR 0 rfl).2.2 3 p1035 q1035; obtain rfl := Option.some.inj e1035; have qi1035 : (3 < t1016.length) = True := eq_true (by omega); (try rw [show ((3 : Int)).toNat = 3 from rfl] at hx1035_0); (try simp only [Nat.reduceMul, Nat.reduceEqDiff, Go.Addr.add, ↓reduceIte] at hx1035_0); replace p1035 := eq_true p1035; replace q1035 := eq_true q1035) | ((with_reducible refine gC 64 rfl ?_); refine pC (some 55) rfl #[.string (rdOf ByteArray.empty t1016 3), .string (⟨#[103, 104, 111, 115, 116]⟩ : ByteArray)] rfl Try.func64 (impl_numbers.calls kj6 (rdOf ByteArray.empty t1016 3) (⟨#[103, 104, 111, 115, 116]⟩ : ByteArray) t1036 t1037 _ A24.out) ?_; rintro e w25 ⟨v1038, rfl, hR⟩; refine ⟨_, rfl, ?_⟩; replace HM := HM.call hR; clear hR))
     replace HM := nzM HM
     go_cut [76] (fun v76 wc => ∃ (kq : Nat) (x76_25 : Bool), v76 = .bool x76_25 ∧ Aside0 (impl_TextThree.j1 kq t1021 t1026 t1031 t1036 x76_25 = some (r1, r2, r3, r4, r5, r6)) ∧ Aside0 (kq ≤ kj6) ∧ Mem w [] wc [rowR (Kd.int .i64) 3 v1023 t1021, rowR k122 122 v1028 t1026, rowR k122 122 v1033 t1031, rowR (Kd.int .i64) 3 v1038 t1036, box 32 gb1015 [.int .i64 0, .int .i64 0, .slice none 0 0, .slice none 0 0, .slice none 0 0]])
     case first =>
      have H := HC26.out
      clear HC26
      replace H := IB H
      rcases H with ⟨c27, H⟩ | ⟨c27, H⟩
      ·subst c27
       replace H := IB H
       rcases H with ⟨c28, H⟩ | ⟨c28, H⟩
       ·subst c28
        replace H := IB H
        rcases H with ⟨c29, H⟩ | ⟨c29, H⟩
        ·subst c29
         replace H := IB H
         rcases H with ⟨c30, H⟩ | ⟨c30, H⟩
         ·subst c30
          have H' := Aside0.mk H
          clear H
          obtain ⟨Xo31, ko31, rfl⟩ := HM.rdR 2 rfl
          go_wp2
          go_meet
          case rel => exact ⟨_, (((t1021.length : Int) != 2)), RS, H', ⟨impl_TextThree.z0⟩, (MD HM).pick [2, 3, 4, 5, 1]⟩
         ·subst c30
          have H' := Aside0.mk H
          clear H
          go_wp2
          go_meet
          case rel => exact ⟨_, (true), RS, H', ⟨impl_TextThree.z0⟩, (MD HM).pick [2, 3, 4, 5, 1]⟩
        ·subst c29
         have H' := Aside0.mk H
         clear H
         go_wp2
         go_meet
         case rel => exact ⟨_, (true), RS, H', ⟨impl_TextThree.z0⟩, (MD HM).pick [2, 3, 4, 5, 1]⟩
       ·subst c28
        have H' := Aside0.mk H
        clear H
        go_wp2
        go_meet
        case rel => exact ⟨_, (true), RS, H', ⟨impl_TextThree.z0⟩, (MD HM).pick [2, 3, 4, 5, 1]⟩
      ·subst c27
       have H' := Aside0.mk H
       clear H
       go_wp2
       go_meet
       case rel => exact ⟨_, (true), RS, H', ⟨impl_TextThree.z0⟩, (MD HM).pick [2, 3, 4, 5, 1]⟩
     case rest =>
      clear HC26 HM
      obtain ⟨kq, x76_25, rfl, HA, HJ25, HM⟩ := hcut
      cases kq with
      | zero => exact absurd HA.out (by simp [impl_TextThree.j1])
      | succ kj25 =>
       have H := HA.out
       clear HA
       simp only [impl_TextThree.j1] at H
       go_upto_if 76 with (fail)
       replace H := IB H
       rcases H with ⟨c32, H⟩ | ⟨c32, H⟩
       ·subst c32
        simp only [Option.some.injEq, Prod.mk.injEq] at H
        obtain ⟨rfl, rfl, rfl, rfl, rfl, rfl⟩ := H
        go_wp2_with (first | ((with_reducible refine gS 2 rfl ?_); refine pS 4 2 0 [.int .i64 0, .int .i64 0, .slice none 0 0, .slice none 0 0, .slice none 0 0] HM rfl rfl ?_; clear HM; intro w33 HM; replace HM := HM.nl k122 122; replace HM := HM.nl k122 122; replace HM := HM.nl (Kd.int .i64) 3))
        refine bodyPost_ret (results_ct rfl _ _ gb1015 32 #[.int .i64 0, .int .i64 0, .slice none 0 0, .slice none 0 0, .slice none 0 0] (0, 0) _ rfl (HM.bx 4 rfl) Try.underlying32 rfl (by kernel_rfl)) rfl ?_
        exact ⟨_, _, _, ER, (MD HM).pick [5, 6, 7]⟩
       ·subst c32
        try go_wp2
        replace H := GD H; obtain ⟨c34, H⟩ := H
        replace c34 : 0 < (t1021.length : Int) := c34
        have c34b0 : decide (0 < (t1021.length : Int)) = true := decide_eq_true c34
        have c34b1 : decide (0 < t1021.length) = true := decide_eq_true (by omega)
        have c34b9 : decide (0 < t1021.length) = true := decide_eq_true (by omega)
        clear c34
        replace H := GD H; obtain ⟨c35, H⟩ := H
        replace c35 : 1 < (t1021.length : Int) := c35
        have c35b0 : decide (1 < (t1021.length : Int)) = true := decide_eq_true c35
        have c35b1 : decide (1 < t1021.length) = true := decide_eq_true (by omega)
        have c35b9 : decide (1 < t1021.length) = true := decide_eq_true (by omega)
        clear c35
        obtain ⟨Xo48, ko48, rfl⟩ := HM.rdR 0 rfl
        have p1040 : 0 ≤ (0 : Int) := (by omega)
        have q1040 : (0 : Int) < (t1021.length : Int) := of_decide_eq_true AS
        obtain ⟨ad1040, e1040, hx1040_0⟩ := Kd.at_int (HM.CR 0 rfl).2.2 0 p1040 q1040
        cases e1040
        have qi1040 : (0 < t1021.length) = True := eq_true (by omega)
        (try rw [show ((0 : Int)).toNat = 0 from rfl] at hx1040_0)
        (try rw [Addr.add_zero'] at hx1040_0)
        replace p1040 := eq_true p1040
        replace q1040 := eq_true q1040
        have p1041 : 0 ≤ (1 : Int) := (by omega)
        have q1041 : (1 : Int) < (t1021.length : Int) := of_decide_eq_true AS
        obtain ⟨ad1041, e1041, hx1041_0⟩ := Kd.at_int (HM.CR 0 rfl).2.2 1 p1041 q1041
        obtain rfl := Option.some.inj e1041
        have qi1041 : (1 < t1021.length) = True := eq_true (by omega)
        (try rw [show ((1 : Int)).toNat = 1 from rfl] at hx1041_0)
        (try simp only [Nat.reduceMul, Nat.reduceEqDiff, Go.Addr.add, ↓reduceIte] at hx1041_0)
        replace p1041 := eq_true p1041
        replace q1041 := eq_true q1041
        obtain ⟨Xo49, ko49, rfl⟩ := HM.rdR 1 rfl
        obtain ⟨Xo50, ko50, rfl⟩ := HM.rdR 2 rfl
        obtain ⟨Xo51, ko51, rfl⟩ := HM.rdR 3 rfl
        refine RGN 12 [0, 1, 2, 3, 4, 5, 6, 7, 8, 9, 10, 11] (fun a0 b a w' => ∃ (gb1042 : Nat), a = putSel a0 b [(0, 78, .slice (some ad1040) t1021.length ko48), (1, 79, .pointer (some ad1040)), (2, 80, .int .i64 (rd t1021 0)), (3, 81, .slice (some ad1040) t1021.length ko48), (4, 82, .pointer (some (ad1040.add 1))), (5, 83, .int .i64 (rd t1021 1)), (6, 84, .slice Xo49 t1026.length ko49), (7, 85, .slice Xo50 t1031.length ko50), (8, 86, .slice Xo51 t1036.length ko51), (9, 87, .agg #[.int .i64 (rd t1021 0), .int .i64 (rd t1021 1), .slice Xo49 t1026.length ko49, .slice Xo50 t1031.length ko50, .slice Xo51 t1036.length ko51]), (10, 13, .pointer (some ⟨gb1042, 0, none⟩))] ∧ Mem w [] w' [rowR (Kd.int .i64) 3 (.slice (some ad1040) t1021.length ko48) t1021, rowR k122 122 (.slice Xo49 t1026.length ko49) t1026, rowR k122 122 (.slice Xo50 t1031.length ko50) t1031, rowR (Kd.int .i64) 3 (.slice Xo51 t1036.length ko51) t1036, box 32 gb1015 [.int .i64 0, .int .i64 0, .slice none 0 0, .slice none 0 0, .slice none 0 0], sel (b 11) (box 32 gb1042 [.int .i64 (rd t1021 0), .int .i64 (rd t1021 1), .slice Xo49 t1026.length ko49, .slice Xo50 t1031.length ko50, .slice Xo51 t1036.length ko51]) (sel (b 10) (box 32 gb1042 [.int .i64 0, .int .i64 0, .slice none 0 0, .slice none 0 0, .slice none 0 0]) (emp))]) impl_TextThree.tab12 impl_TextThree.bits12 ?_ ?_ ?_
        ·exact ⟨0, PS0' rfl _, (HM.drew.ems 1).pick [0, 1, 2, 3, 4, 5]⟩
        ·clear HM
         refine SZ ?_ ?_
         ·rintro b a w ⟨gb1042, ha, HM⟩ hb hon hoff K hK
          replace ha := Aside0.mk ha
          have e5 := PG ha 5
          exact VL (.slice (some ad1040) t1021.length ko48) (hK.out _ _ ⟨gb1042, PUT ha 0 hb, HM⟩)
         refine SZ ?_ ?_
         ·rintro b a w ⟨gb1042, ha, HM⟩ hb hon hoff K hK
          replace ha := Aside0.mk ha
          have p1040 : 0 ≤ (0 : Int) := (by omega)
          have q1040 : (0 : Int) < (t1021.length : Int) := of_decide_eq_true AS
          obtain ⟨ad1040, e1040, hx1040_0⟩ := Kd.at_int (HM.CR 0 rfl).2.2 0 p1040 q1040
          obtain rfl := Option.some.inj e1040
          have qi1040 : (0 < t1021.length) = True := eq_true (by omega)
          (try rw [show ((0 : Int)).toNat = 0 from rfl] at hx1040_0)
          (try rw [Addr.add_zero'] at hx1040_0)
          replace p1040 := eq_true p1040
          replace q1040 := eq_true q1040
          have e78 := PE ha 0 hon
          exact VL (.pointer (some ad1040)) (hK.out _ _ ⟨gb1042, PUT ha 1 hb, HM⟩)
         refine SZ ?_ ?_
         ·rintro b a w ⟨gb1042, ha, HM⟩ hb hon hoff K hK
          replace ha := Aside0.mk ha
          have p1040 : 0 ≤ (0 : Int) := (by omega)
          have q1040 : (0 : Int) < (t1021.length : Int) := of_decide_eq_true AS
          obtain ⟨ad1040, e1040, hx1040_0⟩ := Kd.at_int (HM.CR 0 rfl).2.2 0 p1040 q1040
          obtain rfl := Option.some.inj e1040
          have qi1040 : (0 < t1021.length) = True := eq_true (by omega)
          (try rw [show ((0 : Int)).toNat = 0 from rfl] at hx1040_0)
          (try rw [Addr.add_zero'] at hx1040_0)
          replace p1040 := eq_true p1040
          replace q1040 := eq_true q1040
          have e79 := PE ha 1 hon
          exact VL (.int .i64 (rd t1021 0)) (hK.out _ _ ⟨gb1042, PUT ha 2 hb, HM⟩)
         refine SZ ?_ ?_
         ·rintro b a w ⟨gb1042, ha, HM⟩ hb hon hoff K hK
          replace ha := Aside0.mk ha
          have e5 := PG ha 5
          exact VL (.slice (some ad1040) t1021.length ko48) (hK.out _ _ ⟨gb1042, PUT ha 3 hb, HM⟩)
         refine SZ ?_ ?_
         ·rintro b a w ⟨gb1042, ha, HM⟩ hb hon hoff K hK
          replace ha := Aside0.mk ha
          have p1041 : 0 ≤ (1 : Int) := (by omega)
          have q1041 : (1 : Int) < (t1021.length : Int) := of_decide_eq_true AS
          obtain ⟨ad1041, e1041, hx1041_0⟩ := Kd.at_int (HM.CR 0 rfl).2.2 1 p1041 q1041
          obtain rfl := Option.some.inj e1041
          have qi1041 : (1 < t1021.length) = True := eq_true (by omega)
          (try rw [show ((1 : Int)).toNat = 1 from rfl] at hx1041_0)
          (try simp only [Nat.reduceMul, Nat.reduceEqDiff, Go.Addr.add, ↓reduceIte] at hx1041_0)
          replace p1041 := eq_true p1041
          replace q1041 := eq_true q1041
          have e81 := PE ha 3 hon
          exact VL (.pointer (some (ad1040.add 1))) (hK.out _ _ ⟨gb1042, PUT ha 4 hb, HM⟩)
         refine SZ ?_ ?_
         ·rintro b a w ⟨gb1042, ha, HM⟩ hb hon hoff K hK
          replace ha := Aside0.mk ha
          have p1041 : 0 ≤ (1 : Int) := (by omega)
          have q1041 : (1 : Int) < (t1021.length : Int) := of_decide_eq_true AS
          obtain ⟨ad1041, e1041, hx1041_0⟩ := Kd.at_int (HM.CR 0 rfl).2.2 1 p1041 q1041
          obtain rfl := Option.some.inj e1041
          have qi1041 : (1 < t1021.length) = True := eq_true (by omega)
          (try rw [show ((1 : Int)).toNat = 1 from rfl] at hx1041_0)
          (try simp only [Nat.reduceMul, Nat.reduceEqDiff, Go.Addr.add, ↓reduceIte] at hx1041_0)
          replace p1041 := eq_true p1041
          replace q1041 := eq_true q1041
          have e82 := PE ha 4 hon
          exact VL (.int .i64 (rd t1021 1)) (hK.out _ _ ⟨gb1042, PUT ha 5 hb, HM⟩)
         refine SZ ?_ ?_
         ·rintro b a w ⟨gb1042, ha, HM⟩ hb hon hoff K hK
          replace ha := Aside0.mk ha
          have e7 := PG ha 7
          exact VL (.slice Xo49 t1026.length ko49) (hK.out _ _ ⟨gb1042, PUT ha 6 hb, HM⟩)
         refine SZ ?_ ?_
         ·rintro b a w ⟨gb1042, ha, HM⟩ hb hon hoff K hK
          replace ha := Aside0.mk ha
          have e9 := PG ha 9
          exact VL (.slice Xo50 t1031.length ko50) (hK.out _ _ ⟨gb1042, PUT ha 7 hb, HM⟩)
         refine SZ ?_ ?_
         ·rintro b a w ⟨gb1042, ha, HM⟩ hb hon hoff K hK
          replace ha := Aside0.mk ha
          have e11 := PG ha 11
          exact VL (.slice Xo51 t1036.length ko51) (hK.out _ _ ⟨gb1042, PUT ha 8 hb, HM⟩)
         refine SZ ?_ ?_
         ·rintro b a w ⟨gb1042, ha, HM⟩ hb hon hoff K hK
          replace ha := Aside0.mk ha
          have e80 := PE ha 2 hon
          have e83 := PE ha 5 hon
          have e84 := PE ha 6 hon
          have e85 := PE ha 7 hon
          have e86 := PE ha 8 hon
          exact VL (.agg #[.int .i64 (rd t1021 0), .int .i64 (rd t1021 1), .slice Xo49 t1026.length ko49, .slice Xo50 t1031.length ko50, .slice Xo51 t1036.length ko51]) (hK.out _ _ ⟨gb1042, PUT ha 9 hb, HM⟩)
         refine SZ ?_ ?_
         ·rintro b a w ⟨gb1042, ha, HM⟩ hb hon hoff K hK
          replace ha := Aside0.mk ha
          refine ST (eB 13 32 [.int .i64 0, .int .i64 0, .slice none 0 0, .slice none 0 0, .slice none 0 0] HM rfl ?_)
          clear HM
          intro gb1042 w52 HM
          exact hK.out _ _ ⟨gb1042, PUT ha 10 hb, (HM.iF 6 rfl (hoff 11 rfl)).pick [0, 1, 2, 3, 4, 6]⟩
         refine SZ ?_ ?_
         ·rintro b a w ⟨gb1042, ha, HM⟩ hb hon hoff K hK
          replace ha := Aside0.mk ha
          replace HM := (HM.sF 5 rfl hb).sT 5 rfl (hon 10 rfl)
          have e13 := PE ha 10 hon
          have e87 := PE ha 9 hon
          refine ST (eS 5 13 0 [.int .i64 (rd t1021 0), .int .i64 (rd t1021 1), .slice Xo49 t1026.length ko49, .slice Xo50 t1031.length ko50, .slice Xo51 t1036.length ko51] HM rfl rfl ?_ (hp := (eval_of e13)) (hx := (by rw [eval_of e87]; rfl)))
          clear HM
          intro w53 HM
          exact hK.out _ _ ⟨gb1042, PUS ha, (HM).pick [0, 1, 2, 3, 4, 5]⟩
         exact steps_nil
        rintro _ w54 ⟨gb1042, rfl, HM⟩
        replace HM := HM.sT 5 rfl rfl
        simp only [putSel, if_true, Act.put, List.setIfInBounds_toArray, List.set_cons_zero, List.set_cons_succ, gt_iff_lt, ge_iff_le]
        replace H := BN H; obtain ⟨t1043, A56, H⟩ := H
        obtain ⟨_,_,_,_,_,_,_,_,_,_⟩ := bk5 (HM.bx 5 rfl)
        go_upto_if 90 with (first | ((with_reducible refine gC 60 rfl ?_); refine pC (some 89) rfl #[.agg #[.int .i64 (rd t1021 0), .int .i64 (rd t1021 1), .slice Xo49 t1026.length ko49, .slice Xo50 t1031.length ko50, .slice Xo51 t1036.length ko51]] rfl Try.func60 (impl_ThreeOk.calls kj25 (rd t1021 0) (rd t1021 1) _ _ t1026 _ _ t1031 _ _ t1036 t1043 _ (HM.CR 1 rfl).2.2 (HM.CR 1 rfl).2.1 (HM.CR 2 rfl).2.2 (HM.CR 2 rfl).2.1 (HM.CR 3 rfl).2.2 (HM.CR 3 rfl).2.1 A56.out) ?_; rintro e w57 ⟨rfl, hR⟩; refine ⟨_, rfl, ?_⟩; replace HM := HM.call hR; clear hR))
        replace H := IB H
        rcases H with ⟨c58, H⟩ | ⟨c58, H⟩
        ·subst c58
         simp only [Option.some.injEq, Prod.mk.injEq] at H
         obtain ⟨rfl, rfl, rfl, rfl, rfl, rfl⟩ := H
         obtain ⟨_,_,_,_,_,_,_,_,_,_⟩ := bk5 (HM.bx 5 rfl)
         go_wp2_with (first | ((with_reducible refine gS 2 rfl ?_); refine pS 4 2 0 [.int .i64 (rd t1021 0), .int .i64 (rd t1021 1), .slice Xo49 t1026.length ko49, .slice Xo50 t1031.length ko50, .slice Xo51 t1036.length ko51] HM rfl rfl ?_; clear HM; intro w60 HM))
         refine bodyPost_ret (results_ct rfl _ _ gb1015 32 #[.int .i64 (rd t1021 0), .int .i64 (rd t1021 1), .slice Xo49 t1026.length ko49, .slice Xo50 t1031.length ko50, .slice Xo51 t1036.length ko51] (0, 0) _ rfl (HM.bx 4 rfl) Try.underlying32 rfl (by kernel_rfl)) rfl ?_
         exact ⟨_, _, _, ER, (MD HM).pick [1, 2, 3]⟩
        ·subst c58
         simp only [Option.some.injEq, Prod.mk.injEq] at H
         obtain ⟨rfl, rfl, rfl, rfl, rfl, rfl⟩ := H
         go_wp2_with (first | ((with_reducible refine gS 2 rfl ?_); refine pS 4 2 0 [.int .i64 0, .int .i64 0, .slice none 0 0, .slice none 0 0, .slice none 0 0] HM rfl rfl ?_; clear HM; intro w61 HM; replace HM := HM.nl k122 122; replace HM := HM.nl k122 122; replace HM := HM.nl (Kd.int .i64) 3))
         refine bodyPost_ret (results_ct rfl _ _ gb1015 32 #[.int .i64 0, .int .i64 0, .slice none 0 0, .slice none 0 0, .slice none 0 0] (0, 0) _ rfl (HM.bx 4 rfl) Try.underlying32 rfl (by kernel_rfl)) rfl ?_
         exact ⟨_, _, _, ER, (MD HM).pick [6, 7, 8]⟩
end Go.Proofs.Ythnedklbobbkcaa.G

namespace Go.Proofs.Ythnedklbobbkcaa.G
open Go.RowKit Go.Proofs.YthnedklbobbkcaaW.PrintWords Go.Proofs.YthnedklbobbkcaaW.PrintLast Go.Proofs.YthnedklbobbkcaaW.PrintMore Go.Proofs.Ythnedklbobbkcaa.Sh
attribute [local go_sem] max2_int min2_int max_two min_two max_three min_three max_four min_four
set_option linter.unusedVariables false
set_option linter.unusedSimpArgs false
attribute [local go_sem high] eqA122
def slices_Equal_impl_Item_impl_Item.l0 : Nat → List (S122) → List (S122) → Int → Int → Option (Bool)
 | 0, _, _, _, _ => none
 | k + 1, x0, x1, x12, x13 => if x13 < x12 then (if 0 ≤ x13 then (if x13 < (x0.length : Int) then (if x13 < (x1.length : Int) then (if (!((((rd_T122 x0 x13).f0).toList) == (((rd_T122 x1 x13).f0).toList)) || (!((((rd_T122 x0 x13).f1).toList) == (((rd_T122 x1 x13).f1).toList)) || (!(((rd_T122 x0 x13).f2) == ((rd_T122 x1 x13).f2))))) = true then (some false) else (slices_Equal_impl_Item_impl_Item.l0 k x0 x1 x12 (wrap64 (x13 + 1)))) else (none)) else (none)) else (none)) else (some true)
def slices_Equal_impl_Item_impl_Item.f (k : Nat) (l0 : List (S122)) (l1 : List (S122)) : Option (Bool) := if (l0.length : Int) = (l1.length : Int) then (slices_Equal_impl_Item_impl_Item.l0 k l0 l1 (l0.length : Int) 0) else (some false)
theorem slices_Equal_impl_Item_impl_Item.calls (k : Nat) (A0 : Option Addr) (c0 : Nat) (l0 : List (S122)) (A1 : Option Addr) (c1 : Nat) (l1 : List (S122)) (r : Bool) (w : World) (hr0 : Kd.C k122 w A0 l0.length l0) (hc0 : l0.length ≤ c0) (hr1 : Kd.C k122 w A1 l1.length l1) (hc1 : l1.length ≤ c1) (h : slices_Equal_impl_Item_impl_Item.f k l0 l1 = some r) :
  Calls Try.prog 66 #[.slice A0 l0.length c0, .slice A1 l1.length c1] w fun e w' => e = .returned (.bool r) ∧ Drawn0 w w' := by
 have hu122 := Try.underlying122
 have HR0 := Aside0.mk hr0
 have HC0 := Aside0.mk hc0
 clear hr0 hc0
 have HR1 := Aside0.mk hr1
 have HC1 := Aside0.mk hc1
 clear hr1 hc1
 have H : (if (l0.length : Int) = (l1.length : Int) then (slices_Equal_impl_Item_impl_Item.l0 k l0 l1 (l0.length : Int) 0) else (some false)) = some r := h
 clear h
 by_cases c3 : (l0.length : Int) = (l1.length : Int)
 ·rw [if_pos c3] at H
  have c3b0 : ((l0.length : Int) == (l1.length : Int)) = true := beq_iff_eq.mpr c3
  have c3b1 : ((l0.length : Int) != (l1.length : Int)) = false := bne_eq_false_iff_eq.mpr c3
  have c3b2 : (l0.length == l1.length) = true := by first | simpa using c3 | (simp at c3 ⊢; omega)
  clear c3
  have H' := Aside0.mk H
  clear H
  go_enter Try.func66, Try.ntmps66
  go_wp2
  repeat (go_quiet (fail); try go_wp2)
  go_loopg [13] k (fun kq v13 w' => ∃ (x13_1 : Int), v13 = .int .i64 x13_1 ∧ Aside0 (slices_Equal_impl_Item_impl_Item.l0 kq l0 l1 (l0.length : Int) x13_1 = some r) ∧ Aside0 (kq ≤ k) ∧ Drawn0 w w')
  case atStart => exact ⟨(0), RS, H', ⟨Nat.le_refl _⟩, DR⟩
  case round =>
   clear H'
   try clear c1
   try clear p2
   try clear c3
   try clear c3b0
   try clear c3b1
   try clear c3b2
   obtain ⟨x13_1, rfl, HA, HK1, ⟨m1, rfl⟩⟩ := hrel
   cases gk with
   | zero => exact absurd HA.out (by simp [slices_Equal_impl_Item_impl_Item.l0])
   | succ k1 =>
    have H := HA.out
    clear HA
    simp only [slices_Equal_impl_Item_impl_Item.l0] at H
    by_cases c4 : x13_1 < (l0.length : Int)
    ·rw [if_pos c4] at H
     have c4b0 : decide (x13_1 < (l0.length : Int)) = true := decide_eq_true c4
     clear c4
     by_cases c5 : 0 ≤ x13_1
     ·rw [if_pos c5] at H
      have c5b0 : decide (0 ≤ x13_1) = true := decide_eq_true c5
      clear c5
      by_cases c6 : x13_1 < (l0.length : Int)
      ·rw [if_pos c6] at H
       have c6b0 : decide (x13_1 < (l0.length : Int)) = true := decide_eq_true c6
       clear c6
       by_cases c7 : x13_1 < (l1.length : Int)
       ·rw [if_pos c7] at H
        have c7b0 : decide (x13_1 < (l1.length : Int)) = true := decide_eq_true c7
        clear c7
        by_cases c8 : (!((((rd_T122 l0 x13_1).f0).toList) == (((rd_T122 l1 x13_1).f0).toList)) || (!((((rd_T122 l0 x13_1).f1).toList) == (((rd_T122 l1 x13_1).f1).toList)) || (!(((rd_T122 l0 x13_1).f2) == ((rd_T122 l1 x13_1).f2))))) = true
        ·rw [if_pos c8] at H
         have c8b0 : (!((((rd_T122 l0 x13_1).f0).toList) == (((rd_T122 l1 x13_1).f0).toList)) || (!((((rd_T122 l0 x13_1).f1).toList) == (((rd_T122 l1 x13_1).f1).toList)) || (!(((rd_T122 l0 x13_1).f2) == ((rd_T122 l1 x13_1).f2))))) = true := c8
         clear c8
         obtain rfl := Option.some.inj H
         have p1058 : 0 ≤ (x13_1 : Int) := of_decide_eq_true AS
         have q1058 : x13_1 < (l0.length : Int) := of_decide_eq_true AS
         obtain ⟨ad1058, e1058, hx1058_0, hx1058_1, hx1058_2⟩ := at_T122 HR0.out x13_1 p1058 q1058
         cases e1058
         replace p1058 := eq_true p1058
         replace q1058 := eq_true q1058
         have p1059 : 0 ≤ (x13_1 : Int) := of_decide_eq_true AS
         have q1059 : x13_1 < (l1.length : Int) := of_decide_eq_true AS
         obtain ⟨ad1059, e1059, hx1059_0, hx1059_1, hx1059_2⟩ := at_T122 HR1.out x13_1 p1059 q1059
         cases e1059
         replace p1059 := eq_true p1059
         replace q1059 := eq_true q1059
         go_wp2
         repeat (go_quiet (fail); try go_wp2)
         go_ret
         exact ⟨by first | rfl | (simp; done) | (simp [*]; done), DR⟩
        ·rw [if_neg c8] at H
         have c8b0 : (!((((rd_T122 l0 x13_1).f0).toList) == (((rd_T122 l1 x13_1).f0).toList)) || (!((((rd_T122 l0 x13_1).f1).toList) == (((rd_T122 l1 x13_1).f1).toList)) || (!(((rd_T122 l0 x13_1).f2) == ((rd_T122 l1 x13_1).f2))))) = false := by simpa using c8
         clear c8
         have H' := Aside0.mk H
         clear H
         have p1058 : 0 ≤ (x13_1 : Int) := of_decide_eq_true AS
         have q1058 : x13_1 < (l0.length : Int) := of_decide_eq_true AS
         obtain ⟨ad1058, e1058, hx1058_0, hx1058_1, hx1058_2⟩ := at_T122 HR0.out x13_1 p1058 q1058
         cases e1058
         replace p1058 := eq_true p1058
         replace q1058 := eq_true q1058
         have p1059 : 0 ≤ (x13_1 : Int) := of_decide_eq_true AS
         have q1059 : x13_1 < (l1.length : Int) := of_decide_eq_true AS
         obtain ⟨ad1059, e1059, hx1059_0, hx1059_1, hx1059_2⟩ := at_T122 HR1.out x13_1 p1059 q1059
         cases e1059
         replace p1059 := eq_true p1059
         replace q1059 := eq_true q1059
         go_wp2
         repeat (go_quiet (fail); try go_wp2)
         go_roundg k1
         case measure => have := HK1.out; omega
         case rel => exact ⟨(wrap64 (x13_1 + 1)), RS, H', ⟨by have := HK1.out; omega⟩, DR⟩
       ·rw [if_neg c7] at H
        exact absurd H (by simp)
      ·rw [if_neg c6] at H
       exact absurd H (by simp)
     ·rw [if_neg c5] at H
      exact absurd H (by simp)
    ·rw [if_neg c4] at H
     have c4b0 : decide (x13_1 < (l0.length : Int)) = false := decide_eq_false c4
     clear c4
     obtain rfl := Option.some.inj H
     go_wp2
     repeat (go_quiet (fail); try go_wp2)
     go_ret
     exact ⟨by first | rfl | (simp; done) | (simp [*]; done), DR⟩
 ·rw [if_neg c3] at H
  have c3b0 : ((l0.length : Int) == (l1.length : Int)) = false := beq_eq_false_iff_ne.mpr c3
  have c3b1 : ((l0.length : Int) != (l1.length : Int)) = true := bne_iff_ne.mpr c3
  have c3b2 : (l0.length == l1.length) = false := by first | simpa using c3 | (simp at c3 ⊢; omega)
  obtain rfl := Option.some.inj H
  go_enter Try.func66, Try.ntmps66
  go_wp2
  repeat (go_quiet (fail); try go_wp2)
  go_ret
  exact ⟨by first | rfl | (simp; done) | (simp [*]; done), DR⟩
end Go.Proofs.Ythnedklbobbkcaa.G

namespace Go.Proofs.Ythnedklbobbkcaa.G
open Go.RowKit Go.Proofs.YthnedklbobbkcaaW.PrintWords Go.Proofs.YthnedklbobbkcaaW.PrintLast Go.Proofs.YthnedklbobbkcaaW.PrintMore Go.Proofs.Ythnedklbobbkcaa.Sh
attribute [local go_sem] max2_int min2_int max_two min_two max_three min_three max_four min_four
set_option linter.unusedVariables false
set_option linter.unusedSimpArgs false
def slices_Equal_int_int.l0 : Nat → List Int → List Int → Int → Int → Option (Bool)
 | 0, _, _, _, _ => none
 | k + 1, x0, x1, x12, x13 => if x13 < x12 then (if 0 ≤ x13 then (if x13 < (x0.length : Int) then (if x13 < (x1.length : Int) then (if (rd x0 x13) = (rd x1 x13) then (slices_Equal_int_int.l0 k x0 x1 x12 (wrap64 (x13 + 1))) else (some false)) else (none)) else (none)) else (none)) else (some true)
def slices_Equal_int_int.f (k : Nat) (l0 : List Int) (l1 : List Int) : Option (Bool) := if (l0.length : Int) = (l1.length : Int) then (slices_Equal_int_int.l0 k l0 l1 (l0.length : Int) 0) else (some false)
theorem slices_Equal_int_int.calls (k : Nat) (A0 : Option Addr) (c0 : Nat) (l0 : List Int) (A1 : Option Addr) (c1 : Nat) (l1 : List Int) (r : Bool) (w : World) (hr0 : Kd.C (Kd.int .i64) w A0 l0.length l0) (hc0 : l0.length ≤ c0) (hr1 : Kd.C (Kd.int .i64) w A1 l1.length l1) (hc1 : l1.length ≤ c1) (h : slices_Equal_int_int.f k l0 l1 = some r) :
  Calls Try.prog 67 #[.slice A0 l0.length c0, .slice A1 l1.length c1] w fun e w' => e = .returned (.bool r) ∧ Drawn0 w w' := by
 have HR0 := Aside0.mk hr0
 have HC0 := Aside0.mk hc0
 clear hr0 hc0
 have HR1 := Aside0.mk hr1
 have HC1 := Aside0.mk hc1
 clear hr1 hc1
 have H : (if (l0.length : Int) = (l1.length : Int) then (slices_Equal_int_int.l0 k l0 l1 (l0.length : Int) 0) else (some false)) = some r := h
 clear h
 by_cases c3 : (l0.length : Int) = (l1.length : Int)
 ·rw [if_pos c3] at H
  have c3b0 : ((l0.length : Int) == (l1.length : Int)) = true := beq_iff_eq.mpr c3
  have c3b1 : ((l0.length : Int) != (l1.length : Int)) = false := bne_eq_false_iff_eq.mpr c3
  have c3b2 : (l0.length == l1.length) = true := by first | simpa using c3 | (simp at c3 ⊢; omega)
  clear c3
  have H' := Aside0.mk H
  clear H
  go_enter Try.func67, Try.ntmps67
  go_wp2
  repeat (go_quiet (fail); try go_wp2)
  go_loopg [13] k (fun kq v13 w' => ∃ (x13_1 : Int), v13 = .int .i64 x13_1 ∧ Aside0 (slices_Equal_int_int.l0 kq l0 l1 (l0.length : Int) x13_1 = some r) ∧ Aside0 (kq ≤ k) ∧ Drawn0 w w')
  case atStart => exact ⟨(0), RS, H', ⟨Nat.le_refl _⟩, DR⟩
  case round =>
   clear H'
   try clear c1
   try clear p2
   try clear c3
   try clear c3b0
   try clear c3b1
   try clear c3b2
   obtain ⟨x13_1, rfl, HA, HK1, ⟨m1, rfl⟩⟩ := hrel
   cases gk with
   | zero => exact absurd HA.out (by simp [slices_Equal_int_int.l0])
   | succ k1 =>
    have H := HA.out
    clear HA
    simp only [slices_Equal_int_int.l0] at H
    by_cases c4 : x13_1 < (l0.length : Int)
    ·rw [if_pos c4] at H
     have c4b0 : decide (x13_1 < (l0.length : Int)) = true := decide_eq_true c4
     clear c4
     by_cases c5 : 0 ≤ x13_1
     ·rw [if_pos c5] at H
      have c5b0 : decide (0 ≤ x13_1) = true := decide_eq_true c5
      clear c5
      by_cases c6 : x13_1 < (l0.length : Int)
      ·rw [if_pos c6] at H
       have c6b0 : decide (x13_1 < (l0.length : Int)) = true := decide_eq_true c6
       clear c6
       by_cases c7 : x13_1 < (l1.length : Int)
       ·rw [if_pos c7] at H
        have c7b0 : decide (x13_1 < (l1.length : Int)) = true := decide_eq_true c7
        clear c7
        by_cases c8 : (rd l0 x13_1) = (rd l1 x13_1)
        ·rw [if_pos c8] at H
         have c8b0 : ((rd l0 x13_1) == (rd l1 x13_1)) = true := beq_iff_eq.mpr c8
         have c8b1 : ((rd l0 x13_1) != (rd l1 x13_1)) = false := bne_eq_false_iff_eq.mpr c8
         clear c8
         have H' := Aside0.mk H
         clear H
         have p1062 : 0 ≤ (x13_1 : Int) := of_decide_eq_true AS
         have q1062 : x13_1 < (l0.length : Int) := of_decide_eq_true AS
         obtain ⟨ad1062, e1062, hx1062_0⟩ := Kd.at_int HR0.out x13_1 p1062 q1062
         cases e1062
         replace p1062 := eq_true p1062
         replace q1062 := eq_true q1062
         have p1063 : 0 ≤ (x13_1 : Int) := of_decide_eq_true AS
         have q1063 : x13_1 < (l1.length : Int) := of_decide_eq_true AS
         obtain ⟨ad1063, e1063, hx1063_0⟩ := Kd.at_int HR1.out x13_1 p1063 q1063
         cases e1063
         replace p1063 := eq_true p1063
         replace q1063 := eq_true q1063
         go_wp2
         repeat (go_quiet (fail); try go_wp2)
         go_roundg k1
         case measure => have := HK1.out; omega
         case rel => exact ⟨(wrap64 (x13_1 + 1)), RS, H', ⟨by have := HK1.out; omega⟩, DR⟩
        ·rw [if_neg c8] at H
         have c8b0 : ((rd l0 x13_1) == (rd l1 x13_1)) = false := beq_eq_false_iff_ne.mpr c8
         have c8b1 : ((rd l0 x13_1) != (rd l1 x13_1)) = true := bne_iff_ne.mpr c8
         obtain rfl := Option.some.inj H
         have p1062 : 0 ≤ (x13_1 : Int) := of_decide_eq_true AS
         have q1062 : x13_1 < (l0.length : Int) := of_decide_eq_true AS
         obtain ⟨ad1062, e1062, hx1062_0⟩ := Kd.at_int HR0.out x13_1 p1062 q1062
         cases e1062
         replace p1062 := eq_true p1062
         replace q1062 := eq_true q1062
         have p1063 : 0 ≤ (x13_1 : Int) := of_decide_eq_true AS
         have q1063 : x13_1 < (l1.length : Int) := of_decide_eq_true AS
         obtain ⟨ad1063, e1063, hx1063_0⟩ := Kd.at_int HR1.out x13_1 p1063 q1063
         cases e1063
         replace p1063 := eq_true p1063
         replace q1063 := eq_true q1063
         go_wp2
         repeat (go_quiet (fail); try go_wp2)
         go_ret
         exact ⟨by first | rfl | (simp; done) | (simp [*]; done), DR⟩
       ·rw [if_neg c7] at H
        exact absurd H (by simp)
      ·rw [if_neg c6] at H
       exact absurd H (by simp)
     ·rw [if_neg c5] at H
      exact absurd H (by simp)
    ·rw [if_neg c4] at H
     have c4b0 : decide (x13_1 < (l0.length : Int)) = false := decide_eq_false c4
     clear c4
     obtain rfl := Option.some.inj H
     go_wp2
     repeat (go_quiet (fail); try go_wp2)
     go_ret
     exact ⟨by first | rfl | (simp; done) | (simp [*]; done), DR⟩
 ·rw [if_neg c3] at H
  have c3b0 : ((l0.length : Int) == (l1.length : Int)) = false := beq_eq_false_iff_ne.mpr c3
  have c3b1 : ((l0.length : Int) != (l1.length : Int)) = true := bne_iff_ne.mpr c3
  have c3b2 : (l0.length == l1.length) = false := by first | simpa using c3 | (simp at c3 ⊢; omega)
  obtain rfl := Option.some.inj H
  go_enter Try.func67, Try.ntmps67
  go_wp2
  repeat (go_quiet (fail); try go_wp2)
  go_ret
  exact ⟨by first | rfl | (simp; done) | (simp [*]; done), DR⟩
end Go.Proofs.Ythnedklbobbkcaa.G

namespace Go.Proofs.Ythnedklbobbkcaa.G
open Go.RowKit Go.Proofs.YthnedklbobbkcaaW.PrintWords Go.Proofs.YthnedklbobbkcaaW.PrintLast Go.Proofs.YthnedklbobbkcaaW.PrintMore Go.Proofs.Ythnedklbobbkcaa.Sh
attribute [local go_sem] max2_int min2_int max_two min_two max_three min_three max_four min_four
set_option linter.unusedVariables false
set_option linter.unusedSimpArgs false
open Go.Proofs.Ythnedklbobbkcaa.Mm
def impl_Alike.f (k : Nat) (a0_0 : Int) (a0_1 : Int) (l0_2 : List (S122)) (l0_3 : List (S122)) (l0_4 : List Int) (a1_0 : Int) (a1_1 : Int) (l1_2 : List (S122)) (l1_3 : List (S122)) (l1_4 : List Int) : Option (Bool) := if a0_0 = a1_0 then (if a0_1 = a1_1 then ((slices_Equal_impl_Item_impl_Item.f k l0_2 l1_2).bind fun t1066 => (if t1066 = true then ((slices_Equal_impl_Item_impl_Item.f k l0_3 l1_3).bind fun t1067 => (if t1067 = true then ((slices_Equal_int_int.f k l0_4 l1_4).bind fun t1068 => (some t1068)) else (some false))) else (some false))) else (some false)) else (some false)
theorem impl_Alike.calls (k : Nat) (a0_0 : Int) (a0_1 : Int) (A0_2 : Option Addr) (c0_2 : Nat) (l0_2 : List (S122)) (A0_3 : Option Addr) (c0_3 : Nat) (l0_3 : List (S122)) (A0_4 : Option Addr) (c0_4 : Nat) (l0_4 : List Int) (a1_0 : Int) (a1_1 : Int) (A1_2 : Option Addr) (c1_2 : Nat) (l1_2 : List (S122)) (A1_3 : Option Addr) (c1_3 : Nat) (l1_3 : List (S122)) (A1_4 : Option Addr) (c1_4 : Nat) (l1_4 : List Int) (r : Bool) (w : World) (hr0_2 : Kd.C k122 w A0_2 l0_2.length l0_2) (hc0_2 : l0_2.length ≤ c0_2) (hr0_3 : Kd.C k122 w A0_3 l0_3.length l0_3) (hc0_3 : l0_3.length ≤ c0_3) (hr0_4 : Kd.C (Kd.int .i64) w A0_4 l0_4.length l0_4) (hc0_4 : l0_4.length ≤ c0_4) (hr1_2 : Kd.C k122 w A1_2 l1_2.length l1_2) (hc1_2 : l1_2.length ≤ c1_2) (hr1_3 : Kd.C k122 w A1_3 l1_3.length l1_3) (hc1_3 : l1_3.length ≤ c1_3) (hr1_4 : Kd.C (Kd.int .i64) w A1_4 l1_4.length l1_4) (hc1_4 : l1_4.length ≤ c1_4) (h : impl_Alike.f k a0_0 a0_1 l0_2 l0_3 l0_4 a1_0 a1_1 l1_2 l1_3 l1_4 = some r) :
  Calls Try.prog 16 #[.agg #[.int .i64 a0_0, .int .i64 a0_1, .slice A0_2 l0_2.length c0_2, .slice A0_3 l0_3.length c0_3, .slice A0_4 l0_4.length c0_4], .agg #[.int .i64 a1_0, .int .i64 a1_1, .slice A1_2 l1_2.length c1_2, .slice A1_3 l1_3.length c1_3, .slice A1_4 l1_4.length c1_4]] w fun e w' => e = .returned (.bool r) ∧ Mem w [] w' [] := by
 have hu32 := Try.underlying32
 have HR0_2 := Aside0.mk hr0_2
 have HC0_2 := Aside0.mk hc0_2
 clear hr0_2 hc0_2
 have HR0_3 := Aside0.mk hr0_3
 have HC0_3 := Aside0.mk hc0_3
 clear hr0_3 hc0_3
 have HR0_4 := Aside0.mk hr0_4
 have HC0_4 := Aside0.mk hc0_4
 clear hr0_4 hc0_4
 have HR1_2 := Aside0.mk hr1_2
 have HC1_2 := Aside0.mk hc1_2
 clear hr1_2 hc1_2
 have HR1_3 := Aside0.mk hr1_3
 have HC1_3 := Aside0.mk hc1_3
 clear hr1_3 hc1_3
 have HR1_4 := Aside0.mk hr1_4
 have HC1_4 := Aside0.mk hc1_4
 clear hr1_4 hc1_4
 have HM := Mem.nil w
 have H := h
 clear h
 unfold impl_Alike.f at H
 go_enter Try.func16, Try.ntmps16
 replace H := IT H; rcases H with ⟨c7, H⟩ | ⟨c7, H⟩
 ·obtain ⟨c7b0, c7b1⟩ := BE c7
  clear c7
  replace H := IT H; rcases H with ⟨c8, H⟩ | ⟨c8, H⟩
  ·obtain ⟨c8b0, c8b1⟩ := BE c8
   clear c8
   replace H := BN H; obtain ⟨t1066, A9, H⟩ := H
   replace H := IB H
   rcases H with ⟨c11, H⟩ | ⟨c11, H⟩
   ·subst c11
    replace H := BN H; obtain ⟨t1067, A14, H⟩ := H
    replace H := IB H
    rcases H with ⟨c16, H⟩ | ⟨c16, H⟩
    ·subst c16
     replace H := BN H; obtain ⟨t1068, A19, H⟩ := H
     obtain rfl := Option.some.inj H
     go_wp2_with (first | ((with_reducible refine gN 2 rfl ?_); refine pB 2 32 [.int .i64 a0_0, .int .i64 a0_1, .slice A0_2 l0_2.length c0_2, .slice A0_3 l0_3.length c0_3, .slice A0_4 l0_4.length c0_4] HM rfl ?_; clear HM; intro gb1064 w3 HM) | ((with_reducible refine gN 3 rfl ?_); refine pB 3 32 [.int .i64 a1_0, .int .i64 a1_1, .slice A1_2 l1_2.length c1_2, .slice A1_3 l1_3.length c1_3, .slice A1_4 l1_4.length c1_4] HM rfl ?_; clear HM; intro gb1065 w4 HM; obtain ⟨_,_,_,_,_,_,_,_,_,_⟩ := bk5 (HM.bx 0 rfl); obtain ⟨_,_,_,_,_,_,_,_,_,_⟩ := bk5 (HM.bx 1 rfl)) | ((with_reducible refine gC 66 rfl ?_); refine pC (some 22) rfl #[.slice A0_2 l0_2.length c0_2, .slice A1_2 l1_2.length c1_2] rfl Try.func66 (slices_Equal_impl_Item_impl_Item.calls k _ _ l0_2 _ _ l1_2 true _ (HM.came HR0_2.out) HC0_2.out (HM.came HR1_2.out) HC1_2.out A9.out) ?_; rintro e w10 ⟨rfl, hd⟩; refine ⟨_, rfl, ?_⟩; replace HM := HM.drawn hd; clear hd; obtain ⟨_,_,_,_,_,_,_,_,_,_⟩ := bk5 (HM.bx 0 rfl); obtain ⟨_,_,_,_,_,_,_,_,_,_⟩ := bk5 (HM.bx 1 rfl)) | ((with_reducible refine gC 66 rfl ?_); refine pC (some 29) rfl #[.slice A0_3 l0_3.length c0_3, .slice A1_3 l1_3.length c1_3] rfl Try.func66 (slices_Equal_impl_Item_impl_Item.calls k _ _ l0_3 _ _ l1_3 true _ (HM.came HR0_3.out) HC0_3.out (HM.came HR1_3.out) HC1_3.out A14.out) ?_; rintro e w15 ⟨rfl, hd⟩; refine ⟨_, rfl, ?_⟩; replace HM := HM.drawn hd; clear hd; obtain ⟨_,_,_,_,_,_,_,_,_,_⟩ := bk5 (HM.bx 0 rfl); obtain ⟨_,_,_,_,_,_,_,_,_,_⟩ := bk5 (HM.bx 1 rfl)) | ((with_reducible refine gC 67 rfl ?_); refine pC (some 36) rfl #[.slice A0_4 l0_4.length c0_4, .slice A1_4 l1_4.length c1_4] rfl Try.func67 (slices_Equal_int_int.calls k _ _ l0_4 _ _ l1_4 t1068 _ (HM.came HR0_4.out) HC0_4.out (HM.came HR1_4.out) HC1_4.out A19.out) ?_; rintro e w20 ⟨rfl, hd⟩; refine ⟨_, rfl, ?_⟩; replace HM := HM.drawn hd; clear hd))
     go_ret
     exact ⟨ER, (MD HM).pick []⟩
    ·subst c16
     obtain rfl := Option.some.inj H
     go_wp2_with (first | ((with_reducible refine gN 2 rfl ?_); refine pB 2 32 [.int .i64 a0_0, .int .i64 a0_1, .slice A0_2 l0_2.length c0_2, .slice A0_3 l0_3.length c0_3, .slice A0_4 l0_4.length c0_4] HM rfl ?_; clear HM; intro gb1064 w3 HM) | ((with_reducible refine gN 3 rfl ?_); refine pB 3 32 [.int .i64 a1_0, .int .i64 a1_1, .slice A1_2 l1_2.length c1_2, .slice A1_3 l1_3.length c1_3, .slice A1_4 l1_4.length c1_4] HM rfl ?_; clear HM; intro gb1065 w4 HM; obtain ⟨_,_,_,_,_,_,_,_,_,_⟩ := bk5 (HM.bx 0 rfl); obtain ⟨_,_,_,_,_,_,_,_,_,_⟩ := bk5 (HM.bx 1 rfl)) | ((with_reducible refine gC 66 rfl ?_); refine pC (some 22) rfl #[.slice A0_2 l0_2.length c0_2, .slice A1_2 l1_2.length c1_2] rfl Try.func66 (slices_Equal_impl_Item_impl_Item.calls k _ _ l0_2 _ _ l1_2 true _ (HM.came HR0_2.out) HC0_2.out (HM.came HR1_2.out) HC1_2.out A9.out) ?_; rintro e w10 ⟨rfl, hd⟩; refine ⟨_, rfl, ?_⟩; replace HM := HM.drawn hd; clear hd; obtain ⟨_,_,_,_,_,_,_,_,_,_⟩ := bk5 (HM.bx 0 rfl); obtain ⟨_,_,_,_,_,_,_,_,_,_⟩ := bk5 (HM.bx 1 rfl)) | ((with_reducible refine gC 66 rfl ?_); refine pC (some 29) rfl #[.slice A0_3 l0_3.length c0_3, .slice A1_3 l1_3.length c1_3] rfl Try.func66 (slices_Equal_impl_Item_impl_Item.calls k _ _ l0_3 _ _ l1_3 false _ (HM.came HR0_3.out) HC0_3.out (HM.came HR1_3.out) HC1_3.out A14.out) ?_; rintro e w15 ⟨rfl, hd⟩; refine ⟨_, rfl, ?_⟩; replace HM := HM.drawn hd; clear hd))
     go_ret
     exact ⟨ER, (MD HM).pick []⟩
   ·subst c11
    obtain rfl := Option.some.inj H
    go_wp2_with (first | ((with_reducible refine gN 2 rfl ?_); refine pB 2 32 [.int .i64 a0_0, .int .i64 a0_1, .slice A0_2 l0_2.length c0_2, .slice A0_3 l0_3.length c0_3, .slice A0_4 l0_4.length c0_4] HM rfl ?_; clear HM; intro gb1064 w3 HM) | ((with_reducible refine gN 3 rfl ?_); refine pB 3 32 [.int .i64 a1_0, .int .i64 a1_1, .slice A1_2 l1_2.length c1_2, .slice A1_3 l1_3.length c1_3, .slice A1_4 l1_4.length c1_4] HM rfl ?_; clear HM; intro gb1065 w4 HM; obtain ⟨_,_,_,_,_,_,_,_,_,_⟩ := bk5 (HM.bx 0 rfl); obtain ⟨_,_,_,_,_,_,_,_,_,_⟩ := bk5 (HM.bx 1 rfl)) | ((with_reducible refine gC 66 rfl ?_); refine pC (some 22) rfl #[.slice A0_2 l0_2.length c0_2, .slice A1_2 l1_2.length c1_2] rfl Try.func66 (slices_Equal_impl_Item_impl_Item.calls k _ _ l0_2 _ _ l1_2 false _ (HM.came HR0_2.out) HC0_2.out (HM.came HR1_2.out) HC1_2.out A9.out) ?_; rintro e w10 ⟨rfl, hd⟩; refine ⟨_, rfl, ?_⟩; replace HM := HM.drawn hd; clear hd))
    go_ret
    exact ⟨ER, (MD HM).pick []⟩
  ·obtain ⟨c8b0, c8b1⟩ := BF c8
   obtain rfl := Option.some.inj H
   go_wp2_with (first | ((with_reducible refine gN 2 rfl ?_); refine pB 2 32 [.int .i64 a0_0, .int .i64 a0_1, .slice A0_2 l0_2.length c0_2, .slice A0_3 l0_3.length c0_3, .slice A0_4 l0_4.length c0_4] HM rfl ?_; clear HM; intro gb1064 w3 HM) | ((with_reducible refine gN 3 rfl ?_); refine pB 3 32 [.int .i64 a1_0, .int .i64 a1_1, .slice A1_2 l1_2.length c1_2, .slice A1_3 l1_3.length c1_3, .slice A1_4 l1_4.length c1_4] HM rfl ?_; clear HM; intro gb1065 w4 HM; obtain ⟨_,_,_,_,_,_,_,_,_,_⟩ := bk5 (HM.bx 0 rfl); obtain ⟨_,_,_,_,_,_,_,_,_,_⟩ := bk5 (HM.bx 1 rfl)))
   go_ret
   exact ⟨ER, (MD HM).pick []⟩
 ·obtain ⟨c7b0, c7b1⟩ := BF c7
  obtain rfl := Option.some.inj H
  go_wp2_with (first | ((with_reducible refine gN 2 rfl ?_); refine pB 2 32 [.int .i64 a0_0, .int .i64 a0_1, .slice A0_2 l0_2.length c0_2, .slice A0_3 l0_3.length c0_3, .slice A0_4 l0_4.length c0_4] HM rfl ?_; clear HM; intro gb1064 w3 HM) | ((with_reducible refine gN 3 rfl ?_); refine pB 3 32 [.int .i64 a1_0, .int .i64 a1_1, .slice A1_2 l1_2.length c1_2, .slice A1_3 l1_3.length c1_3, .slice A1_4 l1_4.length c1_4] HM rfl ?_; clear HM; intro gb1065 w4 HM; obtain ⟨_,_,_,_,_,_,_,_,_,_⟩ := bk5 (HM.bx 0 rfl); obtain ⟨_,_,_,_,_,_,_,_,_,_⟩ := bk5 (HM.bx 1 rfl)))
  go_ret
  exact ⟨ER, (MD HM).pick []⟩
end Go.Proofs.Ythnedklbobbkcaa.G

namespace Go.Proofs.Ythnedklbobbkcaa.G
open Go.RowKit Go.Proofs.YthnedklbobbkcaaW.PrintWords Go.Proofs.YthnedklbobbkcaaW.PrintLast Go.Proofs.YthnedklbobbkcaaW.PrintMore Go.Proofs.Ythnedklbobbkcaa.Sh
attribute [local go_sem] max2_int min2_int max_two min_two max_three min_three max_four min_four
set_option linter.unusedVariables false
set_option linter.unusedSimpArgs false
def impl_Hash.l0 : Nat → ByteArray → Int → Int → Option (Int)
 | 0, _, _, _ => none
 | k + 1, x0, x3, x4 => if x4 < (x0.size : Int) then (if 0 ≤ x4 then (impl_Hash.l0 k x0 (Int.tmod (wrap64 ((Go.bits .xor .i64 x3 (wrap64 (bt x0 x4))) * 16777619)) 4294967296) (wrap64 (x4 + 1))) else (none)) else (some x3)
def impl_Hash.f (k : Nat) (a0 : ByteArray) : Option (Int) := impl_Hash.l0 k a0 2166136261 0
theorem impl_Hash.calls (k : Nat) (a0 : ByteArray) (r : Int) (w : World) (h : impl_Hash.f k a0 = some r) :
  Calls Try.prog 18 #[.string a0] w fun e w' => e = .returned (.int .i64 r) ∧ Drawn0 w w' := by
 have H : (impl_Hash.l0 k a0 2166136261 0) = some r := h
 clear h
 have H' := Aside0.mk H
 clear H
 go_enter Try.func18, Try.ntmps18
 go_wp2
 go_loopg [3, 4] k (fun kq v3 v4 w' => ∃ (x3_1 : Int) (x4_1 : Int), v3 = .int .i64 x3_1 ∧ v4 = .int .i64 x4_1 ∧ Aside0 (impl_Hash.l0 kq a0 x3_1 x4_1 = some r) ∧ Aside0 (kq ≤ k) ∧ Drawn0 w w')
 case atStart => exact ⟨(2166136261), (0), RS, RS, H', ⟨Nat.le_refl _⟩, DR⟩
 case round =>
  clear H'
  try clear c1
  obtain ⟨x3_1, x4_1, rfl, rfl, HA, HK1, ⟨m1, rfl⟩⟩ := hrel
  cases gk with
  | zero => exact absurd HA.out (by simp [impl_Hash.l0])
  | succ k1 =>
   have H := HA.out
   clear HA
   simp only [impl_Hash.l0] at H
   by_cases c2 : x4_1 < (a0.size : Int)
   ·rw [if_pos c2] at H
    have c2b0 : decide (x4_1 < (a0.size : Int)) = true := decide_eq_true c2
    clear c2
    by_cases c3 : 0 ≤ x4_1
    ·rw [if_pos c3] at H
     have c3b0 : decide (0 ≤ x4_1) = true := decide_eq_true c3
     clear c3
     have H' := Aside0.mk H
     clear H
     have p4 : 0 ≤ (x4_1 : Int) := of_decide_eq_true AS
     have q4 : x4_1 < (a0.size : Int) := of_decide_eq_true AS
     have hx4 := bt_at a0 x4_1
     replace p4 := eq_true p4
     replace q4 := eq_true q4
     go_wp2
     go_roundg k1
     case measure => have := HK1.out; omega
     case rel => exact ⟨(Int.tmod (wrap64 ((Go.bits .xor .i64 x3_1 (wrap64 (bt a0 x4_1))) * 16777619)) 4294967296), (wrap64 (x4_1 + 1)), RS, RS, H', ⟨by have := HK1.out; omega⟩, DR⟩
    ·rw [if_neg c3] at H
     exact absurd H (by simp)
   ·rw [if_neg c2] at H
    have c2b0 : decide (x4_1 < (a0.size : Int)) = false := decide_eq_false c2
    clear c2
    obtain rfl := Option.some.inj H
    go_wp2
    go_ret
    exact ⟨by first | rfl | (simp; done) | (simp [*]; done), DR⟩
end Go.Proofs.Ythnedklbobbkcaa.G

namespace Go.Proofs.Ythnedklbobbkcaa.G
open Go.RowKit Go.Proofs.YthnedklbobbkcaaW.PrintWords Go.Proofs.YthnedklbobbkcaaW.PrintLast Go.Proofs.YthnedklbobbkcaaW.PrintMore Go.Proofs.Ythnedklbobbkcaa.Sh
attribute [local go_sem] max2_int min2_int max_two min_two max_three min_three max_four min_four
set_option linter.unusedVariables false
set_option linter.unusedSimpArgs false
open Go.Proofs.Ythnedklbobbkcaa.Mm
def impl_Digest.f (k : Nat) (a0_0 : Int) (a0_1 : Int) (l0_2 : List (S122)) (l0_3 : List (S122)) (l0_4 : List Int) : Option (Int) := (impl_ThreeText.f k a0_0 a0_1 l0_2 l0_3 l0_4).bind fun t1070 => (if t1070.toList = ([] : List UInt8) then (some 0) else ((impl_Hash.f k t1070).bind fun t1071 => (some t1071)))
theorem impl_Digest.calls (k : Nat) (a0_0 : Int) (a0_1 : Int) (A0_2 : Option Addr) (c0_2 : Nat) (l0_2 : List (S122)) (A0_3 : Option Addr) (c0_3 : Nat) (l0_3 : List (S122)) (A0_4 : Option Addr) (c0_4 : Nat) (l0_4 : List Int) (r : Int) (w : World) (hr0_2 : Kd.C k122 w A0_2 l0_2.length l0_2) (hc0_2 : l0_2.length ≤ c0_2) (hr0_3 : Kd.C k122 w A0_3 l0_3.length l0_3) (hc0_3 : l0_3.length ≤ c0_3) (hr0_4 : Kd.C (Kd.int .i64) w A0_4 l0_4.length l0_4) (hc0_4 : l0_4.length ≤ c0_4) (h : impl_Digest.f k a0_0 a0_1 l0_2 l0_3 l0_4 = some r) :
  Calls Try.prog 17 #[.agg #[.int .i64 a0_0, .int .i64 a0_1, .slice A0_2 l0_2.length c0_2, .slice A0_3 l0_3.length c0_3, .slice A0_4 l0_4.length c0_4]] w fun e w' => e = .returned (.int .i64 r) ∧ Mem w [] w' [] := by
 have hu32 := Try.underlying32
 have HR0_2 := Aside0.mk hr0_2
 have HC0_2 := Aside0.mk hc0_2
 clear hr0_2 hc0_2
 have HR0_3 := Aside0.mk hr0_3
 have HC0_3 := Aside0.mk hc0_3
 clear hr0_3 hc0_3
 have HR0_4 := Aside0.mk hr0_4
 have HC0_4 := Aside0.mk hc0_4
 clear hr0_4 hc0_4
 have HM := Mem.nil w
 have H := h
 clear h
 unfold impl_Digest.f at H
 go_enter Try.func17, Try.ntmps17
 replace H := BN H; obtain ⟨t1070, A4, H⟩ := H
 go_upto_if 7 with (first | ((with_reducible refine gN 1 rfl ?_); refine pB 1 32 [.int .i64 a0_0, .int .i64 a0_1, .slice A0_2 l0_2.length c0_2, .slice A0_3 l0_3.length c0_3, .slice A0_4 l0_4.length c0_4] HM rfl ?_; clear HM; intro gb1069 w2 HM; obtain ⟨_,_,_,_,_,_,_,_,_,_⟩ := bk5 (HM.bx 0 rfl)) | ((with_reducible refine gC 14 rfl ?_); refine pC (some 5) rfl #[.agg #[.int .i64 a0_0, .int .i64 a0_1, .slice A0_2 l0_2.length c0_2, .slice A0_3 l0_3.length c0_3, .slice A0_4 l0_4.length c0_4]] rfl Try.func14 (impl_ThreeText.calls k a0_0 a0_1 _ _ l0_2 _ _ l0_3 _ _ l0_4 t1070 _ (HM.came HR0_2.out) HC0_2.out (HM.came HR0_3.out) HC0_3.out (HM.came HR0_4.out) HC0_4.out A4.out) ?_; rintro e w5 ⟨rfl, hR⟩; refine ⟨_, rfl, ?_⟩; replace HM := HM.call hR; clear hR))
 replace HM := nzM HM
 replace H := IT H; rcases H with ⟨c6, H⟩ | ⟨c6, H⟩
 ·obtain ⟨c6b0, c6b1⟩ := BE c6
  have c6b6 : (t1070.toList).isEmpty = true := by first | (rw [c6]; rfl) | (cases h_ : t1070.toList with | nil => exact absurd h_ c6 | cons _ _ => rfl)
  clear c6
  first|rw [c6b0]|rw [c6b1]|rw [c6b6]|(simp only [bne, c6b6, Bool.not_true, Bool.not_false])|(simp only [i64_w, i32_w]; rw [c6b0])|skip
  obtain rfl := Option.some.inj H
  go_wp2
  go_ret
  exact ⟨ER, (MD HM).pick []⟩
 ·obtain ⟨c6b0, c6b1⟩ := BF c6
  have c6b6 : (t1070.toList).isEmpty = false := by first | (rw [c6]; rfl) | (cases h_ : t1070.toList with | nil => exact absurd h_ c6 | cons _ _ => rfl)
  first|rw [c6b0]|rw [c6b1]|rw [c6b6]|(simp only [bne, c6b6, Bool.not_true, Bool.not_false])|(simp only [i64_w, i32_w]; rw [c6b0])|skip
  replace H := BN H; obtain ⟨t1071, A7, H⟩ := H
  obtain rfl := Option.some.inj H
  go_wp2_with (first | ((with_reducible refine gC 18 rfl ?_); refine pC (some 9) rfl #[.string t1070] rfl Try.func18 (impl_Hash.calls k t1070 t1071 _ A7.out) ?_; rintro e w8 ⟨rfl, hd⟩; refine ⟨_, rfl, ?_⟩; replace HM := HM.drawn hd; clear hd))
  go_ret
  exact ⟨ER, (MD HM).pick []⟩
def impl_TextAsks.f (k : Nat) (a0 : ByteArray) : Option (List ByteArray × Bool) := if a0.toList = ([] : List UInt8) then (some ((([] : List ByteArray)), true)) else ((impl_Cut.f k a0).bind fun t1140 => ((impl_AsksOk.f k t1140).bind fun t1143 => (if t1143 = true then (some (t1140, true)) else (some (([] : List ByteArray), false)))))
theorem impl_TextAsks.calls (k : Nat) (a0 : ByteArray) (r1 : List ByteArray) (r2 : Bool) (w : World)  (h : impl_TextAsks.f k a0 = some (r1, r2)) :
  Calls Try.prog 23 #[.string a0] w fun e w' => ∃ v0_ : Value, e = .returned (.tuple #[v0_, .bool r2]) ∧ Mem w [] w' [rowR Kd.string 9 v0_ r1] := by
 have HM := Mem.nil w
 have H := h
 clear h
 unfold impl_TextAsks.f at H
 go_enter Try.func23, Try.ntmps23
 go_upto_if 6 with (fail)
 replace H := IT H; rcases H with ⟨c2, H⟩ | ⟨c2, H⟩
 ·obtain ⟨c2b0, c2b1⟩ := BE c2
  have c2b6 : (a0.toList).isEmpty = true := by first | (rw [c2]; rfl) | (cases h_ : a0.toList with | nil => exact absurd h_ c2 | cons _ _ => rfl)
  clear c2
  first|rw [c2b0]|rw [c2b1]|rw [c2b6]|(simp only [bne, c2b6, Bool.not_true, Bool.not_false])|(simp only [i64_w, i32_w]; rw [c2b0])|skip
  simp only [Option.some.injEq, Prod.mk.injEq] at H
  obtain ⟨rfl, rfl⟩ := H
  go_wp2_with (first | ((with_reducible refine gN 7 rfl ?_); refine pL 7 Kd.string 9 ([] : List ByteArray) [] (Reps.none _ _) HM rfl ?_; clear HM; intro v1138 w3 HM))
  go_ret2
  exact ⟨_, ER, (MD HM).pick [0]⟩
 ·obtain ⟨c2b0, c2b1⟩ := BF c2
  have c2b6 : (a0.toList).isEmpty = false := by first | (rw [c2]; rfl) | (cases h_ : a0.toList with | nil => exact absurd h_ c2 | cons _ _ => rfl)
  first|rw [c2b0]|rw [c2b1]|rw [c2b6]|(simp only [bne, c2b6, Bool.not_true, Bool.not_false])|(simp only [i64_w, i32_w]; rw [c2b0])|skip
  replace H := BN H; obtain ⟨t1140, A4, H⟩ := H
  replace H := BN H; obtain ⟨t1143, A6, H⟩ := H
  go_upto_if 12 with (first | ((with_reducible refine gC 69 rfl ?_); refine pC (some 9) rfl #[.string a0] rfl Try.func69 (impl_Cut.calls k a0 t1140 _ A4.out) ?_; rintro e w5 ⟨v1141, rfl, hR⟩; refine ⟨_, rfl, ?_⟩; replace HM := HM.call hR; clear hR; obtain ⟨Xo8, ko8, rfl⟩ := HM.rdR 0 rfl) | ((with_reducible refine gC 72 rfl ?_); refine pC (some 11) rfl #[.slice Xo8 t1140.length ko8] rfl Try.func72 (impl_AsksOk.calls k _ _ t1140 t1143 _ (HM.CR 0 rfl).2.2 (HM.CR 0 rfl).2.1 A6.out) ?_; rintro e w7 ⟨rfl, hR⟩; refine ⟨_, rfl, ?_⟩; replace HM := HM.call hR; clear hR))
  replace HM := nzM HM
  replace H := IB H
  rcases H with ⟨c9, H⟩ | ⟨c9, H⟩
  ·subst c9
   simp only [Option.some.injEq, Prod.mk.injEq] at H
   obtain ⟨rfl, rfl⟩ := H
   go_wp2
   go_ret2
   exact ⟨_, ER, (MD HM).pick [0]⟩
  ·subst c9
   simp only [Option.some.injEq, Prod.mk.injEq] at H
   obtain ⟨rfl, rfl⟩ := H
   replace HM := HM.nl Kd.string 9
   go_wp2
   go_ret2
   exact ⟨_, ER, (MD HM).pick [1]⟩
end Go.Proofs.Ythnedklbobbkcaa.G

namespace Go.Proofs.Ythnedklbobbkcaa.G
open Go.RowKit Go.Proofs.YthnedklbobbkcaaW.PrintWords Go.Proofs.YthnedklbobbkcaaW.PrintLast Go.Proofs.YthnedklbobbkcaaW.PrintMore Go.Proofs.Ythnedklbobbkcaa.Sh
attribute [local go_sem] max2_int min2_int max_two min_two max_three min_three max_four min_four
set_option linter.unusedVariables false
set_option linter.unusedSimpArgs false
def laws_sameTexts.l0 : Nat → List ByteArray → List ByteArray → Int → Int → Option (Bool)
 | 0, _, _, _, _ => none
 | k + 1, x0, x1, x12, x13 => if x13 < x12 then (if 0 ≤ x13 then (if x13 < (x0.length : Int) then (if x13 < (x1.length : Int) then (if (rdOf ByteArray.empty x0 x13).toList = (rdOf ByteArray.empty x1 x13).toList then (laws_sameTexts.l0 k x0 x1 x12 (wrap64 (x13 + 1))) else (some false)) else (none)) else (none)) else (none)) else (some true)
def laws_sameTexts.f (k : Nat) (l0 : List ByteArray) (l1 : List ByteArray) : Option (Bool) := if (l0.length : Int) = (l1.length : Int) then (laws_sameTexts.l0 k l0 l1 (l0.length : Int) 0) else (some false)
theorem laws_sameTexts.calls (k : Nat) (A0 : Option Addr) (c0 : Nat) (l0 : List ByteArray) (A1 : Option Addr) (c1 : Nat) (l1 : List ByteArray) (r : Bool) (w : World) (hr0 : Kd.C Kd.string w A0 l0.length l0) (hc0 : l0.length ≤ c0) (hr1 : Kd.C Kd.string w A1 l1.length l1) (hc1 : l1.length ≤ c1) (h : laws_sameTexts.f k l0 l1 = some r) :
  Calls Try.prog 25 #[.slice A0 l0.length c0, .slice A1 l1.length c1] w fun e w' => e = .returned (.bool r) ∧ Drawn0 w w' := by
 have HR0 := Aside0.mk hr0
 have HC0 := Aside0.mk hc0
 clear hr0 hc0
 have HR1 := Aside0.mk hr1
 have HC1 := Aside0.mk hc1
 clear hr1 hc1
 have H : (if (l0.length : Int) = (l1.length : Int) then (laws_sameTexts.l0 k l0 l1 (l0.length : Int) 0) else (some false)) = some r := h
 clear h
 by_cases c3 : (l0.length : Int) = (l1.length : Int)
 ·rw [if_pos c3] at H
  have c3b0 : ((l0.length : Int) == (l1.length : Int)) = true := beq_iff_eq.mpr c3
  have c3b1 : ((l0.length : Int) != (l1.length : Int)) = false := bne_eq_false_iff_eq.mpr c3
  have c3b2 : (l0.length == l1.length) = true := by first | simpa using c3 | (simp at c3 ⊢; omega)
  clear c3
  have H' := Aside0.mk H
  clear H
  go_enter Try.func25, Try.ntmps25
  go_wp2
  repeat (go_quiet (fail); try go_wp2)
  go_loopg [13] k (fun kq v13 w' => ∃ (x13_1 : Int), v13 = .int .i64 x13_1 ∧ Aside0 (laws_sameTexts.l0 kq l0 l1 (l0.length : Int) x13_1 = some r) ∧ Aside0 (kq ≤ k) ∧ Drawn0 w w')
  case atStart => exact ⟨(0), RS, H', ⟨Nat.le_refl _⟩, DR⟩
  case round =>
   clear H'
   try clear c1
   try clear c2
   try clear p2
   try clear c3
   try clear c3b0
   try clear c3b1
   try clear c3b2
   obtain ⟨x13_1, rfl, HA, HK1, ⟨m1, rfl⟩⟩ := hrel
   cases gk with
   | zero => exact absurd HA.out (by simp [laws_sameTexts.l0])
   | succ k1 =>
    have H := HA.out
    clear HA
    simp only [laws_sameTexts.l0] at H
    by_cases c4 : x13_1 < (l0.length : Int)
    ·rw [if_pos c4] at H
     have c4b0 : decide (x13_1 < (l0.length : Int)) = true := decide_eq_true c4
     clear c4
     by_cases c5 : 0 ≤ x13_1
     ·rw [if_pos c5] at H
      have c5b0 : decide (0 ≤ x13_1) = true := decide_eq_true c5
      clear c5
      by_cases c6 : x13_1 < (l0.length : Int)
      ·rw [if_pos c6] at H
       have c6b0 : decide (x13_1 < (l0.length : Int)) = true := decide_eq_true c6
       clear c6
       by_cases c7 : x13_1 < (l1.length : Int)
       ·rw [if_pos c7] at H
        have c7b0 : decide (x13_1 < (l1.length : Int)) = true := decide_eq_true c7
        clear c7
        by_cases c8 : (rdOf ByteArray.empty l0 x13_1).toList = (rdOf ByteArray.empty l1 x13_1).toList
        ·rw [if_pos c8] at H
         have c8b0 : ((rdOf ByteArray.empty l0 x13_1).toList == (rdOf ByteArray.empty l1 x13_1).toList) = true := beq_iff_eq.mpr c8
         have c8b1 : ((rdOf ByteArray.empty l0 x13_1).toList != (rdOf ByteArray.empty l1 x13_1).toList) = false := bne_eq_false_iff_eq.mpr c8
         clear c8
         have H' := Aside0.mk H
         clear H
         have p1147 : 0 ≤ (x13_1 : Int) := of_decide_eq_true AS
         have q1147 : x13_1 < (l0.length : Int) := of_decide_eq_true AS
         obtain ⟨ad1147, e1147, hx1147_0⟩ := Kd.at_string HR0.out x13_1 p1147 q1147
         cases e1147
         replace p1147 := eq_true p1147
         replace q1147 := eq_true q1147
         have p1148 : 0 ≤ (x13_1 : Int) := of_decide_eq_true AS
         have q1148 : x13_1 < (l1.length : Int) := of_decide_eq_true AS
         obtain ⟨ad1148, e1148, hx1148_0⟩ := Kd.at_string HR1.out x13_1 p1148 q1148
         cases e1148
         replace p1148 := eq_true p1148
         replace q1148 := eq_true q1148
         go_wp2
         repeat (go_quiet (fail); try go_wp2)
         go_roundg k1
         case measure => have := HK1.out; omega
         case rel => exact ⟨(wrap64 (x13_1 + 1)), RS, H', ⟨by have := HK1.out; omega⟩, DR⟩
        ·rw [if_neg c8] at H
         have c8b0 : ((rdOf ByteArray.empty l0 x13_1).toList == (rdOf ByteArray.empty l1 x13_1).toList) = false := beq_eq_false_iff_ne.mpr c8
         have c8b1 : ((rdOf ByteArray.empty l0 x13_1).toList != (rdOf ByteArray.empty l1 x13_1).toList) = true := bne_iff_ne.mpr c8
         obtain rfl := Option.some.inj H
         have p1147 : 0 ≤ (x13_1 : Int) := of_decide_eq_true AS
         have q1147 : x13_1 < (l0.length : Int) := of_decide_eq_true AS
         obtain ⟨ad1147, e1147, hx1147_0⟩ := Kd.at_string HR0.out x13_1 p1147 q1147
         cases e1147
         replace p1147 := eq_true p1147
         replace q1147 := eq_true q1147
         have p1148 : 0 ≤ (x13_1 : Int) := of_decide_eq_true AS
         have q1148 : x13_1 < (l1.length : Int) := of_decide_eq_true AS
         obtain ⟨ad1148, e1148, hx1148_0⟩ := Kd.at_string HR1.out x13_1 p1148 q1148
         cases e1148
         replace p1148 := eq_true p1148
         replace q1148 := eq_true q1148
         go_wp2
         repeat (go_quiet (fail); try go_wp2)
         go_ret
         exact ⟨by first | rfl | (simp; done) | (simp [*]; done), DR⟩
       ·rw [if_neg c7] at H
        exact absurd H (by simp)
      ·rw [if_neg c6] at H
       exact absurd H (by simp)
     ·rw [if_neg c5] at H
      exact absurd H (by simp)
    ·rw [if_neg c4] at H
     have c4b0 : decide (x13_1 < (l0.length : Int)) = false := decide_eq_false c4
     clear c4
     obtain rfl := Option.some.inj H
     go_wp2
     repeat (go_quiet (fail); try go_wp2)
     go_ret
     exact ⟨by first | rfl | (simp; done) | (simp [*]; done), DR⟩
 ·rw [if_neg c3] at H
  have c3b0 : ((l0.length : Int) == (l1.length : Int)) = false := beq_eq_false_iff_ne.mpr c3
  have c3b1 : ((l0.length : Int) != (l1.length : Int)) = true := bne_iff_ne.mpr c3
  have c3b2 : (l0.length == l1.length) = false := by first | simpa using c3 | (simp at c3 ⊢; omega)
  obtain rfl := Option.some.inj H
  go_enter Try.func25, Try.ntmps25
  go_wp2
  repeat (go_quiet (fail); try go_wp2)
  go_ret
  exact ⟨by first | rfl | (simp; done) | (simp [*]; done), DR⟩
end Go.Proofs.Ythnedklbobbkcaa.G

namespace Go.Proofs.Ythnedklbobbkcaa.G
open Go.RowKit Go.Proofs.YthnedklbobbkcaaW.PrintWords Go.Proofs.YthnedklbobbkcaaW.PrintLast Go.Proofs.YthnedklbobbkcaaW.PrintMore Go.Proofs.Ythnedklbobbkcaa.Sh
attribute [local go_sem] max2_int min2_int max_two min_two max_three min_three max_four min_four
set_option linter.unusedVariables false
set_option linter.unusedSimpArgs false
attribute [local go_sem high] eqA43
open Go.Proofs.Ythnedklbobbkcaa.Mm
mutual
def laws_FnTexts.j0 : Nat → List Int → Bool → Option (Bool)
 | 0, _, _ => none
 | k + 1, x0, x53 => if x53 = true then (none) else ((spec_MakeOps.f k x0 6).bind fun t1237 => (laws_FnTexts.l0 k x0 t1237 (t1237.length : Int) 0))
def laws_FnTexts.l0 : Nat → List Int → List (S43) → Int → Int → Option (Bool)
 | 0, _, _, _, _ => none
 | k + 1, x0, x55, x56, x57 => if x57 < x56 then (if 0 ≤ x57 then (if x57 < (x55.length : Int) then ((impl_OpText.f k ((rd_T43 x55 x57).f0) ((rd_T43 x55 x57).f1) ((rd_T43 x55 x57).f2)).bind fun t1242 => ((impl_TextOp.f k t1242).bind fun bt1243 => (if bt1243.2.2.2 = true then (if (!(bt1243.1 == ((rd_T43 x55 x57).f0)) || (!(bt1243.2.1.toList == (((rd_T43 x55 x57).f1).toList)) || (!(bt1243.2.2.1.toList == (((rd_T43 x55 x57).f2).toList))))) = true then (none) else (laws_FnTexts.l0 k x0 x55 x56 (wrap64 (x57 + 1)))) else (none)))) else (none)) else (none)) else ((spec_MakeAsks.f k x0 8).bind fun t1248 => ((impl_AsksText.f k t1248).bind fun t1251 => ((impl_TextAsks.f k t1251).bind fun bt1252 => (if bt1252.2 = true then ((laws_sameTexts.f k t1248 bt1252.1).bind fun t1256 => (laws_FnTexts.j2 k x0 (!t1256))) else (laws_FnTexts.j2 k x0 true)))))
def laws_FnTexts.j2 : Nat → List Int → Bool → Option (Bool)
 | 0, _, _ => none
 | k + 1, x0, x90 => if x90 = true then (none) else ((spec_MakeCmds.f k x0).bind fun t1257 => (laws_FnTexts.l1 k (⟨#[]⟩ : ByteArray) t1257 t1257 (t1257.length : Int) 0))
def laws_FnTexts.l1 : Nat → ByteArray → List (S55) → List (S55) → Int → Int → Option (Bool)
 | 0, _, _, _, _, _ => none
 | k + 1, x14, x15, x93, x94, x95 => if x95 < x94 then (if 0 ≤ x95 then (if x95 < (x93.length : Int) then ((impl_CmdText.f k ((rd_T55 x93 x95).f0) ((rd_T55 x93 x95).f1) ((rd_T55 x93 x95).f2) ((rd_T55 x93 x95).f3.f0) ((rd_T55 x93 x95).f3.f1) ((rd_T55 x93 x95).f3.f2) ((rd_T55 x93 x95).f4)).bind fun t1262 => (if x14.size + t1262.size ≤ 9223372036854775807 then (if x14.size + t1262.size + 1 ≤ 9223372036854775807 then (laws_FnTexts.l1 k ((x14 ++ t1262) ++ (⟨#[10]⟩ : ByteArray)) x15 x93 x94 (wrap64 (x95 + 1))) else (none)) else (none))) else (none)) else (none)) else ((impl_ReadCmds.f k x14).bind fun bt1263 => (if bt1263.2 = 0 then (laws_FnTexts.j4 k x14 x15 bt1263.1 ((bt1263.1.length : Int) != (x15.length : Int))) else (laws_FnTexts.j4 k x14 x15 bt1263.1 true)))
def laws_FnTexts.j4 : Nat → ByteArray → List (S55) → List (S55) → Bool → Option (Bool)
 | 0, _, _, _, _ => none
 | k + 1, x14, x15, x18, x118 => if x118 = true then (none) else (laws_FnTexts.l2 k x14 x15 (⟨#[]⟩ : ByteArray) x18 (x18.length : Int) 0)
def laws_FnTexts.l2 : Nat → ByteArray → List (S55) → ByteArray → List (S55) → Int → Int → Option (Bool)
 | 0, _, _, _, _, _, _ => none
 | k + 1, x14, x15, x20, x119, x120, x121 => if x121 < x120 then (if 0 ≤ x121 then (if x121 < (x119.length : Int) then ((impl_CmdText.f k ((rd_T55 x119 x121).f0) ((rd_T55 x119 x121).f1) ((rd_T55 x119 x121).f2) ((rd_T55 x119 x121).f3.f0) ((rd_T55 x119 x121).f3.f1) ((rd_T55 x119 x121).f3.f2) ((rd_T55 x119 x121).f4)).bind fun t1269 => (if x20.size + t1269.size ≤ 9223372036854775807 then (if x20.size + t1269.size + 1 ≤ 9223372036854775807 then (laws_FnTexts.l2 k x14 x15 ((x20 ++ t1269) ++ (⟨#[10]⟩ : ByteArray)) x119 x120 (wrap64 (x121 + 1))) else (none)) else (none))) else (none)) else (none)) else (if x20.toList = x14.toList then (some (decide ((x15.length : Int) > 0))) else (none))
end
def laws_FnTexts.f (k : Nat) (l0 : List Int) : Option (Bool) := if (l0.length : Int) > 1048576 then (some true) else ((spec_MakeThree.f k l0).bind fun bt1208 => ((impl_ThreeText.f k bt1208.1 bt1208.2.1 bt1208.2.2.1 bt1208.2.2.2.1 bt1208.2.2.2.2).bind fun t1220 => ((impl_TextThree.f k t1220).bind fun bt1221 => (if t1220.toList = ([] : List UInt8) then (laws_FnTexts.j0 k l0 true) else (if bt1221.2.2.2.2.2 = 0 then ((impl_Alike.f k bt1221.1 bt1221.2.1 bt1221.2.2.1 bt1221.2.2.2.1 bt1221.2.2.2.2.1 bt1208.1 bt1208.2.1 bt1208.2.2.1 bt1208.2.2.2.1 bt1208.2.2.2.2).bind fun t1234 => (if t1234 = true then ((impl_Digest.f k bt1221.1 bt1221.2.1 bt1221.2.2.1 bt1221.2.2.2.1 bt1221.2.2.2.2.1).bind fun t1235 => ((impl_Hash.f k t1220).bind fun t1236 => (laws_FnTexts.j0 k l0 (t1235 != t1236)))) else (laws_FnTexts.j0 k l0 true))) else (laws_FnTexts.j0 k l0 true))))))
theorem laws_FnTexts.calls (k : Nat) (A0 : Option Addr) (c0 : Nat) (l0 : List Int) (r : Bool) (w : World) (hr0 : Kd.C (Kd.int .u8) w A0 l0.length l0) (hc0 : l0.length ≤ c0) (h : laws_FnTexts.f k l0 = some r) :
  Calls Try.prog 4 #[.slice A0 l0.length c0] w fun e w' => e = .returned (.bool r) ∧ Below w.heap.size w w' := by
 have hu32 := Try.underlying32
 have hu43 := Try.underlying43
 have hu55 := Try.underlying55
 have HR0 := Aside0.mk hr0
 have HC0 := Aside0.mk hc0
 clear hr0 hc0
 have HM := Mem.nil w
 have H := h
 clear h
 unfold laws_FnTexts.f at H
 go_enter Try.func4, Try.ntmps4
 go_upto_if 25 with (fail)
 replace H := IT H; rcases H with ⟨c2, H⟩ | ⟨c2, H⟩
 ·replace c2 : (l0.length : Int) > 1048576 := c2
  have c2b0 : decide (1048576 < (l0.length : Int)) = true := decide_eq_true c2
  have c2b1 : decide (1048576 < l0.length) = true := decide_eq_true (by omega)
  have c2b9 : decide (1048576 < l0.length) = true := decide_eq_true (by omega)
  clear c2
  first|rw [c2b0]|rw [c2b9]|(simp only [i64_w, i32_w]; rw [c2b0])|skip
  obtain rfl := Option.some.inj H
  go_wp2
  go_ret
  exact ⟨ER, HM.bel⟩
 ·replace c2 : ¬ ((l0.length : Int) > 1048576) := c2
  have c2b0 : decide (1048576 < (l0.length : Int)) = false := decide_eq_false c2
  have c2b1 : decide (1048576 < l0.length) = false := decide_eq_false (by omega)
  have c2b9 : decide (1048576 < l0.length) = false := decide_eq_false (by omega)
  clear c2
  first|rw [c2b0]|rw [c2b9]|(simp only [i64_w, i32_w]; rw [c2b0])|skip
  replace H := BN H; obtain ⟨⟨t1208, t1209, t1210, t1213, t1216⟩, A3, H⟩ := H
  replace H := BN H; obtain ⟨t1220, A11, H⟩ := H
  replace H := BN H; obtain ⟨⟨t1221, t1222, t1223, t1226, t1229, t1232⟩, A13, H⟩ := H
  have HC20 := Aside0.mk H
  clear H
  go_upto_region 6 with (first | ((with_reducible refine gC 13 rfl ?_); refine pC (some 27) rfl #[.slice A0 l0.length c0] rfl Try.func13 (spec_MakeThree.calls k _ _ l0 t1208 t1209 t1210 t1213 t1216 _ (HM.came HR0.out) HC0.out A3.out) ?_; rintro e w4 ⟨v1211, v1214, v1217, rfl, hR⟩; refine ⟨_, rfl, ?_⟩; replace HM := HM.call hR; clear hR) | ((with_reducible refine gN 3 rfl ?_); refine pB 3 32 [.int .i64 0, .int .i64 0, .slice none 0 0, .slice none 0 0, .slice none 0 0] HM rfl ?_; clear HM; intro gb1219 w5 HM; obtain ⟨Xo6, ko6, rfl⟩ := HM.rdR 0 rfl; obtain ⟨Xo7, ko7, rfl⟩ := HM.rdR 1 rfl; obtain ⟨Xo8, ko8, rfl⟩ := HM.rd 2 rfl) | ((with_reducible refine gS 3 rfl ?_); refine pS 3 3 0 [.int .i64 t1208, .int .i64 t1209, .slice Xo6 t1210.length ko6, .slice Xo7 t1213.length ko7, .slice Xo8 t1216.length ko8] HM rfl rfl ?_; clear HM; intro w9 HM; obtain ⟨_,_,_,_,_,_,_,_,_,_⟩ := bk5 (HM.bx 3 rfl)) | ((with_reducible refine gC 14 rfl ?_); refine pC (some 29) rfl #[.agg #[.int .i64 t1208, .int .i64 t1209, .slice Xo6 t1210.length ko6, .slice Xo7 t1213.length ko7, .slice Xo8 t1216.length ko8]] rfl Try.func14 (impl_ThreeText.calls k t1208 t1209 _ _ t1210 _ _ t1213 _ _ t1216 t1220 _ (HM.CR 0 rfl).2.2 (HM.CR 0 rfl).2.1 (HM.CR 1 rfl).2.2 (HM.CR 1 rfl).2.1 (HM.C 2 rfl).2.2 (HM.C 2 rfl).2.1 A11.out) ?_; rintro e w12 ⟨rfl, hR⟩; refine ⟨_, rfl, ?_⟩; replace HM := HM.call hR; clear hR) | ((with_reducible refine gC 15 rfl ?_); refine pC (some 32) rfl #[.string t1220] rfl Try.func15 (impl_TextThree.calls k t1220 t1221 t1222 t1223 t1226 t1229 t1232 _ A13.out) ?_; rintro e w14 ⟨v1224, v1227, v1230, rfl, hR⟩; refine ⟨_, rfl, ?_⟩; replace HM := HM.call hR; clear hR) | ((with_reducible refine gN 5 rfl ?_); refine pB 5 32 [.int .i64 0, .int .i64 0, .slice none 0 0, .slice none 0 0, .slice none 0 0] HM rfl ?_; clear HM; intro gb1233 w15 HM; obtain ⟨Xo16, ko16, rfl⟩ := HM.rdR 4 rfl; obtain ⟨Xo17, ko17, rfl⟩ := HM.rdR 5 rfl; obtain ⟨Xo18, ko18, rfl⟩ := HM.rdR 6 rfl) | ((with_reducible refine gS 5 rfl ?_); refine pS 7 5 0 [.int .i64 t1221, .int .i64 t1222, .slice Xo16 t1223.length ko16, .slice Xo17 t1226.length ko17, .slice Xo18 t1229.length ko18] HM rfl rfl ?_; clear HM; intro w19 HM))
  replace HM := nzM HM
  try simp only [Act.put, List.setIfInBounds_toArray, List.set_cons_zero, List.set_cons_succ]
  go_cut [53] (fun v53 wc => ∃ (kq : Nat) (x53_19 : Bool), v53 = .bool x53_19 ∧ Aside0 (laws_FnTexts.j0 kq l0 x53_19 = some r) ∧ Aside0 (kq ≤ k) ∧ Mem w [] wc [])
  case first =>
   have H := HC20.out
   clear HC20
   replace H := IT H; rcases H with ⟨c21, H⟩ | ⟨c21, H⟩
   ·have c21b0 : (t1220.toList == ([] : List UInt8)) = true := beq_iff_eq.mpr c21
    have c21b1 : (t1220.toList != ([] : List UInt8)) = false := bne_eq_false_iff_eq.mpr c21
    have c21b6 : (t1220.toList).isEmpty = true := by first | (rw [c21]; rfl) | (cases h_ : t1220.toList with | nil => exact absurd h_ c21 | cons _ _ => rfl)
    clear c21
    have H' := Aside0.mk H
    clear H
    go_wp2
    go_meet
    case rel => exact ⟨_, (true), RS, H', ⟨by first | omega | exact Nat.le_refl _⟩, (MD HM).pick []⟩
   ·have c21b0 : (t1220.toList == ([] : List UInt8)) = false := beq_eq_false_iff_ne.mpr c21
    have c21b1 : (t1220.toList != ([] : List UInt8)) = true := bne_iff_ne.mpr c21
    have c21b6 : (t1220.toList).isEmpty = false := by first | (rw [c21]; rfl) | (cases h_ : t1220.toList with | nil => exact absurd h_ c21 | cons _ _ => rfl)
    replace H := IT H; rcases H with ⟨c22, H⟩ | ⟨c22, H⟩
    ·have c22b0 : (t1232 == 0) = true := beq_iff_eq.mpr c22
     have c22b1 : (t1232 != 0) = false := bne_eq_false_iff_eq.mpr c22
     clear c22
     replace H := BN H; obtain ⟨t1234, A25, H⟩ := H
     replace H := IB H
     rcases H with ⟨c27, H⟩ | ⟨c27, H⟩
     ·subst c27
      replace H := BN H; obtain ⟨t1235, A29, H⟩ := H
      replace H := BN H; obtain ⟨t1236, A31, H⟩ := H
      have H' := Aside0.mk H
      clear H
      obtain ⟨_,_,_,_,_,_,_,_,_,_⟩ := bk5 (HM.bx 7 rfl)
      obtain ⟨_,_,_,_,_,_,_,_,_,_⟩ := bk5 (HM.bx 3 rfl)
      go_wp2_with (first | ((with_reducible refine gC 16 rfl ?_); refine pC (some 44) rfl #[.agg #[.int .i64 t1221, .int .i64 t1222, .slice Xo16 t1223.length ko16, .slice Xo17 t1226.length ko17, .slice Xo18 t1229.length ko18], .agg #[.int .i64 t1208, .int .i64 t1209, .slice Xo6 t1210.length ko6, .slice Xo7 t1213.length ko7, .slice Xo8 t1216.length ko8]] rfl Try.func16 (impl_Alike.calls k t1221 t1222 _ _ t1223 _ _ t1226 _ _ t1229 t1208 t1209 _ _ t1210 _ _ t1213 _ _ t1216 true _ (HM.CR 4 rfl).2.2 (HM.CR 4 rfl).2.1 (HM.CR 5 rfl).2.2 (HM.CR 5 rfl).2.1 (HM.CR 6 rfl).2.2 (HM.CR 6 rfl).2.1 (HM.CR 0 rfl).2.2 (HM.CR 0 rfl).2.1 (HM.CR 1 rfl).2.2 (HM.CR 1 rfl).2.1 (HM.C 2 rfl).2.2 (HM.C 2 rfl).2.1 A25.out) ?_; rintro e w26 ⟨rfl, hR⟩; refine ⟨_, rfl, ?_⟩; replace HM := HM.call hR; clear hR; obtain ⟨_,_,_,_,_,_,_,_,_,_⟩ := bk5 (HM.bx 7 rfl)) | ((with_reducible refine gC 17 rfl ?_); refine pC (some 49) rfl #[.agg #[.int .i64 t1221, .int .i64 t1222, .slice Xo16 t1223.length ko16, .slice Xo17 t1226.length ko17, .slice Xo18 t1229.length ko18]] rfl Try.func17 (impl_Digest.calls k t1221 t1222 _ _ t1223 _ _ t1226 _ _ t1229 t1235 _ (HM.CR 4 rfl).2.2 (HM.CR 4 rfl).2.1 (HM.CR 5 rfl).2.2 (HM.CR 5 rfl).2.1 (HM.CR 6 rfl).2.2 (HM.CR 6 rfl).2.1 A29.out) ?_; rintro e w30 ⟨rfl, hR⟩; refine ⟨_, rfl, ?_⟩; replace HM := HM.call hR; clear hR) | ((with_reducible refine gC 18 rfl ?_); refine pC (some 51) rfl #[.string t1220] rfl Try.func18 (impl_Hash.calls k t1220 t1236 _ A31.out) ?_; rintro e w32 ⟨rfl, hd⟩; refine ⟨_, rfl, ?_⟩; replace HM := HM.drawn hd; clear hd))
      go_meet
      case rel => exact ⟨_, ((t1235 != t1236)), RS, H', ⟨by first | omega | exact Nat.le_refl _⟩, (MD HM).pick []⟩
     ·subst c27
      have H' := Aside0.mk H
      clear H
      obtain ⟨_,_,_,_,_,_,_,_,_,_⟩ := bk5 (HM.bx 7 rfl)
      obtain ⟨_,_,_,_,_,_,_,_,_,_⟩ := bk5 (HM.bx 3 rfl)
      go_wp2_with (first | ((with_reducible refine gC 16 rfl ?_); refine pC (some 44) rfl #[.agg #[.int .i64 t1221, .int .i64 t1222, .slice Xo16 t1223.length ko16, .slice Xo17 t1226.length ko17, .slice Xo18 t1229.length ko18], .agg #[.int .i64 t1208, .int .i64 t1209, .slice Xo6 t1210.length ko6, .slice Xo7 t1213.length ko7, .slice Xo8 t1216.length ko8]] rfl Try.func16 (impl_Alike.calls k t1221 t1222 _ _ t1223 _ _ t1226 _ _ t1229 t1208 t1209 _ _ t1210 _ _ t1213 _ _ t1216 false _ (HM.CR 4 rfl).2.2 (HM.CR 4 rfl).2.1 (HM.CR 5 rfl).2.2 (HM.CR 5 rfl).2.1 (HM.CR 6 rfl).2.2 (HM.CR 6 rfl).2.1 (HM.CR 0 rfl).2.2 (HM.CR 0 rfl).2.1 (HM.CR 1 rfl).2.2 (HM.CR 1 rfl).2.1 (HM.C 2 rfl).2.2 (HM.C 2 rfl).2.1 A25.out) ?_; rintro e w26 ⟨rfl, hR⟩; refine ⟨_, rfl, ?_⟩; replace HM := HM.call hR; clear hR))
      go_meet
      case rel => exact ⟨_, (true), RS, H', ⟨by first | omega | exact Nat.le_refl _⟩, (MD HM).pick []⟩
    ·have c22b0 : (t1232 == 0) = false := beq_eq_false_iff_ne.mpr c22
     have c22b1 : (t1232 != 0) = true := bne_iff_ne.mpr c22
     have H' := Aside0.mk H
     clear H
     go_wp2
     go_meet
     case rel => exact ⟨_, (true), RS, H', ⟨by first | omega | exact Nat.le_refl _⟩, (MD HM).pick []⟩
  case rest =>
   clear HC20 HM
   obtain ⟨kq, x53_19, rfl, HA, HJ19, HM⟩ := hcut
   cases kq with
   | zero => exact absurd HA.out (by simp [laws_FnTexts.j0])
   | succ kj19 =>
    have H := HA.out
    clear HA
    simp only [laws_FnTexts.j0] at H
    replace H := GN H
    obtain ⟨c33, H⟩ := H
    replace c33 := Bool.eq_false_iff.mpr c33
    subst c33
    replace H := BN H; obtain ⟨t1237, A34, H⟩ := H
    have H' := Aside0.mk H
    clear H
    go_wp2_with (first | ((with_reducible refine gC 19 rfl ?_); refine pC (some 55) rfl #[.slice A0 l0.length c0, .int .i64 6] rfl Try.func19 (spec_MakeOps.calls kj19 _ _ l0 6 t1237 _ (HM.came HR0.out) HC0.out A34.out) ?_; rintro e w35 ⟨v1238, rfl, hR⟩; refine ⟨_, rfl, ?_⟩; replace HM := HM.call hR; clear hR; obtain ⟨Xo36, ko36, rfl⟩ := HM.rdR 0 rfl))
    go_loopg [57] kj19 (fun kq v57 w' => ∃ (x57_2 : Int), v57 = .int .i64 x57_2 ∧ Aside0 (laws_FnTexts.l0 kq l0 t1237 (t1237.length : Int) x57_2 = some r) ∧ Aside0 (kq ≤ kj19) ∧ Mem w [] w' [rowR k43 43 (.slice Xo36 t1237.length ko36) t1237])
    case atStart => exact ⟨(0), RS, H', ⟨Nat.le_refl _⟩, (MD HM).pick [0]⟩
    case round =>
     clear H' HM
     obtain ⟨x57_2, rfl, HA, HK2, HM⟩ := hrel
     cases gk with
     | zero => exact absurd HA.out (by simp [laws_FnTexts.l0])
     | succ k2 =>
      have H := HA.out
      clear HA
      simp only [laws_FnTexts.l0] at H
      go_upto_if 58 with (fail)
      replace H := IT H; rcases H with ⟨c37, H⟩ | ⟨c37, H⟩
      ·have c37b0 : decide (x57_2 < (t1237.length : Int)) = true := decide_eq_true c37
       clear c37
       first|rw [c37b0]|(simp only [i64_w, i32_w]; rw [c37b0])|skip
       replace H := GD H; obtain ⟨c38, H⟩ := H
       have c38b0 : decide (0 ≤ x57_2) = true := decide_eq_true c38
       clear c38
       replace H := GD H; obtain ⟨c39, H⟩ := H
       have c39b0 : decide (x57_2 < (t1237.length : Int)) = true := decide_eq_true c39
       clear c39
       replace H := BN H; obtain ⟨t1242, A43, H⟩ := H
       replace H := BN H; obtain ⟨⟨t1243, t1244, t1245, t1246⟩, A45, H⟩ := H
       replace H := GD H
       obtain ⟨c49, H⟩ := H
       subst c49
       replace H := GN H; obtain ⟨c52, H⟩ := H
       have c52b0 : (!(t1243 == ((rd_T43 t1237 x57_2).f0)) || (!(t1244.toList == (((rd_T43 t1237 x57_2).f1).toList)) || (!(t1245.toList == (((rd_T43 t1237 x57_2).f2).toList))))) = false := by simpa using c52
       clear c52
       have H' := Aside0.mk H
       clear H
       have p1240 : 0 ≤ (x57_2 : Int) := of_decide_eq_true AS
       have q1240 : (x57_2 : Int) < (t1237.length : Int) := of_decide_eq_true AS
       obtain ⟨ad1240, e1240, hx1240_0, hx1240_1, hx1240_2⟩ := at_T43 (HM.CR 0 rfl).2.2 x57_2 p1240 q1240
       cases e1240
       replace p1240 := eq_true p1240
       replace q1240 := eq_true q1240
       go_wp2_with (first | ((with_reducible refine gN 8 rfl ?_); refine pB 8 43 [.int .i64 0, .string (⟨#[]⟩ : ByteArray), .string (⟨#[]⟩ : ByteArray)] HM rfl ?_; clear HM; intro gb1241 w40 HM) | ((with_reducible refine gS 8 rfl ?_); refine pS 1 8 0 [.int .i64 ((rd_T43 t1237 x57_2).f0), .string ((rd_T43 t1237 x57_2).f1), .string ((rd_T43 t1237 x57_2).f2)] HM rfl rfl ?_; clear HM; intro w41 HM; obtain ⟨_,_,_,_,_,_⟩ := bk3 (HM.bx 1 rfl)) | ((with_reducible refine gC 21 rfl ?_); refine pC (some 63) rfl #[.agg #[.int .i64 ((rd_T43 t1237 x57_2).f0), .string ((rd_T43 t1237 x57_2).f1), .string ((rd_T43 t1237 x57_2).f2)]] rfl Try.func21 (impl_OpText.calls k2 ((rd_T43 t1237 x57_2).f0) ((rd_T43 t1237 x57_2).f1) ((rd_T43 t1237 x57_2).f2) t1242 _ A43.out) ?_; rintro e w44 ⟨rfl, hR⟩; refine ⟨_, rfl, ?_⟩; replace HM := HM.call hR; clear hR) | ((with_reducible refine gC 20 rfl ?_); refine pC (some 64) rfl #[.string t1242] rfl Try.func20 (impl_TextOp.calls k2 t1242 t1243 t1244 t1245 true _ A45.out) ?_; rintro e w46 ⟨rfl, hR⟩; refine ⟨_, rfl, ?_⟩; replace HM := HM.call hR; clear hR) | ((with_reducible refine gN 9 rfl ?_); refine pB 9 43 [.int .i64 0, .string (⟨#[]⟩ : ByteArray), .string (⟨#[]⟩ : ByteArray)] HM rfl ?_; clear HM; intro gb1247 w47 HM) | ((with_reducible refine gS 9 rfl ?_); refine pS 2 9 0 [.int .i64 t1243, .string t1244, .string t1245] HM rfl rfl ?_; clear HM; intro w48 HM; obtain ⟨_,_,_,_,_,_⟩ := bk3 (HM.bx 2 rfl); obtain ⟨_,_,_,_,_,_⟩ := bk3 (HM.bx 1 rfl)))
       go_roundg k2
       case measure => have := HJ19.out; have := HK2.out; omega
       case rel => exact ⟨(wrap64 (x57_2 + 1)), RS, H', ⟨by have := HJ19.out; have := HK2.out; omega⟩, (MD HM).pick [0]⟩
      ·have c37b0 : decide (x57_2 < (t1237.length : Int)) = false := decide_eq_false c37
       clear c37
       first|rw [c37b0]|(simp only [i64_w, i32_w]; rw [c37b0])|skip
       replace H := BN H; obtain ⟨t1248, A53, H⟩ := H
       replace H := BN H; obtain ⟨t1251, A55, H⟩ := H
       replace H := BN H; obtain ⟨⟨t1252, t1253⟩, A58, H⟩ := H
       have HC60 := Aside0.mk H
       clear H
       go_upto_region 17 with (first | ((with_reducible refine gC 22 rfl ?_); refine pC (some 76) rfl #[.slice A0 l0.length c0, .int .i64 8] rfl Try.func22 (spec_MakeAsks.calls k2 _ _ l0 8 t1248 _ (HM.came HR0.out) HC0.out A53.out) ?_; rintro e w54 ⟨v1249, rfl, hR⟩; refine ⟨_, rfl, ?_⟩; replace HM := HM.call hR; clear hR; obtain ⟨Xo57, ko57, rfl⟩ := HM.rdR 1 rfl) | ((with_reducible refine gC 24 rfl ?_); refine pC (some 79) rfl #[.slice Xo57 t1248.length ko57] rfl Try.func24 (impl_AsksText.calls k2 _ _ t1248 t1251 _ (HM.CR 1 rfl).2.2 (HM.CR 1 rfl).2.1 A55.out) ?_; rintro e w56 ⟨rfl, hR⟩; refine ⟨_, rfl, ?_⟩; replace HM := HM.call hR; clear hR) | ((with_reducible refine gC 23 rfl ?_); refine pC (some 80) rfl #[.string t1251] rfl Try.func23 (impl_TextAsks.calls k2 t1251 t1252 t1253 _ A58.out) ?_; rintro e w59 ⟨v1254, rfl, hR⟩; refine ⟨_, rfl, ?_⟩; replace HM := HM.call hR; clear hR))
       replace HM := nzM HM
       go_cut [90] (fun v90 wc => ∃ (kq : Nat) (x90_59 : Bool), v90 = .bool x90_59 ∧ Aside0 (laws_FnTexts.j2 kq l0 x90_59 = some r) ∧ Aside0 (kq ≤ k2) ∧ Mem w [] wc [])
       case first =>
        have H := HC60.out
        clear HC60
        replace H := IB H
        rcases H with ⟨c61, H⟩ | ⟨c61, H⟩
        ·subst c61
         replace H := BN H; obtain ⟨t1256, A62, H⟩ := H
         have H' := Aside0.mk H
         clear H
         obtain ⟨Xo64, ko64, rfl⟩ := HM.rdR 2 rfl
         go_wp2_with (first | ((with_reducible refine gC 25 rfl ?_); refine pC (some 88) rfl #[.slice Xo57 t1248.length ko57, .slice Xo64 t1252.length ko64] rfl Try.func25 (laws_sameTexts.calls k2 _ _ t1248 _ _ t1252 t1256 _ (HM.CR 1 rfl).2.2 (HM.CR 1 rfl).2.1 (HM.CR 2 rfl).2.2 (HM.CR 2 rfl).2.1 A62.out) ?_; rintro e w63 ⟨rfl, hd⟩; refine ⟨_, rfl, ?_⟩; replace HM := HM.drawn hd; clear hd))
         go_meet
         case rel => exact ⟨_, (!t1256), RS, H', ⟨by have := HJ19.out; have := HK2.out; first | omega | exact Nat.le_refl _⟩, (MD HM).pick []⟩
        ·subst c61
         have H' := Aside0.mk H
         clear H
         go_wp2
         go_meet
         case rel => exact ⟨_, (true), RS, H', ⟨by have := HJ19.out; have := HK2.out; first | omega | exact Nat.le_refl _⟩, (MD HM).pick []⟩
       case rest =>
        clear HC60 HM
        obtain ⟨kq, x90_59, rfl, HA, HJ59, HM⟩ := hcut
        cases kq with
        | zero => exact absurd HA.out (by simp [laws_FnTexts.j2])
        | succ kj59 =>
         have H := HA.out
         clear HA
         simp only [laws_FnTexts.j2] at H
         replace H := GN H
         obtain ⟨c65, H⟩ := H
         replace c65 := Bool.eq_false_iff.mpr c65
         subst c65
         replace H := BN H; obtain ⟨t1257, A66, H⟩ := H
         have H' := Aside0.mk H
         clear H
         go_wp2_with (first | ((with_reducible refine gC 26 rfl ?_); refine pC (some 92) rfl #[.slice A0 l0.length c0] rfl Try.func26 (spec_MakeCmds.calls kj59 _ _ l0 t1257 _ (HM.came HR0.out) HC0.out A66.out) ?_; rintro e w67 ⟨v1258, rfl, hR⟩; refine ⟨_, rfl, ?_⟩; replace HM := HM.call hR; clear hR; obtain ⟨Xo68, ko68, rfl⟩ := HM.rdRR 0 rfl; have HRf69 := Aside0.mk (HM.CRR 0 rfl).2.2; have HCf69 := Aside0.mk (HM.CRR 0 rfl).2.1; have HM70 := HM; clear HM; have HM := Mem.nil w67))
         go_loopg [14, 95] kj59 (fun kq v14 v95 w' => ∃ (x14_4 : ByteArray) (x95_4 : Int), v14 = .string x14_4 ∧ v95 = .int .i64 x95_4 ∧ Aside0 (laws_FnTexts.l1 kq x14_4 t1257 t1257 (t1257.length : Int) x95_4 = some r) ∧ Aside0 (kq ≤ kj59) ∧ Mem w67 [] w' [])
         case atStart => exact ⟨((⟨#[]⟩ : ByteArray)), (0), RS, RS, H', ⟨Nat.le_refl _⟩, (MD HM).pick []⟩
         case round =>
          clear H' HM
          obtain ⟨x14_4, x95_4, rfl, rfl, HA, HK4, HM⟩ := hrel
          cases gk with
          | zero => exact absurd HA.out (by simp [laws_FnTexts.l1])
          | succ k4 =>
           have H := HA.out
           clear HA
           simp only [laws_FnTexts.l1] at H
           go_upto_if 96 with (fail)
           replace H := IT H; rcases H with ⟨c71, H⟩ | ⟨c71, H⟩
           ·have c71b0 : decide (x95_4 < (t1257.length : Int)) = true := decide_eq_true c71
            clear c71
            first|rw [c71b0]|(simp only [i64_w, i32_w]; rw [c71b0])|skip
            replace H := GD H; obtain ⟨c72, H⟩ := H
            have c72b0 : decide (0 ≤ x95_4) = true := decide_eq_true c72
            clear c72
            replace H := GD H; obtain ⟨c73, H⟩ := H
            have c73b0 : decide (x95_4 < (t1257.length : Int)) = true := decide_eq_true c73
            clear c73
            replace H := BN H; obtain ⟨t1262, A77, H⟩ := H
            replace H := GD H; obtain ⟨c79, H⟩ := H
            have c79b0 := eq_true c79
            have c79b1 : decide (x14_4.size + t1262.size ≤ 9223372036854775807) = true := decide_eq_true c79
            try have c79b2 : (9223372036854775807 < x14_4.size + t1262.size) = False := eq_false (Nat.not_lt.2 c79)
            replace H := GD H; obtain ⟨c80, H⟩ := H
            have c80b0 := eq_true c80
            have c80b1 : decide (x14_4.size + t1262.size + 1 ≤ 9223372036854775807) = true := decide_eq_true c80
            try have c80b2 : (9223372036854775807 < x14_4.size + t1262.size + 1) = False := eq_false (Nat.not_lt.2 c80)
            have H' := Aside0.mk H
            clear H
            have p1260 : 0 ≤ (x95_4 : Int) := of_decide_eq_true AS
            have q1260 : (x95_4 : Int) < (t1257.length : Int) := of_decide_eq_true AS
            obtain ⟨ad1260, A1260_6, c1260_6, e1260, hw1260_0, hw1260_1, hw1260_2, hw1260_3, hw1260_4, hw1260_5, hw1260_6, l1260_6, g1260_6⟩ := at_T55 HRf69.out x95_4 p1260 q1260
            cases e1260
            have hx1260_0 := HM.cell hw1260_0
            have hx1260_1 := HM.cell hw1260_1
            have hx1260_2 := HM.cell hw1260_2
            have hx1260_3 := HM.cell hw1260_3
            have hx1260_4 := HM.cell hw1260_4
            have hx1260_5 := HM.cell hw1260_5
            have hx1260_6 := HM.cell hw1260_6
            replace p1260 := eq_true p1260
            replace q1260 := eq_true q1260
            go_wp2_with (first | ((with_reducible refine gN 17 rfl ?_); refine pB 17 55 [.int .i64 0, .int .i64 0, .int .i64 0, .int .i64 0, .string (⟨#[]⟩ : ByteArray), .string (⟨#[]⟩ : ByteArray), .slice none 0 0] HM rfl ?_; clear HM; intro gb1261 w74 HM) | ((with_reducible refine gS 17 rfl ?_); refine pS 0 17 0 [.int .i64 ((rd_T55 t1257 x95_4).f0), .int .i64 ((rd_T55 t1257 x95_4).f1), .int .i64 ((rd_T55 t1257 x95_4).f2), .int .i64 ((rd_T55 t1257 x95_4).f3.f0), .string ((rd_T55 t1257 x95_4).f3.f1), .string ((rd_T55 t1257 x95_4).f3.f2), .slice A1260_6 ((rd_T55 t1257 x95_4).f4).length c1260_6] HM rfl rfl ?_; clear HM; intro w75 HM; obtain ⟨_,_,_,_,_,_,_,_,_,_,_,_,_,_⟩ := bk7 (HM.bx 0 rfl)) | ((with_reducible refine gC 27 rfl ?_); refine pC (some 101) rfl #[.agg #[.int .i64 ((rd_T55 t1257 x95_4).f0), .int .i64 ((rd_T55 t1257 x95_4).f1), .int .i64 ((rd_T55 t1257 x95_4).f2), .int .i64 ((rd_T55 t1257 x95_4).f3.f0), .string ((rd_T55 t1257 x95_4).f3.f1), .string ((rd_T55 t1257 x95_4).f3.f2), .slice A1260_6 ((rd_T55 t1257 x95_4).f4).length c1260_6]] rfl Try.func27 (impl_CmdText.calls k4 ((rd_T55 t1257 x95_4).f0) ((rd_T55 t1257 x95_4).f1) ((rd_T55 t1257 x95_4).f2) ((rd_T55 t1257 x95_4).f3.f0) ((rd_T55 t1257 x95_4).f3.f1) ((rd_T55 t1257 x95_4).f3.f2) _ _ ((rd_T55 t1257 x95_4).f4) t1262 _ (HM.came g1260_6) l1260_6 A77.out) ?_; rintro e w78 ⟨rfl, hR⟩; refine ⟨_, rfl, ?_⟩; replace HM := HM.call hR; clear hR))
            go_roundg k4
            case measure => have := HJ19.out; have := HK2.out; have := HJ59.out; have := HK4.out; omega
            case rel => exact ⟨((x14_4 ++ t1262) ++ (⟨#[10]⟩ : ByteArray)), (wrap64 (x95_4 + 1)), RS, RS, H', ⟨by have := HJ19.out; have := HK2.out; have := HJ59.out; have := HK4.out; omega⟩, (MD HM).pick []⟩
           ·have c71b0 : decide (x95_4 < (t1257.length : Int)) = false := decide_eq_false c71
            clear c71
            first|rw [c71b0]|(simp only [i64_w, i32_w]; rw [c71b0])|skip
            replace H := BN H; obtain ⟨⟨t1263, t1264⟩, A81, H⟩ := H
            have HC86 := Aside0.mk H
            clear H
            go_upto_region 27 with (first | ((with_reducible refine gC 9 rfl ?_); refine pC (some 107) rfl #[.string x14_4] rfl Try.func9 (impl_ReadCmds.calls k4 x14_4 t1263 t1264 _ A81.out) ?_; rintro e w82 ⟨v1265, rfl, hR⟩; refine ⟨_, rfl, ?_⟩; replace HM := HM.call hR; clear hR; obtain ⟨Xo83, ko83, rfl⟩ := HM.rdRR 0 rfl; have HRf84 := Aside0.mk (HM.CRR 0 rfl).2.2; have HCf84 := Aside0.mk (HM.CRR 0 rfl).2.1; replace HRf69 := Aside0.mk (HM.came HRf69.out); have HM85 := HM; clear HM; have HM := Mem.nil w82))
            go_cut [118] (fun v118 wc => ∃ (kq : Nat) (x118_85 : Bool), v118 = .bool x118_85 ∧ Aside0 (laws_FnTexts.j4 kq x14_4 t1257 t1263 x118_85 = some r) ∧ Aside0 (kq ≤ k4) ∧ Mem w82 [] wc [])
            case first =>
             have H := HC86.out
             clear HC86
             replace H := IT H; rcases H with ⟨c87, H⟩ | ⟨c87, H⟩
             ·have c87b0 : (t1264 == 0) = true := beq_iff_eq.mpr c87
              have c87b1 : (t1264 != 0) = false := bne_eq_false_iff_eq.mpr c87
              clear c87
              have H' := Aside0.mk H
              clear H
              go_wp2
              go_meet
              case rel => exact ⟨_, (((t1263.length : Int) != (t1257.length : Int))), RS, H', ⟨by have := HJ19.out; have := HK2.out; have := HJ59.out; have := HK4.out; first | omega | exact Nat.le_refl _⟩, (MD HM).pick []⟩
             ·have c87b0 : (t1264 == 0) = false := beq_eq_false_iff_ne.mpr c87
              have c87b1 : (t1264 != 0) = true := bne_iff_ne.mpr c87
              have H' := Aside0.mk H
              clear H
              go_wp2
              go_meet
              case rel => exact ⟨_, (true), RS, H', ⟨by have := HJ19.out; have := HK2.out; have := HJ59.out; have := HK4.out; first | omega | exact Nat.le_refl _⟩, (MD HM).pick []⟩
            case rest =>
             clear HC86 HM
             obtain ⟨kq, x118_85, rfl, HA, HJ85, HM⟩ := hcut
             cases kq with
             | zero => exact absurd HA.out (by simp [laws_FnTexts.j4])
             | succ kj85 =>
              have H := HA.out
              clear HA
              simp only [laws_FnTexts.j4] at H
              replace H := GN H
              obtain ⟨c88, H⟩ := H
              replace c88 := Bool.eq_false_iff.mpr c88
              subst c88
              have H' := Aside0.mk H
              clear H
              go_wp2
              go_loopg [20, 121] kj85 (fun kq v20 v121 w' => ∃ (x20_6 : ByteArray) (x121_6 : Int), v20 = .string x20_6 ∧ v121 = .int .i64 x121_6 ∧ Aside0 (laws_FnTexts.l2 kq x14_4 t1257 x20_6 t1263 (t1263.length : Int) x121_6 = some r) ∧ Aside0 (kq ≤ kj85) ∧ Mem w82 [] w' [])
              case atStart => exact ⟨((⟨#[]⟩ : ByteArray)), (0), RS, RS, H', ⟨Nat.le_refl _⟩, (MD HM).pick []⟩
              case round =>
               clear H' HM
               obtain ⟨x20_6, x121_6, rfl, rfl, HA, HK6, HM⟩ := hrel
               cases gk with
               | zero => exact absurd HA.out (by simp [laws_FnTexts.l2])
               | succ k6 =>
                have H := HA.out
                clear HA
                simp only [laws_FnTexts.l2] at H
                go_upto_if 122 with (fail)
                replace H := IT H; rcases H with ⟨c89, H⟩ | ⟨c89, H⟩
                ·have c89b0 : decide (x121_6 < (t1263.length : Int)) = true := decide_eq_true c89
                 clear c89
                 first|rw [c89b0]|(simp only [i64_w, i32_w]; rw [c89b0])|skip
                 replace H := GD H; obtain ⟨c90, H⟩ := H
                 have c90b0 : decide (0 ≤ x121_6) = true := decide_eq_true c90
                 clear c90
                 replace H := GD H; obtain ⟨c91, H⟩ := H
                 have c91b0 : decide (x121_6 < (t1263.length : Int)) = true := decide_eq_true c91
                 clear c91
                 replace H := BN H; obtain ⟨t1269, A95, H⟩ := H
                 replace H := GD H; obtain ⟨c97, H⟩ := H
                 have c97b0 := eq_true c97
                 have c97b1 : decide (x20_6.size + t1269.size ≤ 9223372036854775807) = true := decide_eq_true c97
                 try have c97b2 : (9223372036854775807 < x20_6.size + t1269.size) = False := eq_false (Nat.not_lt.2 c97)
                 replace H := GD H; obtain ⟨c98, H⟩ := H
                 have c98b0 := eq_true c98
                 have c98b1 : decide (x20_6.size + t1269.size + 1 ≤ 9223372036854775807) = true := decide_eq_true c98
                 try have c98b2 : (9223372036854775807 < x20_6.size + t1269.size + 1) = False := eq_false (Nat.not_lt.2 c98)
                 have H' := Aside0.mk H
                 clear H
                 have p1267 : 0 ≤ (x121_6 : Int) := of_decide_eq_true AS
                 have q1267 : (x121_6 : Int) < (t1263.length : Int) := of_decide_eq_true AS
                 obtain ⟨ad1267, A1267_6, c1267_6, e1267, hw1267_0, hw1267_1, hw1267_2, hw1267_3, hw1267_4, hw1267_5, hw1267_6, l1267_6, g1267_6⟩ := at_T55 HRf84.out x121_6 p1267 q1267
                 cases e1267
                 have hx1267_0 := HM.cell hw1267_0
                 have hx1267_1 := HM.cell hw1267_1
                 have hx1267_2 := HM.cell hw1267_2
                 have hx1267_3 := HM.cell hw1267_3
                 have hx1267_4 := HM.cell hw1267_4
                 have hx1267_5 := HM.cell hw1267_5
                 have hx1267_6 := HM.cell hw1267_6
                 replace p1267 := eq_true p1267
                 replace q1267 := eq_true q1267
                 go_wp2_with (first | ((with_reducible refine gN 22 rfl ?_); refine pB 22 55 [.int .i64 0, .int .i64 0, .int .i64 0, .int .i64 0, .string (⟨#[]⟩ : ByteArray), .string (⟨#[]⟩ : ByteArray), .slice none 0 0] HM rfl ?_; clear HM; intro gb1268 w92 HM) | ((with_reducible refine gS 22 rfl ?_); refine pS 0 22 0 [.int .i64 ((rd_T55 t1263 x121_6).f0), .int .i64 ((rd_T55 t1263 x121_6).f1), .int .i64 ((rd_T55 t1263 x121_6).f2), .int .i64 ((rd_T55 t1263 x121_6).f3.f0), .string ((rd_T55 t1263 x121_6).f3.f1), .string ((rd_T55 t1263 x121_6).f3.f2), .slice A1267_6 ((rd_T55 t1263 x121_6).f4).length c1267_6] HM rfl rfl ?_; clear HM; intro w93 HM; obtain ⟨_,_,_,_,_,_,_,_,_,_,_,_,_,_⟩ := bk7 (HM.bx 0 rfl)) | ((with_reducible refine gC 27 rfl ?_); refine pC (some 127) rfl #[.agg #[.int .i64 ((rd_T55 t1263 x121_6).f0), .int .i64 ((rd_T55 t1263 x121_6).f1), .int .i64 ((rd_T55 t1263 x121_6).f2), .int .i64 ((rd_T55 t1263 x121_6).f3.f0), .string ((rd_T55 t1263 x121_6).f3.f1), .string ((rd_T55 t1263 x121_6).f3.f2), .slice A1267_6 ((rd_T55 t1263 x121_6).f4).length c1267_6]] rfl Try.func27 (impl_CmdText.calls k6 ((rd_T55 t1263 x121_6).f0) ((rd_T55 t1263 x121_6).f1) ((rd_T55 t1263 x121_6).f2) ((rd_T55 t1263 x121_6).f3.f0) ((rd_T55 t1263 x121_6).f3.f1) ((rd_T55 t1263 x121_6).f3.f2) _ _ ((rd_T55 t1263 x121_6).f4) t1269 _ (HM.came g1267_6) l1267_6 A95.out) ?_; rintro e w96 ⟨rfl, hR⟩; refine ⟨_, rfl, ?_⟩; replace HM := HM.call hR; clear hR))
                 go_roundg k6
                 case measure => have := HJ19.out; have := HK2.out; have := HJ59.out; have := HK4.out; have := HJ85.out; have := HK6.out; omega
                 case rel => exact ⟨((x20_6 ++ t1269) ++ (⟨#[10]⟩ : ByteArray)), (wrap64 (x121_6 + 1)), RS, RS, H', ⟨by have := HJ19.out; have := HK2.out; have := HJ59.out; have := HK4.out; have := HJ85.out; have := HK6.out; omega⟩, (MD HM).pick []⟩
                ·have c89b0 : decide (x121_6 < (t1263.length : Int)) = false := decide_eq_false c89
                 clear c89
                 first|rw [c89b0]|(simp only [i64_w, i32_w]; rw [c89b0])|skip
                 replace H := GD H; obtain ⟨c99, H⟩ := H
                 have c99b0 : (x20_6.toList == x14_4.toList) = true := beq_iff_eq.mpr c99
                 have c99b1 : (x20_6.toList != x14_4.toList) = false := bne_eq_false_iff_eq.mpr c99
                 clear c99
                 obtain rfl := Option.some.inj H
                 go_wp2
                 go_ret
                 exact ⟨ER, (HM70.call (HM85.call HM)).bel⟩
end Go.Proofs.Ythnedklbobbkcaa.G
