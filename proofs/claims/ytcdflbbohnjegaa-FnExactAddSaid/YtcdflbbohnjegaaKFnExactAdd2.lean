/- Part 2 of the claim FnExactAdd, merged by pack.py (this session's program) out of: the print's words, cut to what is needed; texts that gen.py printed (it runs the kit's print in place); texts of this session. -/
import Derived.Test.YtcdflbbohnjegaaKFnExactAdd1
namespace Go.Proofs.Ytcdflbbohnjegaa.Sh
end Go.Proofs.Ytcdflbbohnjegaa.Sh
namespace Go.Proofs.Ytcdflbbohnjegaa.G
open Go.RowKit Go.Proofs.YtcdflbbohnjegaaW.PrintWords Go.Proofs.YtcdflbbohnjegaaW.PrintLast Go.Proofs.YtcdflbbohnjegaaW.PrintMore Go.Proofs.Ytcdflbbohnjegaa.Sh
attribute [local go_sem] max2_int min2_int max_two min_two max_three min_three max_four min_four
set_option linter.unusedVariables false
set_option linter.unusedSimpArgs false
attribute [local go_sem high] eqA50
mutual
def spec_TableOk.j0 : Nat → Int → Bool → Int → List (S50) → Option (Bool)
 | 0, _, _, _, _ => none
 | k + 1, x3, x15, x136000, x136001 => if x15 = true then (some false) else (spec_TableOk.l0 k x3 x136001 (x136001.length : Int) 0 x136000 x136001)
def spec_TableOk.l0 : Nat → Int → List (S50) → Int → Int → Int → List (S50) → Option (Bool)
 | 0, _, _, _, _, _, _ => none
 | k + 1, x3, x17, x18, x19, x136000, x136001 => if x19 < x18 then (if 0 ≤ x19 then (if x19 < (x17.length : Int) then (if x19 > 0 then (if 0 ≤ (wrap64 (x19 - 1)) then (if (wrap64 (x19 - 1)) < (x136001.length : Int) then ((spec_l19Before.f ((rd_T50 x136001 (wrap64 (x19 - 1))).f0) ((rd_T50 x136001 (wrap64 (x19 - 1))).f1) ((rd_T50 x17 x19).f0) ((rd_T50 x17 x19).f1)).bind fun t143 => (spec_TableOk.j2 k x3 x17 x18 x19 (!t143) x136000 x136001 ((rd_T50 x17 x19).f0) ((rd_T50 x17 x19).f1))) else (none)) else (none)) else (spec_TableOk.j2 k x3 x17 x18 x19 false x136000 x136001 ((rd_T50 x17 x19).f0) ((rd_T50 x17 x19).f1))) else (none)) else (none)) else (some (decide (x3 ≤ 200)))
def spec_TableOk.j2 : Nat → Int → List (S50) → Int → Int → Bool → Int → List (S50) → Int → ByteArray → Option (Bool)
 | 0, _, _, _, _, _, _, _, _, _ => none
 | k + 1, x3, x17, x18, x19, x36, x136000, x136001, x142000, x142001 => if x36 = true then (some false) else (if x142001.toList = ([] : List UInt8) then ((spec_l19Open.f k x136000 x136001 x142000 x142001).bind fun t144 => (if t144 = true then (spec_TableOk.l0 k x3 x17 x18 (wrap64 (x19 + 1)) x136000 x136001) else (some false))) else ((spec_ItemOk.f k x142001 (⟨#[]⟩ : ByteArray) 0).bind fun t145 => (if t145 = true then ((spec_l19Key.f k x142001).bind fun bt146 => (if (!(x142000 == bt146.1) || (!(x142001.toList == bt146.2.toList))) = true then (some false) else (spec_TableOk.l0 k (wrap64 (x3 + 1)) x17 x18 (wrap64 (x19 + 1)) x136000 x136001))) else (some false))))
end
def spec_TableOk.f (k : Nat) (a0_0 : Int) (l0_1 : List (S50)) : Option (Bool) := (spec_l19Size.f k a0_0).bind fun t136 => (if t136 = true then ((spec_l19Dummy.f k 0).bind fun bt137 => ((spec_l19At.f k a0_0 l0_1 bt137.1 bt137.2).bind fun t139 => (spec_TableOk.j0 k 0 (decide (t139 < 0)) a0_0 l0_1))) else (spec_TableOk.j0 k 0 true a0_0 l0_1))
theorem spec_TableOk.mono_l : ∀ k, (∀ y0 y1 y2 y3, LeO (spec_TableOk.j0 k y0 y1 y2 y3) (spec_TableOk.j0 (k + 1) y0 y1 y2 y3)) ∧ (∀ y0 y1 y2 y3 y4 y5, LeO (spec_TableOk.l0 k y0 y1 y2 y3 y4 y5) (spec_TableOk.l0 (k + 1) y0 y1 y2 y3 y4 y5)) ∧ (∀ y0 y1 y2 y3 y4 y5 y6 y7 y8, LeO (spec_TableOk.j2 k y0 y1 y2 y3 y4 y5 y6 y7 y8) (spec_TableOk.j2 (k + 1) y0 y1 y2 y3 y4 y5 y6 y7 y8))
 | 0 => ⟨fun _ _ _ _ r h => by simp [spec_TableOk.j0] at h, fun _ _ _ _ _ _ r h => by simp [spec_TableOk.l0] at h, fun _ _ _ _ _ _ _ _ _ r h => by simp [spec_TableOk.j2] at h⟩
 | k + 1 => by
  obtain ⟨ih0, ih1, ih2⟩ := spec_TableOk.mono_l k
  refine ⟨?_, ?_, ?_⟩
  ·intro y0 y1 y2 y3
   unfold spec_TableOk.j0
   repeat' first | (with_reducible first | exact ih0 _ _ _ _ | exact ih1 _ _ _ _ _ _ | exact ih2 _ _ _ _ _ _ _ _ _ | exact spec_ItemOk.mono _ _ _ _ | exact spec_l19At.mono _ _ _ _ _ | exact spec_l19Dummy.mono _ _ | exact spec_l19Key.mono _ _ | exact spec_l19Open.mono _ _ _ _ _ | exact spec_l19Size.mono _ _ | exact LeO.refl _ | exact LeO.none _ | refine LeO.ite ?_ ?_ | refine LeO.bind ?_ (fun _ => ?_)) | exact ih0 _ _ _ _ | exact ih1 _ _ _ _ _ _ | exact ih2 _ _ _ _ _ _ _ _ _ | exact spec_ItemOk.mono _ _ _ _ | exact spec_l19At.mono _ _ _ _ _ | exact spec_l19Dummy.mono _ _ | exact spec_l19Key.mono _ _ | exact spec_l19Open.mono _ _ _ _ _ | exact spec_l19Size.mono _ _ | exact LeO.none _ | refine LeO.ite ?_ ?_ | refine LeO.bind ?_ (fun _ => ?_)
  ·intro y0 y1 y2 y3 y4 y5
   unfold spec_TableOk.l0
   repeat' first | (with_reducible first | exact ih0 _ _ _ _ | exact ih1 _ _ _ _ _ _ | exact ih2 _ _ _ _ _ _ _ _ _ | exact spec_ItemOk.mono _ _ _ _ | exact spec_l19At.mono _ _ _ _ _ | exact spec_l19Dummy.mono _ _ | exact spec_l19Key.mono _ _ | exact spec_l19Open.mono _ _ _ _ _ | exact spec_l19Size.mono _ _ | exact LeO.refl _ | exact LeO.none _ | refine LeO.ite ?_ ?_ | refine LeO.bind ?_ (fun _ => ?_)) | exact ih0 _ _ _ _ | exact ih1 _ _ _ _ _ _ | exact ih2 _ _ _ _ _ _ _ _ _ | exact spec_ItemOk.mono _ _ _ _ | exact spec_l19At.mono _ _ _ _ _ | exact spec_l19Dummy.mono _ _ | exact spec_l19Key.mono _ _ | exact spec_l19Open.mono _ _ _ _ _ | exact spec_l19Size.mono _ _ | exact LeO.none _ | refine LeO.ite ?_ ?_ | refine LeO.bind ?_ (fun _ => ?_)
  ·intro y0 y1 y2 y3 y4 y5 y6 y7 y8
   unfold spec_TableOk.j2
   repeat' first | (with_reducible first | exact ih0 _ _ _ _ | exact ih1 _ _ _ _ _ _ | exact ih2 _ _ _ _ _ _ _ _ _ | exact spec_ItemOk.mono _ _ _ _ | exact spec_l19At.mono _ _ _ _ _ | exact spec_l19Dummy.mono _ _ | exact spec_l19Key.mono _ _ | exact spec_l19Open.mono _ _ _ _ _ | exact spec_l19Size.mono _ _ | exact LeO.refl _ | exact LeO.none _ | refine LeO.ite ?_ ?_ | refine LeO.bind ?_ (fun _ => ?_)) | exact ih0 _ _ _ _ | exact ih1 _ _ _ _ _ _ | exact ih2 _ _ _ _ _ _ _ _ _ | exact spec_ItemOk.mono _ _ _ _ | exact spec_l19At.mono _ _ _ _ _ | exact spec_l19Dummy.mono _ _ | exact spec_l19Key.mono _ _ | exact spec_l19Open.mono _ _ _ _ _ | exact spec_l19Size.mono _ _ | exact LeO.none _ | refine LeO.ite ?_ ?_ | refine LeO.bind ?_ (fun _ => ?_)
theorem spec_TableOk.mono : ∀ a0 a1 k, LeO (spec_TableOk.f k a0 a1) (spec_TableOk.f (k + 1) a0 a1) := by
 intro a0 a1 k
 obtain ⟨ih0, ih1, ih2⟩ := spec_TableOk.mono_l k
 unfold spec_TableOk.f
 repeat' first | (with_reducible first | exact ih0 _ _ _ _ | exact ih1 _ _ _ _ _ _ | exact ih2 _ _ _ _ _ _ _ _ _ | exact spec_ItemOk.mono _ _ _ _ | exact spec_l19At.mono _ _ _ _ _ | exact spec_l19Dummy.mono _ _ | exact spec_l19Key.mono _ _ | exact spec_l19Open.mono _ _ _ _ _ | exact spec_l19Size.mono _ _ | exact LeO.refl _ | exact LeO.none _ | refine LeO.ite ?_ ?_ | refine LeO.bind ?_ (fun _ => ?_)) | exact ih0 _ _ _ _ | exact ih1 _ _ _ _ _ _ | exact ih2 _ _ _ _ _ _ _ _ _ | exact spec_ItemOk.mono _ _ _ _ | exact spec_l19At.mono _ _ _ _ _ | exact spec_l19Dummy.mono _ _ | exact spec_l19Key.mono _ _ | exact spec_l19Open.mono _ _ _ _ _ | exact spec_l19Size.mono _ _ | exact LeO.none _ | refine LeO.ite ?_ ?_ | refine LeO.bind ?_ (fun _ => ?_)
def spec_TableOk.T2 : Bool × List (List Nat × List Nat) := (true, [([], []), ([0], [0]), ([1], [1]), ([2], [2]), ([3, 2], [3]), ([4], [4]), ([4, 4], [4]), ([5, 6, 6, 4], [4, 5, 6]), ([7, 4], [4, 7]), ([4, 8], [4, 8])])
def spec_TableOk.B2 : List Nat := [0, 1, 3, 7, 15, 31, 31, 127, 255, 511]
theorem spec_TableOk.tab2 : rtab .any (opsOf Try.f12 2) = spec_TableOk.T2 := by kernel_rfl
theorem spec_TableOk.bits2 : waitsOk spec_TableOk.T2.2 spec_TableOk.B2 = true := by kernel_rfl
def spec_TableOk.T7 : Bool × List (List Nat × List Nat) := (true, [([], []), ([0], [0]), ([1], [1]), ([2], [2]), ([3, 2], [2, 3]), ([2], [2]), ([5, 2], [2, 5]), ([4, 6, 2], [2, 4, 6]), ([7, 2], [2, 7]), ([2], [2]), ([8, 9, 2, 2], [2, 8, 9]), ([10, 2], [2, 10]), ([2, 11], [2, 11])])
def spec_TableOk.B7 : List Nat := [0, 1, 3, 7, 15, 7, 39, 127, 255, 7, 1023, 2047, 4095]
theorem spec_TableOk.tab7 : rtab .any (opsOf Try.f12 7) = spec_TableOk.T7 := by kernel_rfl
theorem spec_TableOk.bits7 : waitsOk spec_TableOk.T7.2 spec_TableOk.B7 = true := by kernel_rfl
def spec_TableOk.T13 : Bool × List (List Nat × List Nat) := (true, [([], []), ([0], [0]), ([1], [1]), ([2], [2]), ([3], [3]), ([4, 3], [4]), ([5], [5]), ([5], [5]), ([7, 5], [5, 7]), ([8, 5, 5], [5, 8]), ([6, 9, 5], [5, 6, 9]), ([5, 10], [5, 10])])
def spec_TableOk.B13 : List Nat := [0, 1, 3, 7, 15, 31, 63, 63, 191, 447, 1023, 2047]
theorem spec_TableOk.tab13 : rtab .any (opsOf Try.f12 13) = spec_TableOk.T13 := by kernel_rfl
theorem spec_TableOk.bits13 : waitsOk spec_TableOk.T13.2 spec_TableOk.B13 = true := by kernel_rfl
set_option maxHeartbeats 8000000 in
set_option maxRecDepth 100000 in
theorem spec_TableOk.calls (k : Nat) (a0_0 : Int) (A0_1 : Option Addr) (c0_1 : Nat) (l0_1 : List (S50)) (r : Bool) (w : World) (hr0_1 : Kd.C k50 w A0_1 l0_1.length l0_1) (hc0_1 : l0_1.length ≤ c0_1) (h : spec_TableOk.f k a0_0 l0_1 = some r) :
  Calls Try.prog 12 #[.agg #[.int .i64 a0_0, .slice A0_1 l0_1.length c0_1]] w fun e w' => e = .returned (.bool r) ∧ Below w.heap.size w w' := by
 have hu29 := Try.underlying29
 have hu50 := Try.underlying50
 have hu56 := Try.underlying56
 have HR0_1 := Aside0.mk hr0_1
 have HC0_1 := Aside0.mk hc0_1
 clear hr0_1 hc0_1
 have HB := Aside0.mk (Below.refl w.heap.size w)
 have H : ((spec_l19Size.f k a0_0).bind fun t136 => (if t136 = true then ((spec_l19Dummy.f k 0).bind fun bt137 => ((spec_l19At.f k a0_0 l0_1 bt137.1 bt137.2).bind fun t139 => (spec_TableOk.j0 k 0 (decide (t139 < 0)) a0_0 l0_1))) else (spec_TableOk.j0 k 0 true a0_0 l0_1))) = some r := h
 clear h
 have HC2 := Aside0.mk H
 clear H
 go_enter Try.func12, Try.ntmps12
 go_upto_region 2 with (first | ((with_reducible refine gate_dst (N := 1) rfl ?_); refine box_event ?hg (N := 1) ?hd (cs := #[.int .i64 a0_0, .slice A0_1 l0_1.length c0_1]) (t := 29) ?hr ?_; (case hd => rfl); (case hg => rfl); (case hr => first | (go_simp; done) | (go_simp; rfl)); intro gb135 hg w3 hbox hb; have n0_ := Aside0.mk (below_step BL hb); have n1_ := Aside0.mk (hbox); have n2_ := Aside0.mk ((by rw [hg]; exact (below_size BL) : w.heap.size ≤ gb135)); have n3_ := Aside0.mk ((by rw [hg]; exact (below_size BL) : w.heap.size ≤ gb135)); clear HB; have HB := n0_; have BK135 := n1_; have GW135 := n2_; have GE135 := n3_; clear n0_ n1_ n2_ n3_; clear hb hbox hg))
 (try simp only [Act.put, List.setIfInBounds_toArray, List.set_cons_zero, List.set_cons_succ])
 go_cut [15] (fun v15 wc => ∃ (kq : Nat) (x15_1 : Bool), v15 = .bool x15_1 ∧ Aside0 (spec_TableOk.j0 kq 0 x15_1 a0_0 l0_1 = some r) ∧ Aside0 (kq ≤ k) ∧ Aside0 (wc.heap[gb135]? = some (.cells #[.int .i64 a0_0, (.slice A0_1 l0_1.length c0_1)] 29 (0, 0))) ∧ Aside0 (Below w.heap.size w wc))
 case first =>
  have H := HC2.out
  clear HC2
  replace H := BS H
  obtain ⟨t136, A40, H⟩ := H
  have A4 := Aside0.mk A40
  clear A40
  by_cases c5 : t136 = true
  ·subst c5
   replace H := IP H
   replace H := BS H
   obtain ⟨⟨t137, t138⟩, A60, H⟩ := H
   have A6 := Aside0.mk A60
   clear A60
   replace H := BS H
   obtain ⟨t139, A70, H⟩ := H
   have A7 := Aside0.mk A70
   clear A70
   have H' := Aside0.mk H
   clear H
   try go_wp2
   have n0_ := Aside0.mk (blk_drew BK135.out)
   have n1_ := Aside0.mk (below_drew1 HB.out)
   clear BK135
   clear HB
   have BK135 := n0_
   have HB := n1_
   clear n0_ n1_
   refine start_ (n := 10) (S := fun w' => w'.cell? ⟨gb135, 0, none⟩ = some (.int .i64 a0_0) ∧ w'.cell? ⟨gb135, 1, none⟩ = some (.slice A0_1 l0_1.length c0_1)) (ds := []) #[false, false, false, false, false, false, false, false, false, false] (by kernel_rfl) rfl rfl ⟨(blk_cell BK135.out 0).trans rfl, (blk_cell BK135.out 1).trans rfl⟩ (fun hHeld => ?_); refine with_tabW spec_TableOk.tab2 spec_TableOk.bits2 (fun HT_ HW_ => ?_)
   generalize w3.drew = w8 at BK135 HB hHeld ⊢
   refine PU (i := 0) (N := some 6) (tf 1 9) rfl rfl HT_ ?_
   refine PT (i := 1) (N := some 7) (tf 2 8) rfl rfl HT_ HW_ hHeld ?_
   refine one_ (i := 2) (N := some 8) (tf 3 7) rfl rfl (one_of HT_.out (by kernel_rfl)) (by decide) (fun K hK => ?_)
   refine goes_ Try.func36 (by kernel_rfl) rfl #[.int .i64 a0_0] (by rfl) rfl rfl AQ ?_
   with_reducible refine (spec_l19Size.calls k a0_0 true _ A4.out).mono ?_
   rintro e w' ⟨rfl, ⟨nd, rfl⟩⟩
   refine ⟨_, rfl, ?_⟩
   refine hK.out _ _ ⟨(blk_cell BK135.out 0).trans rfl, (blk_cell BK135.out 1).trans rfl⟩ (fun hHeld => ?_)
   clear hK K
   refine NM (some 8) ?_
   refine PU (i := 3) (N := some 9) (tf 4 6) rfl rfl HT_ ?_
   refine PU (i := 4) (N := some 10) (tf 5 5) rfl rfl HT_ ?_
   refine PT (i := 5) (N := some 11) (tf 6 4) rfl rfl HT_ HW_ hHeld ?_
   refine one_ (i := 6) (N := some 12) (tf 7 3) rfl rfl (one_of HT_.out (by kernel_rfl)) (by decide) (fun K hK => ?_)
   refine goes_ Try.func38 (by kernel_rfl) rfl #[.int .i64 0] (by rfl) rfl rfl AQ ?_
   with_reducible refine (spec_l19Dummy.calls k 0 t137 t138 _ A6.out).mono ?_
   rintro e w9 ⟨rfl, hb⟩
   refine ⟨_, rfl, ?_⟩
   have n0_ := Aside0.mk (blk_below (BD BK135) hb)
   have n1_ := Aside0.mk (below_step BG hb)
   clear BK135
   clear HB
   have BK135 := n0_
   have HB := n1_
   clear n0_ n1_
   (try clear hb)
   (try clear hb2)
   (try clear hk)
   (try clear hi)
   refine hK.out _ _ ⟨(blk_cell BK135.out 0).trans rfl, (blk_cell BK135.out 1).trans rfl⟩ (fun hHeld => ?_)
   clear hK K
   refine NM (some 12) ?_
   refine one_ (i := 7) (N := some 13) (tf 8 2) rfl rfl (one_of HT_.out (by kernel_rfl)) (by decide) (fun K hK => ?_)
   refine goes_ Try.func37 (by kernel_rfl) rfl #[.agg #[.int .i64 a0_0, .slice A0_1 l0_1.length c0_1], .agg #[.int .i64 t137, .string t138]] (by rfl) rfl rfl AQ ?_
   with_reducible refine (spec_l19At.calls k a0_0 _ _ l0_1 t137 t138 t139 _ ?side1 ?side2 A7.out).mono ?_
   (case side1 => exact SC HR0_1)
   (case side2 => exact HC0_1.out)
   rintro e w10 ⟨rfl, hb⟩
   refine ⟨_, rfl, ?_⟩
   have n0_ := Aside0.mk (blk_below (BD BK135) hb)
   have n1_ := Aside0.mk (below_step BG hb)
   clear BK135
   clear HB
   have BK135 := n0_
   have HB := n1_
   clear n0_ n1_
   (try clear hb)
   (try clear hb2)
   (try clear hk)
   (try clear hi)
   refine hK.out _ _ ⟨(blk_cell BK135.out 0).trans rfl, (blk_cell BK135.out 1).trans rfl⟩ (fun hHeld => ?_)
   clear hK K
   refine NM (some 13) ?_
   refine PU (i := 8) (N := some 14) (tf 9 1) rfl rfl HT_ ?_
   refine PU (i := 9) (N := some 15) (tf 10 0) rfl rfl HT_ ?_
   refine done_ (done_of HT_.out (by kernel_rfl)) ?_
   try go_wp2
   go_meet
   case rel => exact ⟨_, (decide (t139 < 0)), RS, H', ⟨by first | omega | exact Nat.le_refl _⟩, ⟨by (with_reducible repeat (first | refine blk_drewN ?_ _ | refine blk_drew ?_ | refine blk_alloc ?_ _)); exact BK135.out⟩, ⟨by repeat (first | (with_reducible first | exact HB.out | apply below_alloc | apply pw_below_drewN | apply below_drew1 | refine below_set ?_ GE135.out) | exact HB.out)⟩⟩
  ·replace c5 := Bool.eq_false_iff.mpr c5
   subst c5
   replace H := IN H
   have H' := Aside0.mk H
   clear H
   try go_wp2
   have n0_ := Aside0.mk (blk_drew BK135.out)
   have n1_ := Aside0.mk (below_drew1 HB.out)
   clear BK135
   clear HB
   have BK135 := n0_
   have HB := n1_
   clear n0_ n1_
   refine start_ (n := 10) (S := fun w' => w'.cell? ⟨gb135, 0, none⟩ = some (.int .i64 a0_0) ∧ w'.cell? ⟨gb135, 1, none⟩ = some (.slice A0_1 l0_1.length c0_1)) (ds := []) #[false, false, false, false, false, false, false, false, false, false] (by kernel_rfl) rfl rfl ⟨(blk_cell BK135.out 0).trans rfl, (blk_cell BK135.out 1).trans rfl⟩ (fun hHeld => ?_); refine with_tabW spec_TableOk.tab2 spec_TableOk.bits2 (fun HT_ HW_ => ?_)
   generalize w3.drew = w11 at BK135 HB hHeld ⊢
   refine PU (i := 0) (N := some 6) (tf 1 9) rfl rfl HT_ ?_
   refine PT (i := 1) (N := some 7) (tf 2 8) rfl rfl HT_ HW_ hHeld ?_
   refine one_ (i := 2) (N := some 8) (tf 3 7) rfl rfl (one_of HT_.out (by kernel_rfl)) (by decide) (fun K hK => ?_)
   refine goes_ Try.func36 (by kernel_rfl) rfl #[.int .i64 a0_0] (by rfl) rfl rfl AQ ?_
   with_reducible refine (spec_l19Size.calls k a0_0 false _ A4.out).mono ?_
   rintro e w' ⟨rfl, ⟨nd, rfl⟩⟩
   refine ⟨_, rfl, ?_⟩
   refine hK.out _ _ ⟨(blk_cell BK135.out 0).trans rfl, (blk_cell BK135.out 1).trans rfl⟩ (fun hHeld => ?_)
   clear hK K
   refine NM (some 8) ?_
   refine PU (i := 3) (N := some 9) (tf 4 6) rfl rfl HT_ ?_
   refine PU (i := 4) (N := some 10) (tf 5 5) rfl rfl HT_ ?_
   refine PN (i := 5) (N := some 11) (tf 6 4) rfl rfl HT_ ?_
   refine PN (i := 6) (N := some 12) (tf 7 3) rfl rfl HT_ ?_
   refine PN (i := 7) (N := some 13) (tf 8 2) rfl rfl HT_ ?_
   refine PN (i := 8) (N := some 14) (tf 9 1) rfl rfl HT_ ?_
   refine PU (i := 9) (N := some 15) (tf 10 0) rfl rfl HT_ ?_
   refine done_ (done_of HT_.out (by kernel_rfl)) ?_
   try go_wp2
   go_meet
   case rel => exact ⟨_, (true), RS, H', ⟨by first | omega | exact Nat.le_refl _⟩, ⟨by (with_reducible repeat (first | refine blk_drewN ?_ _ | refine blk_drew ?_ | refine blk_alloc ?_ _)); exact BK135.out⟩, ⟨by repeat (first | (with_reducible first | exact HB.out | apply below_alloc | apply pw_below_drewN | apply below_drew1 | refine below_set ?_ GE135.out) | exact HB.out)⟩⟩
 case rest =>
  clear HC2
  try clear c1
  try clear p2
  try clear c3
  try clear c5
  obtain ⟨kq, x15_1, rfl, HA, HJ1, BK135, HB⟩ := hcut
  cases kq with
  | zero => exact absurd HA.out (by simp [spec_TableOk.j0])
  | succ kj1 =>
   have H := HA.out
   clear HA
   simp only [spec_TableOk.j0] at H
   by_cases c12 : x15_1 = true
   ·subst c12
    replace H := IP H
    obtain rfl := Option.some.inj H
    go_wp2
    go_ret
    exact ⟨by first | rfl | (simp [errW_none, errW_some] <;> rfl) | (simp [*, errW_none, errW_some] <;> rfl), BG⟩
   ·replace c12 := Bool.eq_false_iff.mpr c12
    subst c12
    replace H := IN H
    have H' := Aside0.mk H
    clear H
    obtain ⟨hcz13_0, hcz13_1, hfz13_0, hfz13_1⟩ := bk2 BK135.out
    go_wp2
    go_loopg [3, 19] kj1 (fun kq v3 v19 w' => ∃ (x3_2 : Int) (x19_2 : Int), v3 = .int .i64 x3_2 ∧ v19 = .int .i64 x19_2 ∧ Aside0 (spec_TableOk.l0 kq x3_2 l0_1 (l0_1.length : Int) x19_2 a0_0 l0_1 = some r) ∧ Aside0 (kq ≤ kj1) ∧ Aside0 (w'.heap[gb135]? = some (.cells #[.int .i64 a0_0, (.slice A0_1 l0_1.length c0_1)] 29 (0, 0))) ∧ Aside0 (Below w.heap.size w w'))
    case atStart => exact ⟨(0), (0), RS, RS, H', ⟨Nat.le_refl _⟩, ⟨by (with_reducible repeat (first | refine blk_drewN ?_ _ | refine blk_drew ?_ | refine blk_alloc ?_ _)); exact BK135.out⟩, ⟨by repeat (first | (with_reducible first | exact HB.out | apply below_alloc | apply pw_below_drewN | apply below_drew1 | refine below_set ?_ GE135.out) | exact HB.out)⟩⟩
    case round =>
     clear H'
     try clear c1
     try clear p2
     try clear c3
     try clear c5
     try clear c12
     try clear hcz13_0
     try clear hcz13_1
     try clear hfz13_0
     try clear hfz13_1
     try clear p2
     obtain ⟨x3_2, x19_2, rfl, rfl, HA, HK2, BK135, HB⟩ := hrel
     cases gk with
     | zero => exact absurd HA.out (by simp [spec_TableOk.l0])
     | succ k2 =>
      have H := HA.out
      clear HA
      simp only [spec_TableOk.l0] at H
      by_cases c14 : x19_2 < (l0_1.length : Int)
      ·rw [if_pos c14] at H
       have c14b0 : decide (x19_2 < (l0_1.length : Int)) = true := decide_eq_true c14
       clear c14
       by_cases c15 : 0 ≤ x19_2
       ·rw [if_pos c15] at H
        have c15b0 : decide (0 ≤ x19_2) = true := decide_eq_true c15
        clear c15
        by_cases c16 : x19_2 < (l0_1.length : Int)
        ·rw [if_pos c16] at H
         have c16b0 : decide (x19_2 < (l0_1.length : Int)) = true := decide_eq_true c16
         clear c16
         have HC17 := Aside0.mk H
         clear H
         have p140 : 0 ≤ (x19_2 : Int) := of_decide_eq_true AS
         have q140 : x19_2 < (l0_1.length : Int) := of_decide_eq_true AS
         obtain ⟨ad140, e140, hx140_0, hx140_1⟩ := at_T50 HR0_1.out x19_2 p140 q140
         cases e140
         replace hx140_0 := (HB.out.cell (World.block_lt_of_cell? w _ hx140_0)).trans hx140_0
         replace hx140_1 := (HB.out.cell (World.block_lt_of_cell? w _ hx140_1)).trans hx140_1
         replace p140 := eq_true p140
         replace q140 := eq_true q140
         go_upto_region 7 with (first | ((with_reducible refine gate_dst (N := 5) rfl ?_); refine box_event ?hg (N := 5) ?hd (cs := #[.int .i64 0, .string (⟨#[]⟩ : ByteArray)]) (t := 50) ?hr ?_; (case hd => rfl); (case hg => rfl); (case hr => first | (go_simp; done) | (go_simp; rfl)); intro gb141 hg w18 hbox hb; have n0_ := Aside0.mk (blk_below (BD BK135) hb); have n1_ := Aside0.mk (below_step BG hb); have n2_ := Aside0.mk (hbox); have n3_ := Aside0.mk ((by rw [hg]; exact (below_size BG) : w.heap.size ≤ gb141)); have n4_ := Aside0.mk ((by rw [hg]; exact (below_size BG) : w.heap.size ≤ gb141)); have n5_ := Aside0.mk ((by rw [hg]; exact Nat.ne_of_lt (blk_lt (BD BK135)) : gb135 ≠ gb141)); have n6_ := Aside0.mk ((by rw [hg]; exact Nat.ne_of_gt (blk_lt (BD BK135)) : gb141 ≠ gb135)); clear BK135; clear HB; have BK135 := n0_; have HB := n1_; have BK141 := n2_; have GW141 := n3_; have GE141 := n4_; have NB135_141 := n5_; have NB141_135 := n6_; clear n0_ n1_ n2_ n3_ n4_ n5_ n6_; clear hb hbox hg; have hnb19 := NB141_135.out; have hnc19 := NB135_141.out; obtain ⟨hcz20_0, hcz20_1, hfz20_0, hfz20_1⟩ := bk2 BK141.out))
         (try simp only [Act.put, List.setIfInBounds_toArray, List.set_cons_zero, List.set_cons_succ])
         go_cut [36] (fun v36 wc => ∃ (kq : Nat) (x36_16 : Bool), v36 = .bool x36_16 ∧ Aside0 (spec_TableOk.j2 kq x3_2 l0_1 (l0_1.length : Int) x19_2 x36_16 a0_0 l0_1 ((rd_T50 l0_1 x19_2).f0) ((rd_T50 l0_1 x19_2).f1) = some r) ∧ Aside0 (kq ≤ k2) ∧ Aside0 (wc.heap[gb135]? = some (.cells #[.int .i64 a0_0, (.slice (some ad140) l0_1.length c0_1)] 29 (0, 0))) ∧ Aside0 (wc.heap[gb141]? = some (.cells #[.int .i64 ((rd_T50 l0_1 x19_2).f0), .string ((rd_T50 l0_1 x19_2).f1)] 50 (0, 0))) ∧ Aside0 (Below w.heap.size w wc))
         case first =>
          have H := HC17.out
          clear HC17
          by_cases c21 : x19_2 > 0
          ·rw [if_pos c21] at H
           have c21b0 : decide (0 < x19_2) = true := decide_eq_true c21
           clear c21
           (first | rw [c21b0] | (simp only [i64_w, i32_w]; rw [c21b0]) | skip)
           obtain ⟨ji22, hji22⟩ : ∃ j_ : Int, (wrap64 (x19_2 - 1)) = j_ := ⟨_, rfl⟩
           replace H : (if 0 ≤ (ji22) then (if (ji22) < (l0_1.length : Int) then ((spec_l19Before.f ((rd_T50 l0_1 (ji22)).f0) ((rd_T50 l0_1 (ji22)).f1) ((rd_T50 l0_1 x19_2).f0) ((rd_T50 l0_1 x19_2).f1)).bind fun t143 => (spec_TableOk.j2 k2 x3_2 l0_1 (l0_1.length : Int) x19_2 (!t143) a0_0 l0_1 ((rd_T50 l0_1 x19_2).f0) ((rd_T50 l0_1 x19_2).f1))) else (none)) else (none)) = some r := by first | (rw [hji22] at H; exact H) | (simp only [hji22] at H ⊢; exact H)
           have hji22w : (IntKind.i64.wrap (x19_2 - 1)) = ji22 := (i64_w _).trans hji22
           by_cases c23 : 0 ≤ (ji22)
           ·rw [if_pos c23] at H
            have c23b0 : decide (0 ≤ (ji22)) = true := decide_eq_true c23
            clear c23
            by_cases c24 : (ji22) < (l0_1.length : Int)
            ·rw [if_pos c24] at H
             have c24b0 : decide ((ji22) < (l0_1.length : Int)) = true := decide_eq_true c24
             clear c24
             replace H := BS H
             obtain ⟨t143, A250, H⟩ := H
             have A25 := Aside0.mk A250
             clear A250
             have H' := Aside0.mk H
             clear H
             try go_wp2
             have n0_ : Aside0 (((w18.setCell ⟨gb141, 0, none⟩ (.int .i64 ((rd_T50 l0_1 x19_2).f0))).setCell ⟨gb141, 1, none⟩ (.string ((rd_T50 l0_1 x19_2).f1))).heap[gb135]? = some (.cells #[.int .i64 a0_0, .slice (some ad140) l0_1.length c0_1] 29 (0, 0))) := ⟨by (with_reducible repeat (first | refine blk_drewN ?_ _ | refine blk_drew ?_ | refine blk_alloc ?_ _)); refine blk_far ?_ NB135_141.out _; (with_reducible repeat (first | refine blk_drewN ?_ _ | refine blk_drew ?_ | refine blk_alloc ?_ _)); refine blk_far ?_ NB135_141.out _; (with_reducible repeat (first | refine blk_drewN ?_ _ | refine blk_drew ?_ | refine blk_alloc ?_ _)); exact BK135.out⟩
             have n1_ : Aside0 (((w18.setCell ⟨gb141, 0, none⟩ (.int .i64 ((rd_T50 l0_1 x19_2).f0))).setCell ⟨gb141, 1, none⟩ (.string ((rd_T50 l0_1 x19_2).f1))).heap[gb141]? = some (.cells #[.int .i64 ((rd_T50 l0_1 x19_2).f0), .string ((rd_T50 l0_1 x19_2).f1)] 50 (0, 0))) := ⟨by (with_reducible repeat (first | refine blk_drewN ?_ _ | refine blk_drew ?_ | refine blk_alloc ?_ _)); refine blk_put (cs := #[.int .i64 ((rd_T50 l0_1 x19_2).f0), .string (⟨#[]⟩ : ByteArray)]) ?_ 1 _ rfl; (with_reducible repeat (first | refine blk_drewN ?_ _ | refine blk_drew ?_ | refine blk_alloc ?_ _)); refine blk_put (cs := #[.int .i64 0, .string (⟨#[]⟩ : ByteArray)]) ?_ 0 _ rfl; (with_reducible repeat (first | refine blk_drewN ?_ _ | refine blk_drew ?_ | refine blk_alloc ?_ _)); exact BK141.out⟩
             have n2_ : Aside0 (Below w.heap.size w ((w18.setCell ⟨gb141, 0, none⟩ (.int .i64 ((rd_T50 l0_1 x19_2).f0))).setCell ⟨gb141, 1, none⟩ (.string ((rd_T50 l0_1 x19_2).f1)))) := ⟨by repeat (first | (with_reducible first | exact HB.out | apply below_alloc | apply pw_below_drewN | apply below_drew1 | refine below_set ?_ GE135.out | refine below_set ?_ GE141.out) | exact HB.out)⟩
             (try clear BK135)
             (try clear BK141)
             (try clear HB)
             generalize ((w18.setCell ⟨gb141, 0, none⟩ (.int .i64 ((rd_T50 l0_1 x19_2).f0))).setCell ⟨gb141, 1, none⟩ (.string ((rd_T50 l0_1 x19_2).f1))) = w26 at n0_ n1_ n2_ ⊢
             have BK135 := n0_
             have BK141 := n1_
             have HB := n2_
             clear n0_ n1_ n2_
             have n0_ := Aside0.mk (blk_drew BK135.out)
             have n1_ := Aside0.mk (blk_drew BK141.out)
             have n2_ := Aside0.mk (below_drew1 HB.out)
             clear BK135
             clear BK141
             clear HB
             have BK135 := n0_
             have BK141 := n1_
             have HB := n2_
             clear n0_ n1_ n2_
             have p142 : 0 ≤ ((ji22) : Int) := of_decide_eq_true AS
             have q142 : (ji22) < (l0_1.length : Int) := of_decide_eq_true AS
             obtain ⟨ad142, e142, hx142_0, hx142_1⟩ := at_T50 HR0_1.out (ji22) p142 q142
             have hw142_1 := hx142_1
             have hw142_0 := hx142_0
             obtain rfl : ad140 = ad142 := (by injection e142)
             replace hx142_0 := (HB.out.cell (World.block_lt_of_cell? w _ hx142_0)).trans hx142_0
             replace hx142_1 := (HB.out.cell (World.block_lt_of_cell? w _ hx142_1)).trans hx142_1
             replace p142 := eq_true p142
             replace q142 := eq_true q142
             refine start_ (n := 13) (S := fun w' => w'.cell? ⟨gb135, 0, none⟩ = some (.int .i64 a0_0) ∧ w'.cell? ⟨gb135, 1, none⟩ = some (.slice (some ad140) l0_1.length c0_1) ∧ w'.cell? ⟨gb141, 0, none⟩ = some (.int .i64 ((rd_T50 l0_1 x19_2).f0)) ∧ w'.cell? ⟨gb141, 1, none⟩ = some (.string ((rd_T50 l0_1 x19_2).f1)) ∧ w'.cell? (ad140.add (((ji22)).toNat * 2)) = some (.int .i64 ((rd_T50 l0_1 (ji22)).f0)) ∧ w'.cell? ⟨(ad140.add (((ji22)).toNat * 2)).block, (ad140.add (((ji22)).toNat * 2)).off + 1, none⟩ = some (.string ((rd_T50 l0_1 (ji22)).f1))) (ds := []) #[false, false, false, false, false, false, false, false, false, false, false, false, false] (by kernel_rfl) rfl rfl ⟨(blk_cell BK135.out 0).trans rfl, (blk_cell BK135.out 1).trans rfl, (blk_cell BK141.out 0).trans rfl, (blk_cell BK141.out 1).trans rfl, ((HB.out.cell (World.block_lt_of_cell? w _ hw142_0)).trans hw142_0), ((HB.out.cell (World.block_lt_of_cell? w _ hw142_1)).trans hw142_1)⟩ (fun hHeld => ?_); refine with_tabW spec_TableOk.tab7 spec_TableOk.bits7 (fun HT_ HW_ => ?_)
             generalize w26.drew = w27 at BK135 BK141 HB hx142_0 hx142_1 hHeld ⊢
             refine PU (i := 0) (N := some 24) (tf 1 12) rfl rfl HT_ ?_
             refine PU (i := 1) (N := some 25) (tf 2 11) rfl rfl HT_ ?_
             refine PU (i := 2) (N := some 26) (tf 3 10) rfl rfl HT_ ?_
             refine PU (i := 3) (N := some 27) (tf 4 9) rfl rfl HT_ ?_
             refine PU (i := 5) (N := some 29) #[true, true, true, true, false, true, false, false, false, false, false, false, false] rfl rfl HT_ ?_
             refine PU (i := 6) (N := some 30) #[true, true, true, true, false, true, true, false, false, false, false, false, false] rfl rfl HT_ ?_
             refine PT (i := 4) (N := some 28) (tf 7 6) rfl rfl HT_ HW_ hHeld ?_
             refine PU (i := 7) (N := some 31) (tf 8 5) rfl rfl HT_ ?_
             refine PT (i := 8) (N := some 32) (tf 9 4) rfl rfl HT_ HW_ hHeld ?_
             refine PT (i := 9) (N := some 33) (tf 10 3) rfl rfl HT_ HW_ hHeld ?_
             refine one_ (i := 10) (N := some 34) (tf 11 2) rfl rfl (one_of HT_.out (by kernel_rfl)) (by decide) (fun K hK => ?_)
             refine goes_ Try.func39 (by kernel_rfl) rfl #[.agg #[.int .i64 ((rd_T50 l0_1 (ji22)).f0), .string ((rd_T50 l0_1 (ji22)).f1)], .agg #[.int .i64 ((rd_T50 l0_1 x19_2).f0), .string ((rd_T50 l0_1 x19_2).f1)]] (by rfl) rfl rfl (by (try simp only [List.map_toArray, List.map_cons, List.map_nil]); first | done | (simp only [hji22]; rfl) | rfl | (simp only [List.length_drop, List.length_take]; rfl)) ?_
             with_reducible refine (spec_l19Before.calls ((rd_T50 l0_1 (ji22)).f0) ((rd_T50 l0_1 (ji22)).f1) ((rd_T50 l0_1 x19_2).f0) ((rd_T50 l0_1 x19_2).f1) t143 _ A25.out).mono ?_
             rintro e w28 ⟨rfl, hb⟩
             refine ⟨_, rfl, ?_⟩
             have n0_ := Aside0.mk (blk_below (BD BK135) hb)
             have n1_ := Aside0.mk (blk_below (BD BK141) hb)
             have n2_ := Aside0.mk (below_step BG hb)
             clear BK135
             clear BK141
             clear HB
             have BK135 := n0_
             have BK141 := n1_
             have HB := n2_
             clear n0_ n1_ n2_
             (try clear hb)
             (try clear hb2)
             (try clear hk)
             (try clear hi)
             refine hK.out _ _ ⟨(blk_cell BK135.out 0).trans rfl, (blk_cell BK135.out 1).trans rfl, (blk_cell BK141.out 0).trans rfl, (blk_cell BK141.out 1).trans rfl, ((HB.out.cell (World.block_lt_of_cell? w _ hw142_0)).trans hw142_0), ((HB.out.cell (World.block_lt_of_cell? w _ hw142_1)).trans hw142_1)⟩ (fun hHeld => ?_)
             clear hK K
             refine NM (some 34) ?_
             refine PU (i := 11) (N := some 35) (tf 12 1) rfl rfl HT_ ?_
             refine PU (i := 12) (N := some 36) (tf 13 0) rfl rfl HT_ ?_
             refine done_ (done_of HT_.out (by kernel_rfl)) ?_
             try go_wp2
             go_meet
             case rel => exact ⟨_, (!t143), RS, H', ⟨by have := HJ1.out; have := HK2.out; first | omega | exact Nat.le_refl _⟩, ⟨by (with_reducible repeat (first | refine blk_drewN ?_ _ | refine blk_drew ?_ | refine blk_alloc ?_ _)); exact BK135.out⟩, ⟨by (with_reducible repeat (first | refine blk_drewN ?_ _ | refine blk_drew ?_ | refine blk_alloc ?_ _)); exact BK141.out⟩, ⟨by repeat (first | (with_reducible first | exact HB.out | apply below_alloc | apply pw_below_drewN | apply below_drew1 | refine below_set ?_ GE135.out | refine below_set ?_ GE141.out) | exact HB.out)⟩⟩
            ·rw [if_neg c24] at H
             exact absurd H (by simp)
           ·rw [if_neg c23] at H
            exact absurd H (by simp)
          ·rw [if_neg c21] at H
           have c21b0 : decide (0 < x19_2) = false := decide_eq_false c21
           clear c21
           (first | rw [c21b0] | (simp only [i64_w, i32_w]; rw [c21b0]) | skip)
           have H' := Aside0.mk H
           clear H
           try go_wp2
           have n0_ : Aside0 (((w18.setCell ⟨gb141, 0, none⟩ (.int .i64 ((rd_T50 l0_1 x19_2).f0))).setCell ⟨gb141, 1, none⟩ (.string ((rd_T50 l0_1 x19_2).f1))).heap[gb135]? = some (.cells #[.int .i64 a0_0, .slice (some ad140) l0_1.length c0_1] 29 (0, 0))) := ⟨by (with_reducible repeat (first | refine blk_drewN ?_ _ | refine blk_drew ?_ | refine blk_alloc ?_ _)); refine blk_far ?_ NB135_141.out _; (with_reducible repeat (first | refine blk_drewN ?_ _ | refine blk_drew ?_ | refine blk_alloc ?_ _)); refine blk_far ?_ NB135_141.out _; (with_reducible repeat (first | refine blk_drewN ?_ _ | refine blk_drew ?_ | refine blk_alloc ?_ _)); exact BK135.out⟩
           have n1_ : Aside0 (((w18.setCell ⟨gb141, 0, none⟩ (.int .i64 ((rd_T50 l0_1 x19_2).f0))).setCell ⟨gb141, 1, none⟩ (.string ((rd_T50 l0_1 x19_2).f1))).heap[gb141]? = some (.cells #[.int .i64 ((rd_T50 l0_1 x19_2).f0), .string ((rd_T50 l0_1 x19_2).f1)] 50 (0, 0))) := ⟨by (with_reducible repeat (first | refine blk_drewN ?_ _ | refine blk_drew ?_ | refine blk_alloc ?_ _)); refine blk_put (cs := #[.int .i64 ((rd_T50 l0_1 x19_2).f0), .string (⟨#[]⟩ : ByteArray)]) ?_ 1 _ rfl; (with_reducible repeat (first | refine blk_drewN ?_ _ | refine blk_drew ?_ | refine blk_alloc ?_ _)); refine blk_put (cs := #[.int .i64 0, .string (⟨#[]⟩ : ByteArray)]) ?_ 0 _ rfl; (with_reducible repeat (first | refine blk_drewN ?_ _ | refine blk_drew ?_ | refine blk_alloc ?_ _)); exact BK141.out⟩
           have n2_ : Aside0 (Below w.heap.size w ((w18.setCell ⟨gb141, 0, none⟩ (.int .i64 ((rd_T50 l0_1 x19_2).f0))).setCell ⟨gb141, 1, none⟩ (.string ((rd_T50 l0_1 x19_2).f1)))) := ⟨by repeat (first | (with_reducible first | exact HB.out | apply below_alloc | apply pw_below_drewN | apply below_drew1 | refine below_set ?_ GE135.out | refine below_set ?_ GE141.out) | exact HB.out)⟩
           (try clear BK135)
           (try clear BK141)
           (try clear HB)
           generalize ((w18.setCell ⟨gb141, 0, none⟩ (.int .i64 ((rd_T50 l0_1 x19_2).f0))).setCell ⟨gb141, 1, none⟩ (.string ((rd_T50 l0_1 x19_2).f1))) = w29 at n0_ n1_ n2_ ⊢
           have BK135 := n0_
           have BK141 := n1_
           have HB := n2_
           clear n0_ n1_ n2_
           have n0_ := Aside0.mk (blk_drew BK135.out)
           have n1_ := Aside0.mk (blk_drew BK141.out)
           have n2_ := Aside0.mk (below_drew1 HB.out)
           clear BK135
           clear BK141
           clear HB
           have BK135 := n0_
           have BK141 := n1_
           have HB := n2_
           clear n0_ n1_ n2_
           refine start_ (n := 13) (S := fun w' => True) (ds := []) #[false, false, false, false, false, false, false, false, false, false, false, false, false] (by kernel_rfl) rfl rfl trivial (fun hHeld => ?_); refine with_tabW spec_TableOk.tab7 spec_TableOk.bits7 (fun HT_ HW_ => ?_)
           generalize w29.drew = w30 at BK135 BK141 HB hHeld ⊢
           refine PU (i := 0) (N := some 24) (tf 1 12) rfl rfl HT_ ?_
           refine PU (i := 1) (N := some 25) (tf 2 11) rfl rfl HT_ ?_
           refine PU (i := 2) (N := some 26) (tf 3 10) rfl rfl HT_ ?_
           refine PN (i := 3) (N := some 27) (tf 4 9) rfl rfl HT_ ?_
           refine PN (i := 4) (N := some 28) (tf 5 8) rfl rfl HT_ ?_
           refine PN (i := 5) (N := some 29) (tf 6 7) rfl rfl HT_ ?_
           refine PN (i := 6) (N := some 30) (tf 7 6) rfl rfl HT_ ?_
           refine PN (i := 7) (N := some 31) (tf 8 5) rfl rfl HT_ ?_
           refine PN (i := 8) (N := some 32) (tf 9 4) rfl rfl HT_ ?_
           refine PN (i := 9) (N := some 33) (tf 10 3) rfl rfl HT_ ?_
           refine PN (i := 10) (N := some 34) (tf 11 2) rfl rfl HT_ ?_
           refine PN (i := 11) (N := some 35) (tf 12 1) rfl rfl HT_ ?_
           refine PU (i := 12) (N := some 36) (tf 13 0) rfl rfl HT_ ?_
           refine done_ (done_of HT_.out (by kernel_rfl)) ?_
           try go_wp2
           go_meet
           case rel => exact ⟨_, (false), RS, H', ⟨by have := HJ1.out; have := HK2.out; first | omega | exact Nat.le_refl _⟩, ⟨by (with_reducible repeat (first | refine blk_drewN ?_ _ | refine blk_drew ?_ | refine blk_alloc ?_ _)); exact BK135.out⟩, ⟨by (with_reducible repeat (first | refine blk_drewN ?_ _ | refine blk_drew ?_ | refine blk_alloc ?_ _)); exact BK141.out⟩, ⟨by repeat (first | (with_reducible first | exact HB.out | apply below_alloc | apply pw_below_drewN | apply below_drew1 | refine below_set ?_ GE135.out | refine below_set ?_ GE141.out) | exact HB.out)⟩⟩
         case rest =>
          clear HC17
          try clear c1
          try clear p1
          try clear q1
          try clear hx1
          try clear c2
          try clear p2
          try clear c3
          try clear c5
          try clear p6
          try clear c12
          try clear c14
          try clear c14b0
          try clear p14
          try clear q14
          try clear hx14
          try clear c15
          try clear c15b0
          try clear c16
          try clear c16b0
          try clear c19
          try clear c21
          try clear c21b0
          try clear c23
          try clear c23b0
          try clear c24
          try clear c24b0
          try clear hcz13_0
          try clear hcz13_1
          try clear hcz20_0
          try clear hcz20_1
          try clear hfz13_0
          try clear hfz13_1
          try clear hfz20_0
          try clear hfz20_1
          try clear hx140_0
          try clear hx140_1
          try clear hx142_0
          try clear hx142_1
          try clear p140
          try clear p142
          try clear p2
          try clear q140
          try clear q142
          obtain ⟨kq, x36_16, rfl, HA, HJ16, BK135, BK141, HB⟩ := hcut
          cases kq with
          | zero => exact absurd HA.out (by simp [spec_TableOk.j2])
          | succ kj16 =>
           have H := HA.out
           clear HA
           simp only [spec_TableOk.j2] at H
           by_cases c31 : x36_16 = true
           ·subst c31
            replace H := IP H
            obtain rfl := Option.some.inj H
            go_wp2
            go_ret
            exact ⟨by first | rfl | (simp [errW_none, errW_some] <;> rfl) | (simp [*, errW_none, errW_some] <;> rfl), BG⟩
           ·replace c31 := Bool.eq_false_iff.mpr c31
            subst c31
            replace H := IN H
            by_cases c32 : ((rd_T50 l0_1 x19_2).f1).toList = ([] : List UInt8)
            ·rw [if_pos c32] at H
             have c32b0 : (((rd_T50 l0_1 x19_2).f1).toList == ([] : List UInt8)) = true := beq_iff_eq.mpr c32
             have c32b1 : (((rd_T50 l0_1 x19_2).f1).toList != ([] : List UInt8)) = false := bne_eq_false_iff_eq.mpr c32
             clear c32
             replace H := BS H
             obtain ⟨t144, A330, H⟩ := H
             have A33 := Aside0.mk A330
             clear A330
             by_cases c34 : t144 = true
             ·subst c34
              replace H := IP H
              have H' := Aside0.mk H
              clear H
              have hnb35 := NB141_135.out
              have hnc35 := NB135_141.out
              obtain ⟨hcz36_0, hcz36_1, hfz36_0, hfz36_1⟩ := bk2 BK141.out
              obtain ⟨hcz37_0, hcz37_1, hfz37_0, hfz37_1⟩ := bk2 BK135.out
              go_wp2_with (first | ((with_reducible refine gate_callee (f := 40) rfl ?_); refine goesL_ (some 42) rfl rfl Try.func40 (by kernel_rfl) rfl #[.agg #[.int .i64 a0_0, .slice (some ad140) l0_1.length c0_1], .agg #[.int .i64 ((rd_T50 l0_1 x19_2).f0), .string ((rd_T50 l0_1 x19_2).f1)]] rfl AQ ?_; (with_reducible refine (spec_l19Open.calls kj16 a0_0 _ _ l0_1 ((rd_T50 l0_1 x19_2).f0) ((rd_T50 l0_1 x19_2).f1) true _ ?side1 ?side2 A33.out).mono ?_); (case side1 => exact SC HR0_1); (case side2 => exact HC0_1.out); rintro e w38 ⟨rfl, hb⟩; refine ⟨_, rfl, ?_⟩; have n0_ := Aside0.mk (blk_below (BD BK135) hb); have n1_ := Aside0.mk (blk_below (BD BK141) hb); have n2_ := Aside0.mk (below_step BG hb); clear BK135; clear BK141; clear HB; have BK135 := n0_; have BK141 := n1_; have HB := n2_; clear n0_ n1_ n2_; (try clear hb); (try clear hb2); (try clear hk); (try clear hi)))
              go_roundg kj16
              case measure => have := HJ1.out; have := HK2.out; have := HJ16.out; omega
              case rel => exact ⟨(x3_2), (wrap64 (x19_2 + 1)), RS, RS, H', ⟨by have := HJ1.out; have := HK2.out; have := HJ16.out; omega⟩, ⟨by (with_reducible repeat (first | refine blk_drewN ?_ _ | refine blk_drew ?_ | refine blk_alloc ?_ _)); exact BK135.out⟩, ⟨by repeat (first | (with_reducible first | exact HB.out | apply below_alloc | apply pw_below_drewN | apply below_drew1 | refine below_set ?_ GE135.out | refine below_set ?_ GE141.out) | exact HB.out)⟩⟩
             ·replace c34 := Bool.eq_false_iff.mpr c34
              subst c34
              replace H := IN H
              obtain rfl := Option.some.inj H
              have hnb39 := NB141_135.out
              have hnc39 := NB135_141.out
              obtain ⟨hcz40_0, hcz40_1, hfz40_0, hfz40_1⟩ := bk2 BK141.out
              obtain ⟨hcz41_0, hcz41_1, hfz41_0, hfz41_1⟩ := bk2 BK135.out
              go_wp2_with (first | ((with_reducible refine gate_callee (f := 40) rfl ?_); refine goesL_ (some 42) rfl rfl Try.func40 (by kernel_rfl) rfl #[.agg #[.int .i64 a0_0, .slice (some ad140) l0_1.length c0_1], .agg #[.int .i64 ((rd_T50 l0_1 x19_2).f0), .string ((rd_T50 l0_1 x19_2).f1)]] rfl AQ ?_; (with_reducible refine (spec_l19Open.calls kj16 a0_0 _ _ l0_1 ((rd_T50 l0_1 x19_2).f0) ((rd_T50 l0_1 x19_2).f1) false _ ?side1 ?side2 A33.out).mono ?_); (case side1 => exact SC HR0_1); (case side2 => exact HC0_1.out); rintro e w42 ⟨rfl, hb⟩; refine ⟨_, rfl, ?_⟩; have n0_ := Aside0.mk (blk_below (BD BK135) hb); have n1_ := Aside0.mk (blk_below (BD BK141) hb); have n2_ := Aside0.mk (below_step BG hb); clear BK135; clear BK141; clear HB; have BK135 := n0_; have BK141 := n1_; have HB := n2_; clear n0_ n1_ n2_; (try clear hb); (try clear hb2); (try clear hk); (try clear hi)))
              go_ret
              exact ⟨by first | rfl | (simp [errW_none, errW_some] <;> rfl) | (simp [*, errW_none, errW_some] <;> rfl), BG⟩
            ·rw [if_neg c32] at H
             have c32b0 : (((rd_T50 l0_1 x19_2).f1).toList == ([] : List UInt8)) = false := beq_eq_false_iff_ne.mpr c32
             have c32b1 : (((rd_T50 l0_1 x19_2).f1).toList != ([] : List UInt8)) = true := bne_iff_ne.mpr c32
             replace H := BS H
             obtain ⟨t145, A430, H⟩ := H
             have A43 := Aside0.mk A430
             clear A430
             by_cases c44 : t145 = true
             ·subst c44
              replace H := IP H
              replace H := BS H
              obtain ⟨⟨t146, t147⟩, A450, H⟩ := H
              have A45 := Aside0.mk A450
              clear A450
              by_cases c46 : (!(((rd_T50 l0_1 x19_2).f0) == t146) || (!(((rd_T50 l0_1 x19_2).f1).toList == t147.toList))) = true
              ·rw [if_pos c46] at H
               have c46b0 : (!(((rd_T50 l0_1 x19_2).f0) == t146) || (!(((rd_T50 l0_1 x19_2).f1).toList == t147.toList))) = true := c46
               clear c46
               obtain rfl := Option.some.inj H
               have hnb47 := NB141_135.out
               have hnc47 := NB135_141.out
               obtain ⟨hcz48_0, hcz48_1, hfz48_0, hfz48_1⟩ := bk2 BK141.out
               try go_wp2
               have n0_ := Aside0.mk (blk_drew BK135.out)
               have n1_ := Aside0.mk (blk_drew BK141.out)
               have n2_ := Aside0.mk (below_drew1 HB.out)
               clear BK135
               clear BK141
               clear HB
               have BK135 := n0_
               have BK141 := n1_
               have HB := n2_
               clear n0_ n1_ n2_
               refine start_ (n := 12) (S := fun w' => w'.cell? ⟨gb141, 0, none⟩ = some (.int .i64 ((rd_T50 l0_1 x19_2).f0)) ∧ w'.cell? ⟨gb141, 1, none⟩ = some (.string ((rd_T50 l0_1 x19_2).f1))) (ds := []) #[false, false, false, false, false, false, false, false, false, false, false, false] (by kernel_rfl) rfl rfl ⟨(blk_cell BK141.out 0).trans rfl, (blk_cell BK141.out 1).trans rfl⟩ (fun hHeld => ?_); refine with_tabW spec_TableOk.tab13 spec_TableOk.bits13 (fun HT_ HW_ => ?_)
               generalize wc.drew = w49 at BK135 BK141 HB hHeld ⊢
               refine PU (i := 0) (N := some 46) (tf 1 11) rfl rfl HT_ ?_
               refine PT (i := 1) (N := some 47) (tf 2 10) rfl rfl HT_ HW_ hHeld ?_
               refine PU (i := 2) (N := some 48) (tf 3 9) rfl rfl HT_ ?_
               refine one_ (i := 3) (N := some 49) (tf 4 8) rfl rfl (one_of HT_.out (by kernel_rfl)) (by decide) (fun K hK => ?_)
               refine goes_ Try.func41 (by kernel_rfl) rfl #[.agg #[.string ((rd_T50 l0_1 x19_2).f1), .string (⟨#[]⟩ : ByteArray), .int .i64 0]] (by rfl) rfl rfl AQ ?_
               with_reducible refine (spec_ItemOk.calls kj16 ((rd_T50 l0_1 x19_2).f1) (⟨#[]⟩ : ByteArray) 0 true _ A43.out).mono ?_
               rintro e w50 ⟨rfl, hb⟩
               refine ⟨_, rfl, ?_⟩
               have n0_ := Aside0.mk (blk_below (BD BK135) hb)
               have n1_ := Aside0.mk (blk_below (BD BK141) hb)
               have n2_ := Aside0.mk (below_step BG hb)
               clear BK135
               clear BK141
               clear HB
               have BK135 := n0_
               have BK141 := n1_
               have HB := n2_
               clear n0_ n1_ n2_
               (try clear hb)
               (try clear hb2)
               (try clear hk)
               (try clear hi)
               refine hK.out _ _ ⟨(blk_cell BK141.out 0).trans rfl, (blk_cell BK141.out 1).trans rfl⟩ (fun hHeld => ?_)
               clear hK K
               refine NM (some 49) ?_
               refine PU (i := 4) (N := some 50) (tf 5 7) rfl rfl HT_ ?_
               refine PU (i := 5) (N := some 51) (tf 6 6) rfl rfl HT_ ?_
               refine PU (i := 7) (N := some 53) #[true, true, true, true, true, true, false, true, false, false, false, false] rfl rfl HT_ ?_
               refine PT (i := 6) (N := some 52) (tf 8 4) rfl rfl HT_ HW_ hHeld ?_
               refine PT (i := 8) (N := some 54) (tf 9 3) rfl rfl HT_ HW_ hHeld ?_
               refine one_ (i := 9) (N := some 55) (tf 10 2) rfl rfl (one_of HT_.out (by kernel_rfl)) (by decide) (fun K hK => ?_)
               refine goes_ Try.func42 (by kernel_rfl) rfl #[.string ((rd_T50 l0_1 x19_2).f1)] (by rfl) rfl rfl AQ ?_
               with_reducible refine (spec_l19Key.calls kj16 ((rd_T50 l0_1 x19_2).f1) t146 t147 _ A45.out).mono ?_
               rintro e w51 ⟨rfl, hb⟩
               refine ⟨_, rfl, ?_⟩
               have n0_ := Aside0.mk (blk_below (BD BK135) hb)
               have n1_ := Aside0.mk (blk_below (BD BK141) hb)
               have n2_ := Aside0.mk (below_step BG hb)
               clear BK135
               clear BK141
               clear HB
               have BK135 := n0_
               have BK141 := n1_
               have HB := n2_
               clear n0_ n1_ n2_
               (try clear hb)
               (try clear hb2)
               (try clear hk)
               (try clear hi)
               refine hK.out _ _ ⟨(blk_cell BK141.out 0).trans rfl, (blk_cell BK141.out 1).trans rfl⟩ (fun hHeld => ?_)
               clear hK K
               refine NM (some 55) ?_
               refine PU (i := 10) (N := some 56) (tf 11 1) rfl rfl HT_ ?_
               refine PU (i := 11) (N := some 57) (tf 12 0) rfl rfl HT_ ?_
               refine done_ (done_of HT_.out (by kernel_rfl)) ?_
               try go_wp2
               go_ret
               exact ⟨by first | rfl | (simp [errW_none, errW_some] <;> rfl) | (simp [*, errW_none, errW_some] <;> rfl), BG⟩
              ·rw [if_neg c46] at H
               have c46b0 : (!(((rd_T50 l0_1 x19_2).f0) == t146) || (!(((rd_T50 l0_1 x19_2).f1).toList == t147.toList))) = false := by simpa using c46
               clear c46
               have H' := Aside0.mk H
               clear H
               have hnb52 := NB141_135.out
               have hnc52 := NB135_141.out
               obtain ⟨hcz53_0, hcz53_1, hfz53_0, hfz53_1⟩ := bk2 BK141.out
               try go_wp2
               have n0_ := Aside0.mk (blk_drew BK135.out)
               have n1_ := Aside0.mk (blk_drew BK141.out)
               have n2_ := Aside0.mk (below_drew1 HB.out)
               clear BK135
               clear BK141
               clear HB
               have BK135 := n0_
               have BK141 := n1_
               have HB := n2_
               clear n0_ n1_ n2_
               refine start_ (n := 12) (S := fun w' => w'.cell? ⟨gb141, 0, none⟩ = some (.int .i64 ((rd_T50 l0_1 x19_2).f0)) ∧ w'.cell? ⟨gb141, 1, none⟩ = some (.string ((rd_T50 l0_1 x19_2).f1))) (ds := []) #[false, false, false, false, false, false, false, false, false, false, false, false] (by kernel_rfl) rfl rfl ⟨(blk_cell BK141.out 0).trans rfl, (blk_cell BK141.out 1).trans rfl⟩ (fun hHeld => ?_); refine with_tabW spec_TableOk.tab13 spec_TableOk.bits13 (fun HT_ HW_ => ?_)
               generalize wc.drew = w54 at BK135 BK141 HB hHeld ⊢
               refine PU (i := 0) (N := some 46) (tf 1 11) rfl rfl HT_ ?_
               refine PT (i := 1) (N := some 47) (tf 2 10) rfl rfl HT_ HW_ hHeld ?_
               refine PU (i := 2) (N := some 48) (tf 3 9) rfl rfl HT_ ?_
               refine one_ (i := 3) (N := some 49) (tf 4 8) rfl rfl (one_of HT_.out (by kernel_rfl)) (by decide) (fun K hK => ?_)
               refine goes_ Try.func41 (by kernel_rfl) rfl #[.agg #[.string ((rd_T50 l0_1 x19_2).f1), .string (⟨#[]⟩ : ByteArray), .int .i64 0]] (by rfl) rfl rfl AQ ?_
               with_reducible refine (spec_ItemOk.calls kj16 ((rd_T50 l0_1 x19_2).f1) (⟨#[]⟩ : ByteArray) 0 true _ A43.out).mono ?_
               rintro e w55 ⟨rfl, hb⟩
               refine ⟨_, rfl, ?_⟩
               have n0_ := Aside0.mk (blk_below (BD BK135) hb)
               have n1_ := Aside0.mk (blk_below (BD BK141) hb)
               have n2_ := Aside0.mk (below_step BG hb)
               clear BK135
               clear BK141
               clear HB
               have BK135 := n0_
               have BK141 := n1_
               have HB := n2_
               clear n0_ n1_ n2_
               (try clear hb)
               (try clear hb2)
               (try clear hk)
               (try clear hi)
               refine hK.out _ _ ⟨(blk_cell BK141.out 0).trans rfl, (blk_cell BK141.out 1).trans rfl⟩ (fun hHeld => ?_)
               clear hK K
               refine NM (some 49) ?_
               refine PU (i := 4) (N := some 50) (tf 5 7) rfl rfl HT_ ?_
               refine PU (i := 5) (N := some 51) (tf 6 6) rfl rfl HT_ ?_
               refine PU (i := 7) (N := some 53) #[true, true, true, true, true, true, false, true, false, false, false, false] rfl rfl HT_ ?_
               refine PT (i := 6) (N := some 52) (tf 8 4) rfl rfl HT_ HW_ hHeld ?_
               refine PT (i := 8) (N := some 54) (tf 9 3) rfl rfl HT_ HW_ hHeld ?_
               refine one_ (i := 9) (N := some 55) (tf 10 2) rfl rfl (one_of HT_.out (by kernel_rfl)) (by decide) (fun K hK => ?_)
               refine goes_ Try.func42 (by kernel_rfl) rfl #[.string ((rd_T50 l0_1 x19_2).f1)] (by rfl) rfl rfl AQ ?_
               with_reducible refine (spec_l19Key.calls kj16 ((rd_T50 l0_1 x19_2).f1) t146 t147 _ A45.out).mono ?_
               rintro e w56 ⟨rfl, hb⟩
               refine ⟨_, rfl, ?_⟩
               have n0_ := Aside0.mk (blk_below (BD BK135) hb)
               have n1_ := Aside0.mk (blk_below (BD BK141) hb)
               have n2_ := Aside0.mk (below_step BG hb)
               clear BK135
               clear BK141
               clear HB
               have BK135 := n0_
               have BK141 := n1_
               have HB := n2_
               clear n0_ n1_ n2_
               (try clear hb)
               (try clear hb2)
               (try clear hk)
               (try clear hi)
               refine hK.out _ _ ⟨(blk_cell BK141.out 0).trans rfl, (blk_cell BK141.out 1).trans rfl⟩ (fun hHeld => ?_)
               clear hK K
               refine NM (some 55) ?_
               refine PU (i := 10) (N := some 56) (tf 11 1) rfl rfl HT_ ?_
               refine PU (i := 11) (N := some 57) (tf 12 0) rfl rfl HT_ ?_
               refine done_ (done_of HT_.out (by kernel_rfl)) ?_
               try go_wp2
               go_roundg kj16
               case measure => have := HJ1.out; have := HK2.out; have := HJ16.out; omega
               case rel => exact ⟨(wrap64 (x3_2 + 1)), (wrap64 (x19_2 + 1)), RS, RS, H', ⟨by have := HJ1.out; have := HK2.out; have := HJ16.out; omega⟩, ⟨by (with_reducible repeat (first | refine blk_drewN ?_ _ | refine blk_drew ?_ | refine blk_alloc ?_ _)); exact BK135.out⟩, ⟨by repeat (first | (with_reducible first | exact HB.out | apply below_alloc | apply pw_below_drewN | apply below_drew1 | refine below_set ?_ GE135.out | refine below_set ?_ GE141.out) | exact HB.out)⟩⟩
             ·replace c44 := Bool.eq_false_iff.mpr c44
              subst c44
              replace H := IN H
              obtain rfl := Option.some.inj H
              have hnb57 := NB141_135.out
              have hnc57 := NB135_141.out
              obtain ⟨hcz58_0, hcz58_1, hfz58_0, hfz58_1⟩ := bk2 BK141.out
              try go_wp2
              have n0_ := Aside0.mk (blk_drew BK135.out)
              have n1_ := Aside0.mk (blk_drew BK141.out)
              have n2_ := Aside0.mk (below_drew1 HB.out)
              clear BK135
              clear BK141
              clear HB
              have BK135 := n0_
              have BK141 := n1_
              have HB := n2_
              clear n0_ n1_ n2_
              refine start_ (n := 12) (S := fun w' => w'.cell? ⟨gb141, 0, none⟩ = some (.int .i64 ((rd_T50 l0_1 x19_2).f0)) ∧ w'.cell? ⟨gb141, 1, none⟩ = some (.string ((rd_T50 l0_1 x19_2).f1))) (ds := []) #[false, false, false, false, false, false, false, false, false, false, false, false] (by kernel_rfl) rfl rfl ⟨(blk_cell BK141.out 0).trans rfl, (blk_cell BK141.out 1).trans rfl⟩ (fun hHeld => ?_); refine with_tabW spec_TableOk.tab13 spec_TableOk.bits13 (fun HT_ HW_ => ?_)
              generalize wc.drew = w59 at BK135 BK141 HB hHeld ⊢
              refine PU (i := 0) (N := some 46) (tf 1 11) rfl rfl HT_ ?_
              refine PT (i := 1) (N := some 47) (tf 2 10) rfl rfl HT_ HW_ hHeld ?_
              refine PU (i := 2) (N := some 48) (tf 3 9) rfl rfl HT_ ?_
              refine one_ (i := 3) (N := some 49) (tf 4 8) rfl rfl (one_of HT_.out (by kernel_rfl)) (by decide) (fun K hK => ?_)
              refine goes_ Try.func41 (by kernel_rfl) rfl #[.agg #[.string ((rd_T50 l0_1 x19_2).f1), .string (⟨#[]⟩ : ByteArray), .int .i64 0]] (by rfl) rfl rfl AQ ?_
              with_reducible refine (spec_ItemOk.calls kj16 ((rd_T50 l0_1 x19_2).f1) (⟨#[]⟩ : ByteArray) 0 false _ A43.out).mono ?_
              rintro e w60 ⟨rfl, hb⟩
              refine ⟨_, rfl, ?_⟩
              have n0_ := Aside0.mk (blk_below (BD BK135) hb)
              have n1_ := Aside0.mk (blk_below (BD BK141) hb)
              have n2_ := Aside0.mk (below_step BG hb)
              clear BK135
              clear BK141
              clear HB
              have BK135 := n0_
              have BK141 := n1_
              have HB := n2_
              clear n0_ n1_ n2_
              (try clear hb)
              (try clear hb2)
              (try clear hk)
              (try clear hi)
              refine hK.out _ _ ⟨(blk_cell BK141.out 0).trans rfl, (blk_cell BK141.out 1).trans rfl⟩ (fun hHeld => ?_)
              clear hK K
              refine NM (some 49) ?_
              refine PU (i := 4) (N := some 50) (tf 5 7) rfl rfl HT_ ?_
              refine PU (i := 5) (N := some 51) (tf 6 6) rfl rfl HT_ ?_
              refine PN (i := 6) (N := some 52) (tf 7 5) rfl rfl HT_ ?_
              refine PN (i := 7) (N := some 53) (tf 8 4) rfl rfl HT_ ?_
              refine PN (i := 8) (N := some 54) (tf 9 3) rfl rfl HT_ ?_
              refine PN (i := 9) (N := some 55) (tf 10 2) rfl rfl HT_ ?_
              refine PN (i := 10) (N := some 56) (tf 11 1) rfl rfl HT_ ?_
              refine PU (i := 11) (N := some 57) (tf 12 0) rfl rfl HT_ ?_
              refine done_ (done_of HT_.out (by kernel_rfl)) ?_
              try go_wp2
              go_ret
              exact ⟨by first | rfl | (simp [errW_none, errW_some] <;> rfl) | (simp [*, errW_none, errW_some] <;> rfl), BG⟩
        ·rw [if_neg c16] at H
         exact absurd H (by simp)
       ·rw [if_neg c15] at H
        exact absurd H (by simp)
      ·rw [if_neg c14] at H
       have c14b0 : decide (x19_2 < (l0_1.length : Int)) = false := decide_eq_false c14
       clear c14
       obtain rfl := Option.some.inj H
       go_wp2
       go_ret
       exact ⟨by first | rfl | (simp [errW_none, errW_some] <;> rfl) | (simp [*, errW_none, errW_some] <;> rfl), BG⟩
end Go.Proofs.Ytcdflbbohnjegaa.G

namespace Go.Proofs.Ytcdflbbohnjegaa.G
open Go.RowKit Go.Proofs.YtcdflbbohnjegaaW.PrintWords Go.Proofs.YtcdflbbohnjegaaW.PrintLast Go.Proofs.YtcdflbbohnjegaaW.PrintMore Go.Proofs.Ytcdflbbohnjegaa.Sh
attribute [local go_sem] max2_int min2_int max_two min_two max_three min_three max_four min_four
set_option linter.unusedVariables false
set_option linter.unusedSimpArgs false
def spec_Keys.l0 : Nat → List ByteArray → List (S50) → Int → Int → Option (List ByteArray)
 | 0, _, _, _, _ => none
 | k + 1, x3, x12, x13, x14 => if x14 < x13 then (if 0 ≤ x14 then (if x14 < (x12.length : Int) then (if ((rd_T50 x12 x14).f1).toList = ([] : List UInt8) then (spec_Keys.l0 k x3 x12 x13 (wrap64 (x14 + 1))) else (if x3.length < 8796093022208 then (spec_Keys.l0 k (x3 ++ [(rd_T50 x12 x14).f1]) x12 x13 (wrap64 (x14 + 1))) else (none))) else (none)) else (none)) else (some x3)
def spec_Keys.f (k : Nat) (a0_0 : Int) (l0_1 : List (S50)) : Option (List ByteArray) := (some (([] : List ByteArray) : List ByteArray)).bind fun y364 => ((spec_TableOk.f k a0_0 l0_1).bind fun t367 => (if t367 = true then (spec_Keys.l0 k y364 l0_1 (l0_1.length : Int) 0) else (some y364)))
theorem spec_Keys.mono_l : ∀ k, (∀ y0 y1 y2 y3, LeO (spec_Keys.l0 k y0 y1 y2 y3) (spec_Keys.l0 (k + 1) y0 y1 y2 y3))
 | 0 => fun _ _ _ _ r h => by simp [spec_Keys.l0] at h
 | k + 1 => by
  have ih0 := spec_Keys.mono_l k
  ·intro y0 y1 y2 y3
   unfold spec_Keys.l0
   repeat' first | (with_reducible first | exact ih0 _ _ _ _ | exact spec_TableOk.mono _ _ _ | exact LeO.refl _ | exact LeO.none _ | refine LeO.ite ?_ ?_ | refine LeO.bind ?_ (fun _ => ?_)) | exact ih0 _ _ _ _ | exact spec_TableOk.mono _ _ _ | exact LeO.none _ | refine LeO.ite ?_ ?_ | refine LeO.bind ?_ (fun _ => ?_)
theorem spec_Keys.mono : ∀ a0 a1 k, LeO (spec_Keys.f k a0 a1) (spec_Keys.f (k + 1) a0 a1) := by
 intro a0 a1 k
 have ih0 := spec_Keys.mono_l k
 unfold spec_Keys.f
 repeat' first | (with_reducible first | exact ih0 _ _ _ _ | exact spec_TableOk.mono _ _ _ | exact LeO.refl _ | exact LeO.none _ | refine LeO.ite ?_ ?_ | refine LeO.bind ?_ (fun _ => ?_)) | exact ih0 _ _ _ _ | exact spec_TableOk.mono _ _ _ | exact LeO.none _ | refine LeO.ite ?_ ?_ | refine LeO.bind ?_ (fun _ => ?_)
set_option maxHeartbeats 8000000 in
set_option maxRecDepth 100000 in
theorem spec_Keys.calls (k : Nat) (a0_0 : Int) (A0_1 : Option Addr) (c0_1 : Nat) (l0_1 : List (S50)) (r : List ByteArray) (w : World) (hr0_1 : Kd.C k50 w A0_1 l0_1.length l0_1) (hc0_1 : l0_1.length ≤ c0_1) (h : spec_Keys.f k a0_0 l0_1 = some r) :
  Calls Try.prog 22 #[.agg #[.int .i64 a0_0, .slice A0_1 l0_1.length c0_1]] w fun e w' => ∃ v0_ : Value, e = .returned (v0_) ∧ Kd.R Kd.string 9 w' w.heap.size (fun _ => True) v0_ r ∧ Below w.heap.size w w' := by
 have hu29 := Try.underlying29
 have hu50 := Try.underlying50
 have HR0_1 := Aside0.mk hr0_1
 have HC0_1 := Aside0.mk hc0_1
 clear hr0_1 hc0_1
 have HB := Aside0.mk (Below.refl w.heap.size w)
 have H : ((some (([] : List ByteArray) : List ByteArray)).bind fun y364 => ((spec_TableOk.f k a0_0 l0_1).bind fun t367 => (if t367 = true then (spec_Keys.l0 k y364 l0_1 (l0_1.length : Int) 0) else (some y364)))) = some r := h
 clear h
 obtain ⟨y364, hy364⟩ : ∃ y_ : List ByteArray, y_ = (([] : List ByteArray)) := ⟨_, rfl⟩
 replace H : ((spec_TableOk.f k a0_0 l0_1).bind fun t367 => (if t367 = true then (spec_Keys.l0 k y364 l0_1 (l0_1.length : Int) 0) else (some y364))) = some r := by first | (rw [hy364]; with_reducible exact H) | (have H2_ := (Option.bind_some _ _).symm.trans H; rw [hy364]; with_reducible exact H2_) | (have H2_ := (Option.bind_some _ _).symm.trans H; with_reducible exact H2_) | with_reducible exact H | (rw [hy364]; exact H) | exact H
 have Ny364 := Aside0.mk hy364
 clear hy364
 replace H := BS H
 obtain ⟨t367, A20, H⟩ := H
 have A2 := Aside0.mk A20
 clear A20
 by_cases c3 : t367 = true
 ·subst c3
  replace H := IP H
  have H' := Aside0.mk H
  clear H
  go_enter Try.func22, Try.ntmps22
  go_wp2_with (first | ((with_reducible refine gate_dst (N := 1) rfl ?_); refine box_event ?hg (N := 1) ?hd (cs := #[.int .i64 a0_0, .slice A0_1 l0_1.length c0_1]) (t := 29) ?hr ?_; (case hd => rfl); (case hg => rfl); (case hr => first | (go_simp; done) | (go_simp; rfl)); intro gb363 hg w4 hbox hb; have n0_ := Aside0.mk (below_step BL hb); have n1_ := Aside0.mk (hbox); have n2_ := Aside0.mk ((by rw [hg]; exact (below_size BL) : w.heap.size ≤ gb363)); have n3_ := Aside0.mk ((by rw [hg]; exact (below_size BL) : w.heap.size ≤ gb363)); clear HB; have HB := n0_; have BK363 := n1_; have GW363 := n2_; have GE363 := n3_; clear n0_ n1_ n2_ n3_; clear hb hbox hg) | ((with_reducible refine gate_dst (N := 6) rfl ?_); refine Kd.R_lit Kd.string _ 9 ?hg (N := 6) ?hd (xs := ([] : List ByteArray)) (inner := []) (ok := fun _ => True) (okp := fun _ => True) ?hr ?hp (fun _ hk => hk) trivial (Below.refl _ _) (Nat.le_refl _) (by simp) ?_; (case hd => rfl); (case hg => rfl); (case hr => first | (go_simp; done) | (go_simp; rfl)); (case hp => exact (Reps.none _ _)); intro v365 w5 ho6 hb hg_ hnew_; clear hg_ hnew_; (first | rw [← Ny364.out] at ho6 | (simp only [Int.reduceToNat] at ho6; rw [← Ny364.out] at ho6)); have n0_ := Aside0.mk (Kd.R_lower ho6 (below_size BG)); have n1_ := Aside0.mk (blk_below (BD BK363) hb); have n2_ := Aside0.mk (below_step BG hb); clear BK363; clear HB; have HO366 := n0_; have BK363 := n1_; have HB := n2_; clear n0_ n1_ n2_; clear hb ho6; obtain ⟨hcz7_0, hcz7_1, hfz7_0, hfz7_1⟩ := bk2 BK363.out) | ((with_reducible refine gate_callee (f := 12) rfl ?_); refine goesL_ (some 8) rfl rfl Try.func12 (by kernel_rfl) rfl #[.agg #[.int .i64 a0_0, .slice A0_1 l0_1.length c0_1]] rfl AQ ?_; (with_reducible refine (spec_TableOk.calls k a0_0 _ _ l0_1 true _ ?side1 ?side2 A2.out).mono ?_); (case side1 => exact SC HR0_1); (case side2 => exact HC0_1.out); rintro e w8 ⟨rfl, hb⟩; refine ⟨_, rfl, ?_⟩; have n0_ := Aside0.mk (Kd.R_below (RD HO366) hb); have n1_ := Aside0.mk (blk_below (BD BK363) hb); have n2_ := Aside0.mk (below_step BG hb); clear HO366; clear BK363; clear HB; have HO366 := n0_; have BK363 := n1_; have HB := n2_; clear n0_ n1_ n2_; (try clear hb); (try clear hb2); (try clear hk); (try clear hi); obtain ⟨hcz9_0, hcz9_1, hfz9_0, hfz9_1⟩ := bk2 BK363.out))
  go_loopg [3, 14] k (fun kq v3 v14 w' => ∃ (x3_1 : List ByteArray) (x14_1 : Int), v14 = .int .i64 x14_1 ∧ Aside0 (spec_Keys.l0 kq x3_1 l0_1 (l0_1.length : Int) x14_1 = some r) ∧ Aside0 (kq ≤ k) ∧ Aside0 (Kd.R Kd.string 9 w' w.heap.size (fun _ => True) v3 x3_1) ∧ Aside0 (w'.heap[gb363]? = some (.cells #[.int .i64 a0_0, (.slice A0_1 l0_1.length c0_1)] 29 (0, 0))) ∧ Aside0 (Below w.heap.size w w'))
  case atStart => exact ⟨(y364), (0), RS, H', ⟨Nat.le_refl _⟩, ⟨by (with_reducible repeat (first | apply Kd.R_alloc | apply Kd.R_drewN | apply Kd.R_drew)); exact HO366.out⟩, ⟨by (with_reducible repeat (first | refine blk_drewN ?_ _ | refine blk_drew ?_ | refine blk_alloc ?_ _)); exact BK363.out⟩, ⟨by repeat (first | (with_reducible first | exact HB.out | apply below_alloc | apply pw_below_drewN | apply below_drew1 | refine below_set ?_ GE363.out) | exact HB.out)⟩⟩
  case round =>
   clear H'
   try clear c1
   try clear c2
   try clear p2
   try clear c3
   try clear hcz7_0
   try clear hcz7_1
   try clear hcz9_0
   try clear hcz9_1
   try clear hfz7_0
   try clear hfz7_1
   try clear hfz9_0
   try clear hfz9_1
   obtain ⟨x3_1, x14_1, rfl, HA, HK1, HO_3, BK363, HB⟩ := hrel
   cases gk with
   | zero => exact absurd HA.out (by simp [spec_Keys.l0])
   | succ k1 =>
    have H := HA.out
    clear HA
    simp only [spec_Keys.l0] at H
    by_cases c10 : x14_1 < (l0_1.length : Int)
    ·rw [if_pos c10] at H
     have c10b0 : decide (x14_1 < (l0_1.length : Int)) = true := decide_eq_true c10
     clear c10
     by_cases c11 : 0 ≤ x14_1
     ·rw [if_pos c11] at H
      have c11b0 : decide (0 ≤ x14_1) = true := decide_eq_true c11
      clear c11
      by_cases c12 : x14_1 < (l0_1.length : Int)
      ·rw [if_pos c12] at H
       have c12b0 : decide (x14_1 < (l0_1.length : Int)) = true := decide_eq_true c12
       clear c12
       by_cases c13 : ((rd_T50 l0_1 x14_1).f1).toList = ([] : List UInt8)
       ·rw [if_pos c13] at H
        have c13b0 : (((rd_T50 l0_1 x14_1).f1).toList == ([] : List UInt8)) = true := beq_iff_eq.mpr c13
        have c13b1 : (((rd_T50 l0_1 x14_1).f1).toList != ([] : List UInt8)) = false := bne_eq_false_iff_eq.mpr c13
        clear c13
        have H' := Aside0.mk H
        clear H
        have p368 : 0 ≤ (x14_1 : Int) := of_decide_eq_true AS
        have q368 : x14_1 < (l0_1.length : Int) := of_decide_eq_true AS
        obtain ⟨ad368, e368, hx368_0, hx368_1⟩ := at_T50 HR0_1.out x14_1 p368 q368
        cases e368
        replace hx368_0 := (HB.out.cell (World.block_lt_of_cell? w _ hx368_0)).trans hx368_0
        replace hx368_1 := (HB.out.cell (World.block_lt_of_cell? w _ hx368_1)).trans hx368_1
        replace p368 := eq_true p368
        replace q368 := eq_true q368
        go_wp2_with (first | ((with_reducible refine gate_dst (N := 5) rfl ?_); refine box_event ?hg (N := 5) ?hd (cs := #[.int .i64 0, .string (⟨#[]⟩ : ByteArray)]) (t := 50) ?hr ?_; (case hd => rfl); (case hg => rfl); (case hr => first | (go_simp; done) | (go_simp; rfl)); intro gb369 hg w14 hbox hb; have n0_ := Aside0.mk (Kd.R_below (RD HO_3) hb); have n1_ := Aside0.mk (blk_below (BD BK363) hb); have n2_ := Aside0.mk (below_step BG hb); have n3_ := Aside0.mk (hbox); have n4_ := Aside0.mk ((by rw [hg]; exact (below_size BG) : w.heap.size ≤ gb369)); have n5_ := Aside0.mk ((by rw [hg]; exact (below_size BG) : w.heap.size ≤ gb369)); have n6_ := Aside0.mk ((by rw [hg]; exact Nat.ne_of_lt (blk_lt (BD BK363)) : gb363 ≠ gb369)); have n7_ := Aside0.mk ((by rw [hg]; exact Nat.ne_of_gt (blk_lt (BD BK363)) : gb369 ≠ gb363)); clear HO_3; clear BK363; clear HB; have HO_3 := n0_; have BK363 := n1_; have HB := n2_; have BK369 := n3_; have GW369 := n4_; have GE369 := n5_; have NB363_369 := n6_; have NB369_363 := n7_; clear n0_ n1_ n2_ n3_ n4_ n5_ n6_ n7_; clear hb hbox hg; have hnb15 := NB369_363.out; have hnc15 := NB363_369.out; obtain ⟨hcz16_0, hcz16_1, hfz16_0, hfz16_1⟩ := bk2 BK369.out))
        go_roundg k1
        case measure => have := HK1.out; omega
        case rel => exact ⟨(x3_1), (wrap64 (x14_1 + 1)), RS, H', ⟨by have := HK1.out; omega⟩, ⟨by (with_reducible repeat (first | apply Kd.R_alloc | apply Kd.R_drewN | apply Kd.R_drew)); exact Kd.R_mono (FR (FR (Kd.R_types HO_3.out BK369.out (by decide)))) (fun _ hk => trivial)⟩, ⟨by (with_reducible repeat (first | refine blk_drewN ?_ _ | refine blk_drew ?_ | refine blk_alloc ?_ _)); refine blk_far ?_ NB363_369.out _; (with_reducible repeat (first | refine blk_drewN ?_ _ | refine blk_drew ?_ | refine blk_alloc ?_ _)); refine blk_far ?_ NB363_369.out _; (with_reducible repeat (first | refine blk_drewN ?_ _ | refine blk_drew ?_ | refine blk_alloc ?_ _)); exact BK363.out⟩, ⟨by repeat (first | (with_reducible first | exact HB.out | apply below_alloc | apply pw_below_drewN | apply below_drew1 | refine below_set ?_ GE363.out | refine below_set ?_ GE369.out) | exact HB.out)⟩⟩
       ·rw [if_neg c13] at H
        have c13b0 : (((rd_T50 l0_1 x14_1).f1).toList == ([] : List UInt8)) = false := beq_eq_false_iff_ne.mpr c13
        have c13b1 : (((rd_T50 l0_1 x14_1).f1).toList != ([] : List UInt8)) = true := bne_iff_ne.mpr c13
        by_cases c17 : x3_1.length < 8796093022208
        ·rw [if_pos c17] at H
         have LMc17 := Aside0.mk c17
         clear c17
         obtain ⟨y370, hy370⟩ : ∃ y_ : List ByteArray, y_ = (x3_1 ++ [(rd_T50 l0_1 x14_1).f1]) := ⟨_, rfl⟩
         replace H : (spec_Keys.l0 k1 y370 l0_1 (l0_1.length : Int) (wrap64 (x14_1 + 1))) = some r := by first | (rw [hy370]; with_reducible exact H) | (have H2_ := (Option.bind_some _ _).symm.trans H; rw [hy370]; with_reducible exact H2_) | (have H2_ := (Option.bind_some _ _).symm.trans H; with_reducible exact H2_) | with_reducible exact H | (rw [hy370]; exact H) | exact H
         have Ny370 := Aside0.mk hy370
         clear hy370
         have H' := Aside0.mk H
         clear H
         have p368 : 0 ≤ (x14_1 : Int) := of_decide_eq_true AS
         have q368 : x14_1 < (l0_1.length : Int) := of_decide_eq_true AS
         obtain ⟨ad368, e368, hx368_0, hx368_1⟩ := at_T50 HR0_1.out x14_1 p368 q368
         cases e368
         replace hx368_0 := (HB.out.cell (World.block_lt_of_cell? w _ hx368_0)).trans hx368_0
         replace hx368_1 := (HB.out.cell (World.block_lt_of_cell? w _ hx368_1)).trans hx368_1
         replace p368 := eq_true p368
         replace q368 := eq_true q368
         go_wp2_with (first | ((with_reducible refine gate_dst (N := 5) rfl ?_); refine box_event ?hg (N := 5) ?hd (cs := #[.int .i64 0, .string (⟨#[]⟩ : ByteArray)]) (t := 50) ?hr ?_; (case hd => rfl); (case hg => rfl); (case hr => first | (go_simp; done) | (go_simp; rfl)); intro gb369 hg w18 hbox hb; have n0_ := Aside0.mk (Kd.R_below (RD HO_3) hb); have n1_ := Aside0.mk (blk_below (BD BK363) hb); have n2_ := Aside0.mk (below_step BG hb); have n3_ := Aside0.mk (hbox); have n4_ := Aside0.mk ((by rw [hg]; exact (below_size BG) : w.heap.size ≤ gb369)); have n5_ := Aside0.mk ((by rw [hg]; exact (below_size BG) : w.heap.size ≤ gb369)); have n6_ := Aside0.mk ((by rw [hg]; exact Nat.ne_of_lt (blk_lt (BD BK363)) : gb363 ≠ gb369)); have n7_ := Aside0.mk ((by rw [hg]; exact Nat.ne_of_gt (blk_lt (BD BK363)) : gb369 ≠ gb363)); clear HO_3; clear BK363; clear HB; have HO_3 := n0_; have BK363 := n1_; have HB := n2_; have BK369 := n3_; have GW369 := n4_; have GE369 := n5_; have NB363_369 := n6_; have NB369_363 := n7_; clear n0_ n1_ n2_ n3_ n4_ n5_ n6_ n7_; clear hb hbox hg; have hnb19 := NB369_363.out; have hnc19 := NB363_369.out; obtain ⟨hcz20_0, hcz20_1, hfz20_0, hfz20_1⟩ := bk2 BK369.out) | ((with_reducible refine gate_builtin (b := .append) (xs := #[.tmp 21, .tmp 24]) rfl ?_); at_builtin; refine Kd.R_append Kd.string (w0 := w) w.heap.size rfl (.tmp 21) (.tmp 24) 38 9 (.string ⟨#[]⟩) 16 rfl Try.underlying38 info9 rfl (by decide) (by omega) u3 x3_1 ((rd_T50 l0_1 x14_1).f1) [.string ((rd_T50 l0_1 x14_1).f1)] (fun _ => True) (fun _ => False) rfl (by first | (go_simp; done) | (go_simp; rfl)) ?aP (fun _ hk => hk.elim) ?aF ?aO ?aB ?aS ?aL ?_; (case aP => exact rfl); (case aB => exact BG); (case aF => exact (fun _ _ => trivial)); (case aO => exact (by (with_reducible repeat (first | apply Kd.R_alloc | apply Kd.R_drewN | apply Kd.R_drew)); exact Kd.R_mono (FR (FR (Kd.R_types HO_3.out BK369.out (by decide)))) (fun _ hk => trivial))); (case aS => exact (below_size BG)); (case aL => have := LMc17.out; omega); intro v371 w21 ho hb hg hat; rw [← Ny370.out] at ho; have n0_ := Aside0.mk (blk_grown (g := gb363) (o := .cells #[.int .i64 a0_0, .slice (some ad368) l0_1.length c0_1] 29 (0, 0)) (by (with_reducible repeat (first | refine blk_drewN ?_ _ | refine blk_drew ?_ | refine blk_alloc ?_ _)); refine blk_far ?_ NB363_369.out _; (with_reducible repeat (first | refine blk_drewN ?_ _ | refine blk_drew ?_ | refine blk_alloc ?_ _)); refine blk_far ?_ NB363_369.out _; (with_reducible repeat (first | refine blk_drewN ?_ _ | refine blk_drew ?_ | refine blk_alloc ?_ _)); exact BK363.out) hg (Kd.R_ne HO_3.out BK363.out (by decide))); have n1_ := Aside0.mk (blk_grown (g := gb369) (o := .cells #[.int .i64 ((rd_T50 l0_1 x14_1).f0), .string ((rd_T50 l0_1 x14_1).f1)] 50 (0, 0)) (by (with_reducible repeat (first | refine blk_drewN ?_ _ | refine blk_drew ?_ | refine blk_alloc ?_ _)); refine blk_put (cs := #[.int .i64 ((rd_T50 l0_1 x14_1).f0), .string (⟨#[]⟩ : ByteArray)]) ?_ 1 _ rfl; (with_reducible repeat (first | refine blk_drewN ?_ _ | refine blk_drew ?_ | refine blk_alloc ?_ _)); refine blk_put (cs := #[.int .i64 0, .string (⟨#[]⟩ : ByteArray)]) ?_ 0 _ rfl; (with_reducible repeat (first | refine blk_drewN ?_ _ | refine blk_drew ?_ | refine blk_alloc ?_ _)); exact BK369.out) hg (Kd.R_ne HO_3.out BK369.out (by decide))); have n2_ := Aside0.mk (hb); have n3_ := Aside0.mk (ho); clear BK363; clear BK369; clear HB; clear HO_3; have BK363 := n0_; have BK369 := n1_; have HB := n2_; have HO372 := n3_; clear n0_ n1_ n2_ n3_; clear ho hb hg hat))
         go_roundg k1
         case measure => have := HK1.out; omega
         case rel => exact ⟨(y370), (wrap64 (x14_1 + 1)), RS, H', ⟨by have := HK1.out; omega⟩, ⟨by (with_reducible repeat (first | apply Kd.R_alloc | apply Kd.R_drewN | apply Kd.R_drew)); exact HO372.out⟩, ⟨by (with_reducible repeat (first | refine blk_drewN ?_ _ | refine blk_drew ?_ | refine blk_alloc ?_ _)); exact BK363.out⟩, ⟨by repeat (first | (with_reducible first | exact HB.out | apply below_alloc | apply pw_below_drewN | apply below_drew1 | refine below_set ?_ GE363.out | refine below_set ?_ GE369.out) | exact HB.out)⟩⟩
        ·rw [if_neg c17] at H
         exact absurd H (by simp)
      ·rw [if_neg c12] at H
       exact absurd H (by simp)
     ·rw [if_neg c11] at H
      exact absurd H (by simp)
    ·rw [if_neg c10] at H
     have c10b0 : decide (x14_1 < (l0_1.length : Int)) = false := decide_eq_false c10
     clear c10
     obtain rfl := Option.some.inj H
     go_wp2
     go_ret
     exact ⟨_, by first | rfl | (simp [errW_none, errW_some] <;> rfl) | (simp [*, errW_none, errW_some] <;> rfl), by (with_reducible repeat (first | apply Kd.R_alloc | apply Kd.R_drewN | apply Kd.R_drew)); exact HO_3.out, BG⟩
 ·replace c3 := Bool.eq_false_iff.mpr c3
  subst c3
  replace H := IN H
  obtain rfl := Option.some.inj H
  go_enter Try.func22, Try.ntmps22
  go_wp2_with (first | ((with_reducible refine gate_dst (N := 1) rfl ?_); refine box_event ?hg (N := 1) ?hd (cs := #[.int .i64 a0_0, .slice A0_1 l0_1.length c0_1]) (t := 29) ?hr ?_; (case hd => rfl); (case hg => rfl); (case hr => first | (go_simp; done) | (go_simp; rfl)); intro gb363 hg w22 hbox hb; have n0_ := Aside0.mk (below_step BL hb); have n1_ := Aside0.mk (hbox); have n2_ := Aside0.mk ((by rw [hg]; exact (below_size BL) : w.heap.size ≤ gb363)); have n3_ := Aside0.mk ((by rw [hg]; exact (below_size BL) : w.heap.size ≤ gb363)); clear HB; have HB := n0_; have BK363 := n1_; have GW363 := n2_; have GE363 := n3_; clear n0_ n1_ n2_ n3_; clear hb hbox hg) | ((with_reducible refine gate_dst (N := 6) rfl ?_); refine Kd.R_lit Kd.string _ 9 ?hg (N := 6) ?hd (xs := ([] : List ByteArray)) (inner := []) (ok := fun _ => True) (okp := fun _ => True) ?hr ?hp (fun _ hk => hk) trivial (Below.refl _ _) (Nat.le_refl _) (by simp) ?_; (case hd => rfl); (case hg => rfl); (case hr => first | (go_simp; done) | (go_simp; rfl)); (case hp => exact (Reps.none _ _)); intro v365 w23 ho24 hb hg_ hnew_; clear hg_ hnew_; (first | rw [← Ny364.out] at ho24 | (simp only [Int.reduceToNat] at ho24; rw [← Ny364.out] at ho24)); have n0_ := Aside0.mk (Kd.R_lower ho24 (below_size BG)); have n1_ := Aside0.mk (blk_below (BD BK363) hb); have n2_ := Aside0.mk (below_step BG hb); clear BK363; clear HB; have HO366 := n0_; have BK363 := n1_; have HB := n2_; clear n0_ n1_ n2_; clear hb ho24; obtain ⟨hcz25_0, hcz25_1, hfz25_0, hfz25_1⟩ := bk2 BK363.out) | ((with_reducible refine gate_callee (f := 12) rfl ?_); refine goesL_ (some 8) rfl rfl Try.func12 (by kernel_rfl) rfl #[.agg #[.int .i64 a0_0, .slice A0_1 l0_1.length c0_1]] rfl AQ ?_; (with_reducible refine (spec_TableOk.calls k a0_0 _ _ l0_1 false _ ?side1 ?side2 A2.out).mono ?_); (case side1 => exact SC HR0_1); (case side2 => exact HC0_1.out); rintro e w26 ⟨rfl, hb⟩; refine ⟨_, rfl, ?_⟩; have n0_ := Aside0.mk (Kd.R_below (RD HO366) hb); have n1_ := Aside0.mk (blk_below (BD BK363) hb); have n2_ := Aside0.mk (below_step BG hb); clear HO366; clear BK363; clear HB; have HO366 := n0_; have BK363 := n1_; have HB := n2_; clear n0_ n1_ n2_; (try clear hb); (try clear hb2); (try clear hk); (try clear hi)))
  go_ret
  exact ⟨_, by first | rfl | (simp [errW_none, errW_some] <;> rfl) | (simp [*, errW_none, errW_some] <;> rfl), by (with_reducible repeat (first | apply Kd.R_alloc | apply Kd.R_drewN | apply Kd.R_drew)); exact HO366.out, BG⟩
def spec_l19Put.l0 : Nat → Int → Int → List (S50) → Int → ByteArray → Option (Int × (List (S50)))
 | 0, _, _, _, _, _ => none
 | k + 1, x5, x583000, x583001, x584000, x584001 => if x5 < (x583001.length : Int) then (if 0 ≤ x5 then ((spec_l19Before.f ((rd_T50 x583001 x5).f0) ((rd_T50 x583001 x5).f1) x584000 x584001).bind fun t587 => (if t587 = true then (spec_l19Put.l0 k (wrap64 (x5 + 1)) x583000 x583001 x584000 x584001) else ((some (([] : List (S50)) : List (S50))).bind fun y588 => (if x5 ≤ (x583001.length : Int) then ((some (x583001.drop (x5 : Int).toNat : List (S50))).bind fun y591 => (if y588.length + y591.length < 5864062014805 then ((some (y588 ++ y591 : List (S50))).bind fun y595 => ((some (x583001.take (x5 : Int).toNat : List (S50))).bind fun y598 => (if y598.length < 5864062014805 then ((some (y598 ++ [(⟨x584000, x584001⟩ : S50)] : List (S50))).bind fun y601 => (if y601.length + y595.length < 5864062014805 then (some (x583000, (y601 ++ y595))) else (none))) else (none)))) else (none))) else (none))))) else (none)) else ((some (([] : List (S50)) : List (S50))).bind fun y607 => (if 0 ≤ x5 then (if x5 ≤ (x583001.length : Int) then ((some (x583001.drop (x5 : Int).toNat : List (S50))).bind fun y610 => (if y607.length + y610.length < 5864062014805 then ((some (y607 ++ y610 : List (S50))).bind fun y614 => ((some (x583001.take (x5 : Int).toNat : List (S50))).bind fun y617 => (if y617.length < 5864062014805 then ((some (y617 ++ [(⟨x584000, x584001⟩ : S50)] : List (S50))).bind fun y620 => (if y620.length + y614.length < 5864062014805 then (some (x583000, (y620 ++ y614))) else (none))) else (none)))) else (none))) else (none)) else (none)))
def spec_l19Put.f (k : Nat) (a0_0 : Int) (l0_1 : List (S50)) (a1_0 : Int) (a1_1 : ByteArray) : Option (Int × (List (S50))) := (spec_l19At.f k a0_0 l0_1 a1_0 a1_1).bind fun t585 => (if t585 ≥ 0 then (some (a0_0, l0_1)) else (spec_l19Put.l0 k 0 a0_0 l0_1 a1_0 a1_1))
theorem spec_l19Put.mono_l : ∀ k, (∀ y0 y1 y2 y3 y4, LeO (spec_l19Put.l0 k y0 y1 y2 y3 y4) (spec_l19Put.l0 (k + 1) y0 y1 y2 y3 y4))
 | 0 => fun _ _ _ _ _ r h => by simp [spec_l19Put.l0] at h
 | k + 1 => by
  have ih0 := spec_l19Put.mono_l k
  ·intro y0 y1 y2 y3 y4
   unfold spec_l19Put.l0
   repeat' first | (with_reducible first | exact ih0 _ _ _ _ _ | exact spec_l19At.mono _ _ _ _ _ | exact LeO.refl _ | exact LeO.none _ | refine LeO.ite ?_ ?_ | refine LeO.bind ?_ (fun _ => ?_)) | exact ih0 _ _ _ _ _ | exact spec_l19At.mono _ _ _ _ _ | exact LeO.none _ | refine LeO.ite ?_ ?_ | refine LeO.bind ?_ (fun _ => ?_)
theorem spec_l19Put.mono : ∀ a0 a1 a2 a3 k, LeO (spec_l19Put.f k a0 a1 a2 a3) (spec_l19Put.f (k + 1) a0 a1 a2 a3) := by
 intro a0 a1 a2 a3 k
 have ih0 := spec_l19Put.mono_l k
 unfold spec_l19Put.f
 repeat' first | (with_reducible first | exact ih0 _ _ _ _ _ | exact spec_l19At.mono _ _ _ _ _ | exact LeO.refl _ | exact LeO.none _ | refine LeO.ite ?_ ?_ | refine LeO.bind ?_ (fun _ => ?_)) | exact ih0 _ _ _ _ _ | exact spec_l19At.mono _ _ _ _ _ | exact LeO.none _ | refine LeO.ite ?_ ?_ | refine LeO.bind ?_ (fun _ => ?_)
def spec_l19Put.T4 : Bool × List (List Nat × List Nat) := (true, [([], []), ([], []), ([1], [1]), ([2], [2]), ([0, 3], [0, 3]), ([4], [4]), ([5], [5]), ([6, 5], [5, 6]), ([5], [5]), ([7, 8, 5], [5, 7, 8]), ([9, 5], [5, 9]), ([5], [5]), ([10, 11, 5, 5], [5, 10, 11]), ([5, 12], [5, 12])])
def spec_l19Put.B4 : List Nat := [0, 0, 2, 6, 15, 31, 63, 127, 63, 511, 1023, 63, 4095, 8191]
theorem spec_l19Put.tab4 : rtab .any (opsOf Try.f65 4) = spec_l19Put.T4 := by kernel_rfl
theorem spec_l19Put.bits4 : waitsOk spec_l19Put.T4.2 spec_l19Put.B4 = true := by kernel_rfl
def spec_l19Put.T7 : Bool × List (List Nat × List Nat) := (true, [([], []), ([0], [0]), ([], []), ([1, 2], [1, 2]), ([], []), ([4], [4]), ([3, 5], [3, 5]), ([], []), ([6, 7, 6], [6, 7]), ([0, 1, 2, 3, 4, 5, 6, 7, 8], []), ([9, 8, 8, 0, 1, 2, 3, 4, 5, 6, 7, 8], [8, 9])])
def spec_l19Put.B7 : List Nat := [0, 1, 0, 7, 0, 16, 63, 0, 255, 511, 1023]
theorem spec_l19Put.tab7 : rtab .any (opsOf Try.f65 7) = spec_l19Put.T7 := by kernel_rfl
theorem spec_l19Put.bits7 : waitsOk spec_l19Put.T7.2 spec_l19Put.B7 = true := by kernel_rfl
set_option maxHeartbeats 8000000 in
set_option maxRecDepth 100000 in
theorem spec_l19Put.calls (k : Nat) (a0_0 : Int) (P0_1_ : Nat → Prop) (u9000_ : Value) (l0_1 : List (S50)) (a1_0 : Int) (a1_1 : ByteArray) (r1 : Int) (r2 : List (S50)) (w0 w : World) (hB : Below w0.heap.size w0 w) (ho0_1 : Kd.R k50 50 w w0.heap.size P0_1_ u9000_ l0_1) (h : spec_l19Put.f k a0_0 l0_1 a1_0 a1_1 = some (r1, r2)) :
  Calls Try.prog 65 #[.agg #[.int .i64 a0_0, u9000_], .agg #[.int .i64 a1_0, .string a1_1]] w fun e w' => ∃ v1_ : Value, e = .returned (.agg #[.int .i64 r1, v1_]) ∧ Kd.R k50 50 w' w0.heap.size (fun k_ => (P0_1_ k_ ∨ w.heap.size ≤ k_)) v1_ r2 ∧ Below w0.heap.size w0 w' ∧ Kept w w' (fun k_ => P0_1_ k_) := by
 have hu29 := Try.underlying29
 have hu50 := Try.underlying50
 have HO0_1 := Aside0.mk (show Kd.R k50 50 w w0.heap.size (fun k_ => (P0_1_ k_ ∨ w.heap.size ≤ k_)) u9000_ l0_1 from Kd.R_mono ho0_1 (fun k_ hk => (.inl hk)))
 have HK := Aside0.mk (Kept.refl w (fun k_ => P0_1_ k_))
 have HW0 := Aside0.mk hB.size
 have HB := Aside0.mk hB
 clear hB
 have H : ((spec_l19At.f k a0_0 l0_1 a1_0 a1_1).bind fun t585 => (if t585 ≥ 0 then (some (a0_0, l0_1)) else (spec_l19Put.l0 k 0 a0_0 l0_1 a1_0 a1_1))) = some (r1, r2) := h
 clear h
 replace H := BS H
 obtain ⟨t585, A30, H⟩ := H
 have A3 := Aside0.mk A30
 clear A30
 by_cases c4 : t585 ≥ 0
 ·rw [if_pos c4] at H
  have c4b0 : decide (0 ≤ t585) = true := decide_eq_true c4
  clear c4
  simp only [Option.some.injEq, Prod.mk.injEq] at H
  obtain ⟨rfl, rfl⟩ := H
  obtain ⟨Ao5, co5, eo5⟩ := Kd.R_slice HO0_1.out
  subst eo5
  go_enter Try.func65, Try.ntmps65
  go_wp2_with (first | ((with_reducible refine gate_dst (N := 2) rfl ?_); refine box_event ?hg (N := 2) ?hd (cs := #[.int .i64 a0_0, .slice Ao5 l0_1.length co5]) (t := 29) ?hr ?_; (case hd => rfl); (case hg => rfl); (case hr => first | (go_simp; done) | (go_simp; rfl)); intro gb582 hg w6 hbox hb; have n0_ := Aside0.mk (Kd.R_below (RD HO0_1) hb); have n1_ := Aside0.mk (Kept.below (S := (fun k_ => P0_1_ k_)) (by repeat (first | (with_reducible first | exact HK.out | apply Kept.alloc | apply Kept.drewN | apply Kept.drew) | exact HK.out)) hb); have n2_ := Aside0.mk (below_step BL hb); have n3_ := Aside0.mk (hbox); have n4_ := Aside0.mk ((by rw [hg]; exact (by first | exact HK.out.1 | exact (show Kept w _ (fun k_ => P0_1_ k_) from by repeat (first | (with_reducible first | exact HK.out | apply Kept.alloc | apply Kept.drewN | apply Kept.drew) | exact HK.out)).1) : w.heap.size ≤ gb582)); have n5_ := Aside0.mk ((by rw [hg]; exact (below_size BL) : w0.heap.size ≤ gb582)); clear HO0_1; clear HK; clear HB; have HO0_1 := n0_; have HK := n1_; have HB := n2_; have BK582 := n3_; have GW582 := n4_; have GE582 := n5_; clear n0_ n1_ n2_ n3_ n4_ n5_; clear hb hbox hg) | ((with_reducible refine gate_dst (N := 3) rfl ?_); refine box_event ?hg (N := 3) ?hd (cs := #[.int .i64 a1_0, .string a1_1]) (t := 50) ?hr ?_; (case hd => rfl); (case hg => rfl); (case hr => first | (go_simp; done) | (go_simp; rfl)); intro gb583 hg w7 hbox hb; have n0_ := Aside0.mk (Kd.R_below (Kd.R_elderB (RD HO0_1) gb583 (Nat.le_of_eq hg.symm)) hb); have n1_ := Aside0.mk (blk_below (BD BK582) hb); have n2_ := Aside0.mk (Kept.below (S := (fun k_ => P0_1_ k_)) (by repeat (first | (with_reducible first | exact HK.out | apply Kept.alloc | apply Kept.drewN | apply Kept.drew | refine Kept.setCell ?_ (.inr GW582.out) _) | exact HK.out)) hb); have n3_ := Aside0.mk (below_step BG hb); have n4_ := Aside0.mk (hbox); have n5_ := Aside0.mk ((by rw [hg]; exact (by first | exact HK.out.1 | exact (show Kept w _ (fun k_ => P0_1_ k_) from by repeat (first | (with_reducible first | exact HK.out | apply Kept.alloc | apply Kept.drewN | apply Kept.drew | refine Kept.setCell ?_ (.inr GW582.out) _) | exact HK.out)).1) : w.heap.size ≤ gb583)); have n6_ := Aside0.mk ((by rw [hg]; exact (below_size BG) : w0.heap.size ≤ gb583)); have n7_ := Aside0.mk ((by rw [hg]; exact Nat.ne_of_lt (blk_lt (BD BK582)) : gb582 ≠ gb583)); have n8_ := Aside0.mk ((by rw [hg]; exact Nat.ne_of_gt (blk_lt (BD BK582)) : gb583 ≠ gb582)); clear HO0_1; clear BK582; clear HK; clear HB; have HO0_1 := n0_; have BK582 := n1_; have HK := n2_; have HB := n3_; have BK583 := n4_; have GW583 := n5_; have GE583 := n6_; have NB582_583 := n7_; have NB583_582 := n8_; clear n0_ n1_ n2_ n3_ n4_ n5_ n6_ n7_ n8_; clear hb hbox hg) | ((with_reducible refine gate_dst (N := 4) rfl ?_); refine box_event ?hg (N := 4) ?hd (cs := #[.int .i64 0, .slice none 0 0]) (t := 29) ?hr ?_; (case hd => rfl); (case hg => rfl); (case hr => first | (go_simp; done) | (go_simp; rfl)); intro gb584 hg w8 hbox hb; have n0_ := Aside0.mk (Kd.R_below (RD HO0_1) hb); have n1_ := Aside0.mk (blk_below (BD BK582) hb); have n2_ := Aside0.mk (blk_below (BD BK583) hb); have n3_ := Aside0.mk (Kept.below (S := (fun k_ => P0_1_ k_)) (by repeat (first | (with_reducible first | exact HK.out | apply Kept.alloc | apply Kept.drewN | apply Kept.drew | refine Kept.setCell ?_ (.inr GW582.out) _ | refine Kept.setCell ?_ (.inr GW583.out) _) | exact HK.out)) hb); have n4_ := Aside0.mk (below_step BG hb); have n5_ := Aside0.mk (hbox); have n6_ := Aside0.mk ((by rw [hg]; exact (by first | exact HK.out.1 | exact (show Kept w _ (fun k_ => P0_1_ k_) from by repeat (first | (with_reducible first | exact HK.out | apply Kept.alloc | apply Kept.drewN | apply Kept.drew | refine Kept.setCell ?_ (.inr GW582.out) _ | refine Kept.setCell ?_ (.inr GW583.out) _) | exact HK.out)).1) : w.heap.size ≤ gb584)); have n7_ := Aside0.mk ((by rw [hg]; exact (below_size BG) : w0.heap.size ≤ gb584)); have n8_ := Aside0.mk ((by rw [hg]; exact Nat.ne_of_lt (blk_lt (BD BK582)) : gb582 ≠ gb584)); have n9_ := Aside0.mk ((by rw [hg]; exact Nat.ne_of_gt (blk_lt (BD BK582)) : gb584 ≠ gb582)); have n10_ := Aside0.mk ((by rw [hg]; exact Nat.ne_of_lt (blk_lt (BD BK583)) : gb583 ≠ gb584)); have n11_ := Aside0.mk ((by rw [hg]; exact Nat.ne_of_gt (blk_lt (BD BK583)) : gb584 ≠ gb583)); clear HO0_1; clear BK582; clear BK583; clear HK; clear HB; have HO0_1 := n0_; have BK582 := n1_; have BK583 := n2_; have HK := n3_; have HB := n4_; have BK584 := n5_; have GW584 := n6_; have GE584 := n7_; have NB582_584 := n8_; have NB584_582 := n9_; have NB583_584 := n10_; have NB584_583 := n11_; clear n0_ n1_ n2_ n3_ n4_ n5_ n6_ n7_ n8_ n9_ n10_ n11_; clear hb hbox hg; have hnb9 := NB582_583.out; have hnc9 := NB583_582.out; have hnb10 := NB582_584.out; have hnc10 := NB584_582.out; obtain ⟨hcz11_0, hcz11_1, hfz11_0, hfz11_1⟩ := bk2 BK582.out; have hnb12 := NB583_584.out; have hnc12 := NB584_583.out; obtain ⟨hcz13_0, hcz13_1, hfz13_0, hfz13_1⟩ := bk2 BK583.out) | ((with_reducible refine gate_callee (f := 37) rfl ?_); refine goesL_ (some 9) rfl rfl Try.func37 (by kernel_rfl) rfl #[.agg #[.int .i64 a0_0, .slice Ao5 l0_1.length co5], .agg #[.int .i64 a1_0, .string a1_1]] rfl AQ ?_; (with_reducible refine (spec_l19At.calls k a0_0 _ _ l0_1 a1_0 a1_1 t585 _ ?side1 ?side2 A3.out).mono ?_); (case side1 => exact SR HO0_1); (case side2 => exact (Kd.R_reads' HO0_1.out).2.1); rintro e w14 ⟨rfl, hb⟩; refine ⟨_, rfl, ?_⟩; have n0_ := Aside0.mk (Kd.R_below (RD HO0_1) hb); have n1_ := Aside0.mk (blk_below (BD BK582) hb); have n2_ := Aside0.mk (blk_below (BD BK583) hb); have n3_ := Aside0.mk (blk_below (BD BK584) hb); have n4_ := Aside0.mk (Kept.below (S := (fun k_ => P0_1_ k_)) (by repeat (first | (with_reducible first | exact HK.out | apply Kept.alloc | apply Kept.drewN | apply Kept.drew | refine Kept.setCell ?_ (.inr GW582.out) _ | refine Kept.setCell ?_ (.inr GW583.out) _ | refine Kept.setCell ?_ (.inr GW584.out) _) | exact HK.out)) hb); have n5_ := Aside0.mk (below_step BG hb); clear HO0_1; clear BK582; clear BK583; clear BK584; clear HK; clear HB; have HO0_1 := n0_; have BK582 := n1_; have BK583 := n2_; have BK584 := n3_; have HK := n4_; have HB := n5_; clear n0_ n1_ n2_ n3_ n4_ n5_; (try clear hb); (try clear hb2); (try clear hk); (try clear hi); obtain ⟨hcz15_0, hcz15_1, hfz15_0, hfz15_1⟩ := bk2 BK582.out; obtain ⟨hcz16_0, hcz16_1, hfz16_0, hfz16_1⟩ := bk2 BK584.out))
  refine bodyPost_ret (results_cell_row rfl _ _ gb584 29 #[.int .i64 a0_0, .slice Ao5 l0_1.length co5] (0, 0) _ rfl (by (with_reducible repeat (first | refine blk_drewN ?_ _ | refine blk_drew ?_ | refine blk_alloc ?_ _)); refine blk_put (cs := #[.int .i64 a0_0, .slice none 0 0]) ?_ 1 _ rfl; (with_reducible repeat (first | refine blk_drewN ?_ _ | refine blk_drew ?_ | refine blk_alloc ?_ _)); refine blk_put (cs := #[.int .i64 0, .slice none 0 0]) ?_ 0 _ rfl; (with_reducible repeat (first | refine blk_drewN ?_ _ | refine blk_drew ?_ | refine blk_alloc ?_ _)); exact BK584.out) Try.underlying29 rfl (by kernel_rfl)) rfl ?_
  exact ⟨_, by first | rfl | (simp [errW_none, errW_some] <;> rfl) | (simp [*, errW_none, errW_some] <;> rfl), by (with_reducible repeat (first | apply Kd.R_alloc | apply Kd.R_drewN | apply Kd.R_drew)); exact Kd.R_mono (FR (FR (Kd.R_types HO0_1.out BK584.out (by decide)))) (fun _ hk => hk.1.1), by repeat (first | (with_reducible first | exact HB.out | apply below_alloc | apply pw_below_drewN | apply below_drew1 | refine below_set ?_ GE582.out | refine below_set ?_ GE583.out | refine below_set ?_ GE584.out) | exact HB.out), by repeat (first | (with_reducible first | exact HK.out | apply Kept.alloc | apply Kept.drewN | apply Kept.drew | refine Kept.setCell ?_ (.inr GW582.out) _ | refine Kept.setCell ?_ (.inr GW583.out) _ | refine Kept.setCell ?_ (.inr GW584.out) _) | exact HK.out)⟩
 ·rw [if_neg c4] at H
  have c4b0 : decide (0 ≤ t585) = false := decide_eq_false c4
  clear c4
  have H' := Aside0.mk H
  clear H
  obtain ⟨Ao17, co17, eo17⟩ := Kd.R_slice HO0_1.out
  subst eo17
  go_enter Try.func65, Try.ntmps65
  go_wp2_with (first | ((with_reducible refine gate_dst (N := 2) rfl ?_); refine box_event ?hg (N := 2) ?hd (cs := #[.int .i64 a0_0, .slice Ao17 l0_1.length co17]) (t := 29) ?hr ?_; (case hd => rfl); (case hg => rfl); (case hr => first | (go_simp; done) | (go_simp; rfl)); intro gb582 hg w18 hbox hb; have n0_ := Aside0.mk (Kd.R_below (RD HO0_1) hb); have n1_ := Aside0.mk (Kept.below (S := (fun k_ => P0_1_ k_)) (by repeat (first | (with_reducible first | exact HK.out | apply Kept.alloc | apply Kept.drewN | apply Kept.drew) | exact HK.out)) hb); have n2_ := Aside0.mk (below_step BL hb); have n3_ := Aside0.mk (hbox); have n4_ := Aside0.mk ((by rw [hg]; exact (by first | exact HK.out.1 | exact (show Kept w _ (fun k_ => P0_1_ k_) from by repeat (first | (with_reducible first | exact HK.out | apply Kept.alloc | apply Kept.drewN | apply Kept.drew) | exact HK.out)).1) : w.heap.size ≤ gb582)); have n5_ := Aside0.mk ((by rw [hg]; exact (below_size BL) : w0.heap.size ≤ gb582)); clear HO0_1; clear HK; clear HB; have HO0_1 := n0_; have HK := n1_; have HB := n2_; have BK582 := n3_; have GW582 := n4_; have GE582 := n5_; clear n0_ n1_ n2_ n3_ n4_ n5_; clear hb hbox hg) | ((with_reducible refine gate_dst (N := 3) rfl ?_); refine box_event ?hg (N := 3) ?hd (cs := #[.int .i64 a1_0, .string a1_1]) (t := 50) ?hr ?_; (case hd => rfl); (case hg => rfl); (case hr => first | (go_simp; done) | (go_simp; rfl)); intro gb583 hg w19 hbox hb; have n0_ := Aside0.mk (Kd.R_below (Kd.R_elderB (RD HO0_1) gb583 (Nat.le_of_eq hg.symm)) hb); have n1_ := Aside0.mk (blk_below (BD BK582) hb); have n2_ := Aside0.mk (Kept.below (S := (fun k_ => P0_1_ k_)) (by repeat (first | (with_reducible first | exact HK.out | apply Kept.alloc | apply Kept.drewN | apply Kept.drew | refine Kept.setCell ?_ (.inr GW582.out) _) | exact HK.out)) hb); have n3_ := Aside0.mk (below_step BG hb); have n4_ := Aside0.mk (hbox); have n5_ := Aside0.mk ((by rw [hg]; exact (by first | exact HK.out.1 | exact (show Kept w _ (fun k_ => P0_1_ k_) from by repeat (first | (with_reducible first | exact HK.out | apply Kept.alloc | apply Kept.drewN | apply Kept.drew | refine Kept.setCell ?_ (.inr GW582.out) _) | exact HK.out)).1) : w.heap.size ≤ gb583)); have n6_ := Aside0.mk ((by rw [hg]; exact (below_size BG) : w0.heap.size ≤ gb583)); have n7_ := Aside0.mk ((by rw [hg]; exact Nat.ne_of_lt (blk_lt (BD BK582)) : gb582 ≠ gb583)); have n8_ := Aside0.mk ((by rw [hg]; exact Nat.ne_of_gt (blk_lt (BD BK582)) : gb583 ≠ gb582)); clear HO0_1; clear BK582; clear HK; clear HB; have HO0_1 := n0_; have BK582 := n1_; have HK := n2_; have HB := n3_; have BK583 := n4_; have GW583 := n5_; have GE583 := n6_; have NB582_583 := n7_; have NB583_582 := n8_; clear n0_ n1_ n2_ n3_ n4_ n5_ n6_ n7_ n8_; clear hb hbox hg) | ((with_reducible refine gate_dst (N := 4) rfl ?_); refine box_event ?hg (N := 4) ?hd (cs := #[.int .i64 0, .slice none 0 0]) (t := 29) ?hr ?_; (case hd => rfl); (case hg => rfl); (case hr => first | (go_simp; done) | (go_simp; rfl)); intro gb584 hg w20 hbox hb; have n0_ := Aside0.mk (Kd.R_below (RD HO0_1) hb); have n1_ := Aside0.mk (blk_below (BD BK582) hb); have n2_ := Aside0.mk (blk_below (BD BK583) hb); have n3_ := Aside0.mk (Kept.below (S := (fun k_ => P0_1_ k_)) (by repeat (first | (with_reducible first | exact HK.out | apply Kept.alloc | apply Kept.drewN | apply Kept.drew | refine Kept.setCell ?_ (.inr GW582.out) _ | refine Kept.setCell ?_ (.inr GW583.out) _) | exact HK.out)) hb); have n4_ := Aside0.mk (below_step BG hb); have n5_ := Aside0.mk (hbox); have n6_ := Aside0.mk ((by rw [hg]; exact (by first | exact HK.out.1 | exact (show Kept w _ (fun k_ => P0_1_ k_) from by repeat (first | (with_reducible first | exact HK.out | apply Kept.alloc | apply Kept.drewN | apply Kept.drew | refine Kept.setCell ?_ (.inr GW582.out) _ | refine Kept.setCell ?_ (.inr GW583.out) _) | exact HK.out)).1) : w.heap.size ≤ gb584)); have n7_ := Aside0.mk ((by rw [hg]; exact (below_size BG) : w0.heap.size ≤ gb584)); have n8_ := Aside0.mk ((by rw [hg]; exact Nat.ne_of_lt (blk_lt (BD BK582)) : gb582 ≠ gb584)); have n9_ := Aside0.mk ((by rw [hg]; exact Nat.ne_of_gt (blk_lt (BD BK582)) : gb584 ≠ gb582)); have n10_ := Aside0.mk ((by rw [hg]; exact Nat.ne_of_lt (blk_lt (BD BK583)) : gb583 ≠ gb584)); have n11_ := Aside0.mk ((by rw [hg]; exact Nat.ne_of_gt (blk_lt (BD BK583)) : gb584 ≠ gb583)); clear HO0_1; clear BK582; clear BK583; clear HK; clear HB; have HO0_1 := n0_; have BK582 := n1_; have BK583 := n2_; have HK := n3_; have HB := n4_; have BK584 := n5_; have GW584 := n6_; have GE584 := n7_; have NB582_584 := n8_; have NB584_582 := n9_; have NB583_584 := n10_; have NB584_583 := n11_; clear n0_ n1_ n2_ n3_ n4_ n5_ n6_ n7_ n8_ n9_ n10_ n11_; clear hb hbox hg; have hnb21 := NB582_583.out; have hnc21 := NB583_582.out; have hnb22 := NB582_584.out; have hnc22 := NB584_582.out; obtain ⟨hcz23_0, hcz23_1, hfz23_0, hfz23_1⟩ := bk2 BK582.out; have hnb24 := NB583_584.out; have hnc24 := NB584_583.out; obtain ⟨hcz25_0, hcz25_1, hfz25_0, hfz25_1⟩ := bk2 BK583.out) | ((with_reducible refine gate_callee (f := 37) rfl ?_); refine goesL_ (some 9) rfl rfl Try.func37 (by kernel_rfl) rfl #[.agg #[.int .i64 a0_0, .slice Ao17 l0_1.length co17], .agg #[.int .i64 a1_0, .string a1_1]] rfl AQ ?_; (with_reducible refine (spec_l19At.calls k a0_0 _ _ l0_1 a1_0 a1_1 t585 _ ?side1 ?side2 A3.out).mono ?_); (case side1 => exact SR HO0_1); (case side2 => exact (Kd.R_reads' HO0_1.out).2.1); rintro e w26 ⟨rfl, hb⟩; refine ⟨_, rfl, ?_⟩; have n0_ := Aside0.mk (Kd.R_below (RD HO0_1) hb); have n1_ := Aside0.mk (blk_below (BD BK582) hb); have n2_ := Aside0.mk (blk_below (BD BK583) hb); have n3_ := Aside0.mk (blk_below (BD BK584) hb); have n4_ := Aside0.mk (Kept.below (S := (fun k_ => P0_1_ k_)) (by repeat (first | (with_reducible first | exact HK.out | apply Kept.alloc | apply Kept.drewN | apply Kept.drew | refine Kept.setCell ?_ (.inr GW582.out) _ | refine Kept.setCell ?_ (.inr GW583.out) _ | refine Kept.setCell ?_ (.inr GW584.out) _) | exact HK.out)) hb); have n5_ := Aside0.mk (below_step BG hb); clear HO0_1; clear BK582; clear BK583; clear BK584; clear HK; clear HB; have HO0_1 := n0_; have BK582 := n1_; have BK583 := n2_; have BK584 := n3_; have HK := n4_; have HB := n5_; clear n0_ n1_ n2_ n3_ n4_ n5_; (try clear hb); (try clear hb2); (try clear hk); (try clear hi)))
  go_loopg [5] k (fun kq v5 w' => ∃ (x5_1 : Int), v5 = .int .i64 x5_1 ∧ Aside0 (spec_l19Put.l0 kq x5_1 a0_0 l0_1 a1_0 a1_1 = some (r1, r2)) ∧ Aside0 (kq ≤ k) ∧ Aside0 (Kd.R k50 50 w' w0.heap.size (fun k_ => (P0_1_ k_ ∨ w.heap.size ≤ k_) ∧ k_ ≠ gb583) (.slice Ao17 l0_1.length co17) l0_1) ∧ Aside0 (w'.heap[gb582]? = some (.cells #[.int .i64 a0_0, (.slice Ao17 l0_1.length co17)] 29 (0, 0))) ∧ Aside0 (w'.heap[gb583]? = some (.cells #[.int .i64 a1_0, .string a1_1] 50 (0, 0))) ∧ Aside0 (w'.heap[gb584]? = some (.cells #[.int .i64 0, (.slice none 0 0)] 29 (0, 0))) ∧ Aside0 (Kept w w' (fun k_ => P0_1_ k_)) ∧ Aside0 (Below w0.heap.size w0 w'))
  case atStart => exact ⟨(0), RS, H', ⟨Nat.le_refl _⟩, ⟨by (with_reducible repeat (first | apply Kd.R_alloc | apply Kd.R_drewN | apply Kd.R_drew)); exact HO0_1.out⟩, ⟨by (with_reducible repeat (first | refine blk_drewN ?_ _ | refine blk_drew ?_ | refine blk_alloc ?_ _)); exact BK582.out⟩, ⟨by (with_reducible repeat (first | refine blk_drewN ?_ _ | refine blk_drew ?_ | refine blk_alloc ?_ _)); exact BK583.out⟩, ⟨by (with_reducible repeat (first | refine blk_drewN ?_ _ | refine blk_drew ?_ | refine blk_alloc ?_ _)); exact BK584.out⟩, ⟨by repeat (first | (with_reducible first | exact HK.out | apply Kept.alloc | apply Kept.drewN | apply Kept.drew | refine Kept.setCell ?_ (.inr GW582.out) _ | refine Kept.setCell ?_ (.inr GW583.out) _ | refine Kept.setCell ?_ (.inr GW584.out) _) | exact HK.out)⟩, ⟨by repeat (first | (with_reducible first | exact HB.out | apply below_alloc | apply pw_below_drewN | apply below_drew1 | refine below_set ?_ GE582.out | refine below_set ?_ GE583.out | refine below_set ?_ GE584.out) | exact HB.out)⟩⟩
  case round =>
   clear H'
   try clear c1
   try clear c2
   try clear p2
   try clear c3
   try clear c4
   try clear c4b0
   try clear c6
   try clear c9
   try clear c10
   try clear c12
   try clear c21
   try clear c22
   try clear c24
   try clear hcz11_0
   try clear hcz11_1
   try clear hcz13_0
   try clear hcz13_1
   try clear hcz15_0
   try clear hcz15_1
   try clear hcz16_0
   try clear hcz16_1
   try clear hcz23_0
   try clear hcz23_1
   try clear hcz25_0
   try clear hcz25_1
   try clear hfz11_0
   try clear hfz11_1
   try clear hfz13_0
   try clear hfz13_1
   try clear hfz15_0
   try clear hfz15_1
   try clear hfz16_0
   try clear hfz16_1
   try clear hfz23_0
   try clear hfz23_1
   try clear hfz25_0
   try clear hfz25_1
   obtain ⟨x5_1, rfl, HA, HK1, HO_583001, BK582, BK583, BK584, HK, HB⟩ := hrel
   cases gk with
   | zero => exact absurd HA.out (by simp [spec_l19Put.l0])
   | succ k1 =>
    have H := HA.out
    clear HA
    simp only [spec_l19Put.l0] at H
    by_cases c27 : x5_1 < (l0_1.length : Int)
    ·rw [if_pos c27] at H
     have c27b0 : decide (x5_1 < (l0_1.length : Int)) = true := decide_eq_true c27
     clear c27
     by_cases c28 : 0 ≤ x5_1
     ·rw [if_pos c28] at H
      have c28b0 : decide (0 ≤ x5_1) = true := decide_eq_true c28
      clear c28
      replace H := BS H
      obtain ⟨t587, A290, H⟩ := H
      have A29 := Aside0.mk A290
      clear A290
      by_cases c30 : t587 = true
      ·subst c30
       replace H := IP H
       have H' := Aside0.mk H
       clear H
       try go_wp2
       have n0_ := Aside0.mk (Kd.R_drew HO_583001.out)
       have n1_ := Aside0.mk (blk_drew BK582.out)
       have n2_ := Aside0.mk (blk_drew BK583.out)
       have n3_ := Aside0.mk (blk_drew BK584.out)
       have n4_ := Aside0.mk (Kept.drew HK.out)
       have n5_ := Aside0.mk (below_drew1 HB.out)
       clear HO_583001
       clear BK582
       clear BK583
       clear BK584
       clear HK
       clear HB
       have HO_583001 := n0_
       have BK582 := n1_
       have BK583 := n2_
       have BK584 := n3_
       have HK := n4_
       have HB := n5_
       clear n0_ n1_ n2_ n3_ n4_ n5_
       have p586 : 0 ≤ (x5_1 : Int) := of_decide_eq_true AS
       have q586 : x5_1 < (l0_1.length : Int) := of_decide_eq_true AS
       obtain ⟨ad586, e586, hx586_0, hx586_1⟩ := at_T50 (Kd.R_reads' HO_583001.out).2.2 x5_1 p586 q586
       cases e586
       replace p586 := eq_true p586
       replace q586 := eq_true q586
       refine start_ (n := 14) (S := fun w' => w'.cell? ⟨gb582, 0, none⟩ = some (.int .i64 a0_0) ∧ w'.cell? ⟨gb582, 1, none⟩ = some (.slice (some ad586) l0_1.length co17) ∧ w'.cell? ⟨gb583, 0, none⟩ = some (.int .i64 a1_0) ∧ w'.cell? ⟨gb583, 1, none⟩ = some (.string a1_1) ∧ w'.cell? (ad586.add ((x5_1).toNat * 2)) = some (.int .i64 ((rd_T50 l0_1 x5_1).f0)) ∧ w'.cell? ⟨(ad586.add ((x5_1).toNat * 2)).block, (ad586.add ((x5_1).toNat * 2)).off + 1, none⟩ = some (.string ((rd_T50 l0_1 x5_1).f1))) (ds := []) #[false, false, false, false, false, false, false, false, false, false, false, false, false, false] (by kernel_rfl) rfl rfl ⟨(blk_cell BK582.out 0).trans rfl, (blk_cell BK582.out 1).trans rfl, (blk_cell BK583.out 0).trans rfl, (blk_cell BK583.out 1).trans rfl, hx586_0, hx586_1⟩ (fun hHeld => ?_); refine with_tabW spec_l19Put.tab4 spec_l19Put.bits4 (fun HT_ HW_ => ?_)
       generalize wr.drew = w31 at HO_583001 BK582 BK583 BK584 HK HB hx586_0 hx586_1 hHeld ⊢
       refine PU (i := 0) (N := some 12) (tf 1 13) rfl rfl HT_ ?_
       refine PU (i := 1) (N := some 13) (tf 2 12) rfl rfl HT_ ?_
       refine PT (i := 2) (N := some 14) (tf 3 11) rfl rfl HT_ HW_ hHeld ?_
       refine PU (i := 3) (N := some 15) (tf 4 10) rfl rfl HT_ ?_
       refine PU (i := 4) (N := some 16) (tf 5 9) rfl rfl HT_ ?_
       refine PU (i := 5) (N := some 17) (tf 6 8) rfl rfl HT_ ?_
       refine PU (i := 6) (N := some 18) (tf 7 7) rfl rfl HT_ ?_
       refine PU (i := 8) (N := some 20) #[true, true, true, true, true, true, true, false, true, false, false, false, false, false] rfl rfl HT_ ?_
       refine PT (i := 7) (N := some 19) (tf 9 5) rfl rfl HT_ HW_ hHeld ?_
       refine PU (i := 9) (N := some 21) (tf 10 4) rfl rfl HT_ ?_
       refine PT (i := 10) (N := some 22) (tf 11 3) rfl rfl HT_ HW_ hHeld ?_
       refine PT (i := 11) (N := some 23) (tf 12 2) rfl rfl HT_ HW_ hHeld ?_
       refine one_ (i := 12) (N := some 24) (tf 13 1) rfl rfl (one_of HT_.out (by kernel_rfl)) (by decide) (fun K hK => ?_)
       refine goes_ Try.func39 (by kernel_rfl) rfl #[.agg #[.int .i64 ((rd_T50 l0_1 x5_1).f0), .string ((rd_T50 l0_1 x5_1).f1)], .agg #[.int .i64 a1_0, .string a1_1]] (by rfl) rfl rfl AQ ?_
       with_reducible refine (spec_l19Before.calls ((rd_T50 l0_1 x5_1).f0) ((rd_T50 l0_1 x5_1).f1) a1_0 a1_1 true _ A29.out).mono ?_
       rintro e w32 ⟨rfl, hb⟩
       have HS4_ := (hb.cell (World.block_lt_of_cell? _ _ (hHeld.2.2.2.2.1))).trans (hHeld.2.2.2.2.1)
       have HS5_ := (hb.cell (World.block_lt_of_cell? _ _ (hHeld.2.2.2.2.2))).trans (hHeld.2.2.2.2.2)
       refine ⟨_, rfl, ?_⟩
       have n0_ := Aside0.mk (Kd.R_below (RD HO_583001) hb)
       have n1_ := Aside0.mk (blk_below (BD BK582) hb)
       have n2_ := Aside0.mk (blk_below (BD BK583) hb)
       have n3_ := Aside0.mk (blk_below (BD BK584) hb)
       have n4_ := Aside0.mk (Kept.below (S := (fun k_ => P0_1_ k_)) (by repeat (first | (with_reducible first | exact HK.out | apply Kept.alloc | apply Kept.drewN | apply Kept.drew | refine Kept.setCell ?_ (.inr GW582.out) _ | refine Kept.setCell ?_ (.inr GW583.out) _ | refine Kept.setCell ?_ (.inr GW584.out) _) | exact HK.out)) hb)
       have n5_ := Aside0.mk (below_step BG hb)
       clear HO_583001
       clear BK582
       clear BK583
       clear BK584
       clear HK
       clear HB
       have HO_583001 := n0_
       have BK582 := n1_
       have BK583 := n2_
       have BK584 := n3_
       have HK := n4_
       have HB := n5_
       clear n0_ n1_ n2_ n3_ n4_ n5_
       (try clear hb)
       (try clear hb2)
       (try clear hk)
       (try clear hi)
       refine hK.out _ _ ⟨(blk_cell BK582.out 0).trans rfl, (blk_cell BK582.out 1).trans rfl, (blk_cell BK583.out 0).trans rfl, (blk_cell BK583.out 1).trans rfl, HS4_, HS5_⟩ (fun hHeld => ?_)
       clear hK K
       refine NM (some 24) ?_
       refine PU (i := 13) (N := some 25) (tf 14 0) rfl rfl HT_ ?_
       refine done_ (done_of HT_.out (by kernel_rfl)) ?_
       try go_wp2
       go_roundg k1
       case measure => have := HK1.out; omega
       case rel => exact ⟨(wrap64 (x5_1 + 1)), RS, H', ⟨by have := HK1.out; omega⟩, ⟨by (with_reducible repeat (first | apply Kd.R_alloc | apply Kd.R_drewN | apply Kd.R_drew)); exact HO_583001.out⟩, ⟨by (with_reducible repeat (first | refine blk_drewN ?_ _ | refine blk_drew ?_ | refine blk_alloc ?_ _)); exact BK582.out⟩, ⟨by (with_reducible repeat (first | refine blk_drewN ?_ _ | refine blk_drew ?_ | refine blk_alloc ?_ _)); exact BK583.out⟩, ⟨by (with_reducible repeat (first | refine blk_drewN ?_ _ | refine blk_drew ?_ | refine blk_alloc ?_ _)); exact BK584.out⟩, ⟨by repeat (first | (with_reducible first | exact HK.out | apply Kept.alloc | apply Kept.drewN | apply Kept.drew | refine Kept.setCell ?_ (.inr GW582.out) _ | refine Kept.setCell ?_ (.inr GW583.out) _ | refine Kept.setCell ?_ (.inr GW584.out) _) | exact HK.out)⟩, ⟨by repeat (first | (with_reducible first | exact HB.out | apply below_alloc | apply pw_below_drewN | apply below_drew1 | refine below_set ?_ GE582.out | refine below_set ?_ GE583.out | refine below_set ?_ GE584.out) | exact HB.out)⟩⟩
      ·replace c30 := Bool.eq_false_iff.mpr c30
       subst c30
       replace H := IN H
       obtain ⟨y588, hy588⟩ : ∃ y_ : List (S50), y_ = (([] : List (S50))) := ⟨_, rfl⟩
       replace H : (if x5_1 ≤ (l0_1.length : Int) then ((some (l0_1.drop (x5_1 : Int).toNat : List (S50))).bind fun y591 => (if y588.length + y591.length < 5864062014805 then ((some (y588 ++ y591 : List (S50))).bind fun y595 => ((some (l0_1.take (x5_1 : Int).toNat : List (S50))).bind fun y598 => (if y598.length < 5864062014805 then ((some (y598 ++ [(⟨a1_0, a1_1⟩ : S50)] : List (S50))).bind fun y601 => (if y601.length + y595.length < 5864062014805 then (some (a0_0, (y601 ++ y595))) else (none))) else (none)))) else (none))) else (none)) = some (r1, r2) := by first | (rw [hy588]; with_reducible exact H) | (have H2_ := (Option.bind_some _ _).symm.trans H; rw [hy588]; with_reducible exact H2_) | (have H2_ := (Option.bind_some _ _).symm.trans H; with_reducible exact H2_) | with_reducible exact H | (rw [hy588]; exact H) | exact H
       have Ny588 := Aside0.mk hy588
       clear hy588
       have c33b0 := eq_true (of_decide_eq_true AS : 0 ≤ x5_1)
       by_cases c34 : x5_1 ≤ (l0_1.length : Int)
       ·rw [if_pos c34] at H
        have c34b0 := eq_true c34
        have c34b1 : decide (x5_1 ≤ (l0_1.length : Int)) = true := decide_eq_true c34
        clear c34
        obtain ⟨y591, hy591⟩ : ∃ y_ : List (S50), y_ = (l0_1.drop (x5_1 : Int).toNat) := ⟨_, rfl⟩
        replace H : (if y588.length + y591.length < 5864062014805 then ((some (y588 ++ y591 : List (S50))).bind fun y595 => ((some (l0_1.take (x5_1 : Int).toNat : List (S50))).bind fun y598 => (if y598.length < 5864062014805 then ((some (y598 ++ [(⟨a1_0, a1_1⟩ : S50)] : List (S50))).bind fun y601 => (if y601.length + y595.length < 5864062014805 then (some (a0_0, (y601 ++ y595))) else (none))) else (none)))) else (none)) = some (r1, r2) := by first | (rw [hy591]; with_reducible exact H) | (have H2_ := (Option.bind_some _ _).symm.trans H; rw [hy591]; with_reducible exact H2_) | (have H2_ := (Option.bind_some _ _).symm.trans H; with_reducible exact H2_) | with_reducible exact H | (rw [hy591]; exact H) | exact H
        have Ny591 := Aside0.mk hy591
        clear hy591
        by_cases c35 : y588.length + y591.length < 5864062014805
        ·rw [if_pos c35] at H
         have LMc35 := Aside0.mk c35
         clear c35
         obtain ⟨y595, hy595⟩ : ∃ y_ : List (S50), y_ = (y588 ++ y591) := ⟨_, rfl⟩
         replace H : ((some (l0_1.take (x5_1 : Int).toNat : List (S50))).bind fun y598 => (if y598.length < 5864062014805 then ((some (y598 ++ [(⟨a1_0, a1_1⟩ : S50)] : List (S50))).bind fun y601 => (if y601.length + y595.length < 5864062014805 then (some (a0_0, (y601 ++ y595))) else (none))) else (none))) = some (r1, r2) := by first | (rw [hy595]; with_reducible exact H) | (have H2_ := (Option.bind_some _ _).symm.trans H; rw [hy595]; with_reducible exact H2_) | (have H2_ := (Option.bind_some _ _).symm.trans H; with_reducible exact H2_) | with_reducible exact H | (rw [hy595]; exact H) | exact H
         have Ny595 := Aside0.mk hy595
         clear hy595
         have c36b0 := eq_true (of_decide_eq_true AS : x5_1 ≤ (l0_1.length : Int))
         obtain ⟨y598, hy598⟩ : ∃ y_ : List (S50), y_ = (l0_1.take (x5_1 : Int).toNat) := ⟨_, rfl⟩
         replace H : (if y598.length < 5864062014805 then ((some (y598 ++ [(⟨a1_0, a1_1⟩ : S50)] : List (S50))).bind fun y601 => (if y601.length + y595.length < 5864062014805 then (some (a0_0, (y601 ++ y595))) else (none))) else (none)) = some (r1, r2) := by first | (rw [hy598]; with_reducible exact H) | (have H2_ := (Option.bind_some _ _).symm.trans H; rw [hy598]; with_reducible exact H2_) | (have H2_ := (Option.bind_some _ _).symm.trans H; with_reducible exact H2_) | with_reducible exact H | (rw [hy598]; exact H) | exact H
         have Ny598 := Aside0.mk hy598
         clear hy598
         by_cases c37 : y598.length < 5864062014805
         ·rw [if_pos c37] at H
          have LMc37 := Aside0.mk c37
          clear c37
          obtain ⟨y601, hy601⟩ : ∃ y_ : List (S50), y_ = (y598 ++ [(⟨a1_0, a1_1⟩ : S50)]) := ⟨_, rfl⟩
          replace H : (if y601.length + y595.length < 5864062014805 then (some (a0_0, (y601 ++ y595))) else (none)) = some (r1, r2) := by first | (rw [hy601]; with_reducible exact H) | (have H2_ := (Option.bind_some _ _).symm.trans H; rw [hy601]; with_reducible exact H2_) | (have H2_ := (Option.bind_some _ _).symm.trans H; with_reducible exact H2_) | with_reducible exact H | (rw [hy601]; exact H) | exact H
          have Ny601 := Aside0.mk hy601
          clear hy601
          by_cases c38 : y601.length + y595.length < 5864062014805
          ·rw [if_pos c38] at H
           have LMc38 := Aside0.mk c38
           clear c38
           obtain ⟨y604, hy604⟩ : ∃ y_ : List (S50), y_ = (y601 ++ y595) := ⟨_, rfl⟩
           replace H : (some (a0_0, y604)) = some (r1, r2) := by first | (rw [hy604]; with_reducible exact H) | (have H2_ := (Option.bind_some _ _).symm.trans H; rw [hy604]; with_reducible exact H2_) | (have H2_ := (Option.bind_some _ _).symm.trans H; with_reducible exact H2_) | with_reducible exact H | (rw [hy604]; exact H) | exact H
           have Ny604 := Aside0.mk hy604
           clear hy604
           simp only [Option.some.injEq, Prod.mk.injEq] at H
           obtain ⟨rfl, rfl⟩ := H
           try go_wp2
           have n0_ := Aside0.mk (Kd.R_drew HO_583001.out)
           have n1_ := Aside0.mk (blk_drew BK582.out)
           have n2_ := Aside0.mk (blk_drew BK583.out)
           have n3_ := Aside0.mk (blk_drew BK584.out)
           have n4_ := Aside0.mk (Kept.drew HK.out)
           have n5_ := Aside0.mk (below_drew1 HB.out)
           clear HO_583001
           clear BK582
           clear BK583
           clear BK584
           clear HK
           clear HB
           have HO_583001 := n0_
           have BK582 := n1_
           have BK583 := n2_
           have BK584 := n3_
           have HK := n4_
           have HB := n5_
           clear n0_ n1_ n2_ n3_ n4_ n5_
           have p586 : 0 ≤ (x5_1 : Int) := of_decide_eq_true AS
           have q586 : x5_1 < (l0_1.length : Int) := of_decide_eq_true AS
           obtain ⟨ad586, e586, hx586_0, hx586_1⟩ := at_T50 (Kd.R_reads' HO_583001.out).2.2 x5_1 p586 q586
           cases e586
           replace p586 := eq_true p586
           replace q586 := eq_true q586
           refine start_ (n := 14) (S := fun w' => w'.cell? ⟨gb582, 0, none⟩ = some (.int .i64 a0_0) ∧ w'.cell? ⟨gb582, 1, none⟩ = some (.slice (some ad586) l0_1.length co17) ∧ w'.cell? ⟨gb583, 0, none⟩ = some (.int .i64 a1_0) ∧ w'.cell? ⟨gb583, 1, none⟩ = some (.string a1_1) ∧ w'.cell? (ad586.add ((x5_1).toNat * 2)) = some (.int .i64 ((rd_T50 l0_1 x5_1).f0)) ∧ w'.cell? ⟨(ad586.add ((x5_1).toNat * 2)).block, (ad586.add ((x5_1).toNat * 2)).off + 1, none⟩ = some (.string ((rd_T50 l0_1 x5_1).f1))) (ds := []) #[false, false, false, false, false, false, false, false, false, false, false, false, false, false] (by kernel_rfl) rfl rfl ⟨(blk_cell BK582.out 0).trans rfl, (blk_cell BK582.out 1).trans rfl, (blk_cell BK583.out 0).trans rfl, (blk_cell BK583.out 1).trans rfl, hx586_0, hx586_1⟩ (fun hHeld => ?_); refine with_tabW spec_l19Put.tab4 spec_l19Put.bits4 (fun HT_ HW_ => ?_)
           generalize wr.drew = w39 at HO_583001 BK582 BK583 BK584 HK HB hx586_0 hx586_1 hHeld ⊢
           refine PU (i := 0) (N := some 12) (tf 1 13) rfl rfl HT_ ?_
           refine PU (i := 1) (N := some 13) (tf 2 12) rfl rfl HT_ ?_
           refine PT (i := 2) (N := some 14) (tf 3 11) rfl rfl HT_ HW_ hHeld ?_
           refine PU (i := 3) (N := some 15) (tf 4 10) rfl rfl HT_ ?_
           refine PU (i := 4) (N := some 16) (tf 5 9) rfl rfl HT_ ?_
           refine PU (i := 5) (N := some 17) (tf 6 8) rfl rfl HT_ ?_
           refine PU (i := 6) (N := some 18) (tf 7 7) rfl rfl HT_ ?_
           refine PU (i := 8) (N := some 20) #[true, true, true, true, true, true, true, false, true, false, false, false, false, false] rfl rfl HT_ ?_
           refine PT (i := 7) (N := some 19) (tf 9 5) rfl rfl HT_ HW_ hHeld ?_
           refine PU (i := 9) (N := some 21) (tf 10 4) rfl rfl HT_ ?_
           refine PT (i := 10) (N := some 22) (tf 11 3) rfl rfl HT_ HW_ hHeld ?_
           refine PT (i := 11) (N := some 23) (tf 12 2) rfl rfl HT_ HW_ hHeld ?_
           refine one_ (i := 12) (N := some 24) (tf 13 1) rfl rfl (one_of HT_.out (by kernel_rfl)) (by decide) (fun K hK => ?_)
           refine goes_ Try.func39 (by kernel_rfl) rfl #[.agg #[.int .i64 ((rd_T50 l0_1 x5_1).f0), .string ((rd_T50 l0_1 x5_1).f1)], .agg #[.int .i64 a1_0, .string a1_1]] (by rfl) rfl rfl AQ ?_
           with_reducible refine (spec_l19Before.calls ((rd_T50 l0_1 x5_1).f0) ((rd_T50 l0_1 x5_1).f1) a1_0 a1_1 false _ A29.out).mono ?_
           rintro e w40 ⟨rfl, hb⟩
           have HS4_ := (hb.cell (World.block_lt_of_cell? _ _ (hHeld.2.2.2.2.1))).trans (hHeld.2.2.2.2.1)
           have HS5_ := (hb.cell (World.block_lt_of_cell? _ _ (hHeld.2.2.2.2.2))).trans (hHeld.2.2.2.2.2)
           refine ⟨_, rfl, ?_⟩
           have n0_ := Aside0.mk (Kd.R_below (RD HO_583001) hb)
           have n1_ := Aside0.mk (blk_below (BD BK582) hb)
           have n2_ := Aside0.mk (blk_below (BD BK583) hb)
           have n3_ := Aside0.mk (blk_below (BD BK584) hb)
           have n4_ := Aside0.mk (Kept.below (S := (fun k_ => P0_1_ k_)) (by repeat (first | (with_reducible first | exact HK.out | apply Kept.alloc | apply Kept.drewN | apply Kept.drew | refine Kept.setCell ?_ (.inr GW582.out) _ | refine Kept.setCell ?_ (.inr GW583.out) _ | refine Kept.setCell ?_ (.inr GW584.out) _) | exact HK.out)) hb)
           have n5_ := Aside0.mk (below_step BG hb)
           clear HO_583001
           clear BK582
           clear BK583
           clear BK584
           clear HK
           clear HB
           have HO_583001 := n0_
           have BK582 := n1_
           have BK583 := n2_
           have BK584 := n3_
           have HK := n4_
           have HB := n5_
           clear n0_ n1_ n2_ n3_ n4_ n5_
           (try clear hb)
           (try clear hb2)
           (try clear hk)
           (try clear hi)
           refine hK.out _ _ ⟨(blk_cell BK582.out 0).trans rfl, (blk_cell BK582.out 1).trans rfl, (blk_cell BK583.out 0).trans rfl, (blk_cell BK583.out 1).trans rfl, HS4_, HS5_⟩ (fun hHeld => ?_)
           clear hK K
           refine NM (some 24) ?_
           refine PU (i := 13) (N := some 25) (tf 14 0) rfl rfl HT_ ?_
           refine done_ (done_of HT_.out (by kernel_rfl)) ?_
           try go_wp2_with (first | ((with_reducible refine gate_dst (N := 28) rfl ?_); refine Kd.R_lit k50 _ 50 ?hg (N := 28) ?hd (xs := ([] : List (S50))) (inner := []) (ok := fun _ => True) (okp := fun _ => True) ?hr ?hp (fun _ hk => hk) trivial (Below.refl _ _) (Nat.le_refl _) (by simp) ?_; (case hd => rfl); (case hg => rfl); (case hr => first | (go_simp; done) | (go_simp; rfl)); (case hp => exact (Reps.none _ _)); intro v589 w41 ho42 hb hg_ hnew_; clear hg_ hnew_; (first | rw [← Ny588.out] at ho42 | (simp only [Int.reduceToNat] at ho42; rw [← Ny588.out] at ho42)); have n0_ := Aside0.mk (Kd.R_elder' (RD HO_583001) (Kd.R_base ho42) hb); have n1_ := Aside0.mk (Kd.R_lower (Kd.R_newB (Kd.R_new' (Kd.R_newM (M := fun k_ => (P0_1_ k_ ∨ w.heap.size ≤ k_)) ho42 (by first | exact HK.out.1 | exact (show Kept w _ (fun k_ => P0_1_ k_) from by repeat (first | (with_reducible first | exact HK.out | apply Kept.alloc | apply Kept.drewN | apply Kept.drew | refine Kept.setCell ?_ (.inr GW582.out) _ | refine Kept.setCell ?_ (.inr GW583.out) _ | refine Kept.setCell ?_ (.inr GW584.out) _) | exact HK.out)).1) (fun k_ h_ => .inr h_)) (Kd.R_lt (RD HO_583001))) (g := gb583) (o := .cells #[.int .i64 a1_0, .string a1_1] 50 (0, 0)) (by (with_reducible repeat (first | refine blk_drewN ?_ _ | refine blk_drew ?_ | refine blk_alloc ?_ _)); exact BK583.out)) (below_size BG)); have n2_ := Aside0.mk (blk_below (BD BK582) hb); have n3_ := Aside0.mk (blk_below (BD BK583) hb); have n4_ := Aside0.mk (blk_below (BD BK584) hb); have n5_ := Aside0.mk (Kept.below (S := (fun k_ => P0_1_ k_)) (by repeat (first | (with_reducible first | exact HK.out | apply Kept.alloc | apply Kept.drewN | apply Kept.drew | refine Kept.setCell ?_ (.inr GW582.out) _ | refine Kept.setCell ?_ (.inr GW583.out) _ | refine Kept.setCell ?_ (.inr GW584.out) _) | exact HK.out)) hb); have n6_ := Aside0.mk (below_step BG hb); clear HO_583001; clear BK582; clear BK583; clear BK584; clear HK; clear HB; have HO_583001 := n0_; have HO590 := n1_; have BK582 := n2_; have BK583 := n3_; have BK584 := n4_; have HK := n5_; have HB := n6_; clear n0_ n1_ n2_ n3_ n4_ n5_ n6_; clear hb ho42; have hnb43 := NB582_583.out; have hnc43 := NB583_582.out; have hnb44 := NB582_584.out; have hnc44 := NB584_582.out; obtain ⟨hcz45_0, hcz45_1, hfz45_0, hfz45_1⟩ := bk2 BK582.out; have q46 : (x5_1 : Int) ≤ ((l0_1.length : Int) : Int) := of_decide_eq_true AS; obtain ⟨i046, hi046, _, hsz46, _⟩ := info_parts info50; have hroom46 : l0_1.length ≤ co17 := (Kd.R_reads' HO_583001.out).2.1; have hC46 : Kd.C k50 _ (some ad586) l0_1.length l0_1 := (Kd.R_reads' HO_583001.out).2.2; have q046 : (0 : Int) ≤ (x5_1 : Int) := of_decide_eq_true AS; have hcut46 := cut_from (P := Try.prog) 27 50 .i64 Try.underlying27 hi046 2 hsz46 (some ad586) l0_1.length co17 x5_1 q046 q46; have hr46 := Kd.C_drop (m := (x5_1 : Int).toNat) (c := co17) hC46 (by omega) hroom46; obtain ⟨A46, hA46⟩ : ∃ A1, A1 = (if co17 = (x5_1 : Int).toNat then (some ad586) else ((some ad586) : Option Addr).map (·.add ((x5_1 : Int).toNat * 2))) := ⟨_, rfl⟩; obtain ⟨c46, hc46⟩ : ∃ c1, c1 = co17 - (x5_1 : Int).toNat := ⟨_, rfl⟩; have hy46 : y591.length = l0_1.length - (x5_1 : Int).toNat := (by rw [Ny591.out, List.length_drop] <;> omega); rw [show (l0_1).drop (x5_1 : Int).toNat = y591 from Ny591.out.symm] at hr46; replace hr46 : Kd.C k50 _ A46 y591.length y591 := (by rw [hA46]; exact hr46); rw [← hy46, ← hA46, ← hc46] at hcut46; have HR594 := Aside0.mk hr46; have HC594 := Aside0.mk (show y591.length ≤ c46 from by rw [hy46, hc46]; exact Nat.sub_le_sub_right hroom46 _); clear hr46 hC46 hroom46 hi046 hsz46 hc46; have KY46 := Aside0.mk hy46; have KA46 := Aside0.mk hA46; clear hy46 hA46; have KL46 := Aside0.mk (show (x5_1 : Int).toNat ≤ l0_1.length from by omega); replace q46 := eq_true q46) | ((with_reducible refine gate_builtin (b := .append) (xs := #[.tmp 28, .tmp 32]) rfl ?_); at_builtin; refine Kd.R_append_rows k50 (w0 := w0) w0.heap.size rfl (.tmp 28) (.tmp 32) 27 50 (.agg #[(.int .i64 0), (.string ⟨#[]⟩)]) 24 rfl Try.underlying27 info50 rfl (by decide) (by omega) v589 y588 y591 _ _ _ (fun k_ => (P0_1_ k_ ∨ w.heap.size ≤ k_) ∧ some k_ ≠ (.slice (some ad586) l0_1.length co17 : Value).ownBlock ∧ k_ ≠ gb583) (fun _ => False) rfl rfl ?aO ?aR (fun _ _ h => h) (fun _ h => h.elim) ?aF ?aB ?aS ?aL ?_; (case aR => repeat (first | exact (by repeat (first | (with_reducible exact HR594.out) | (with_reducible refine Kd.C_alloc ?_ _) | (with_reducible refine Kd.C_drewN ?_ _) | (with_reducible refine Kd.C_drew ?_) | exact HR594.out)) | (with_reducible refine Kd.C_alloc ?_ _) | (with_reducible refine Kd.C_drewN ?_ _) | (with_reducible refine Kd.C_drew ?_))); (case aB => exact BG); (case aF => exact (fun k_ hk => ⟨(.inr (Nat.le_trans (by first | exact HK.out.1 | exact (show Kept w _ (fun k_ => P0_1_ k_) from by repeat (first | (with_reducible first | exact HK.out | apply Kept.alloc | apply Kept.drewN | apply Kept.drew | refine Kept.setCell ?_ (.inr GW582.out) _ | refine Kept.setCell ?_ (.inr GW583.out) _ | refine Kept.setCell ?_ (.inr GW584.out) _) | exact HK.out)).1) hk)), Kd.fresh' (Kd.R_lt (RD HO_583001)) k_ hk, Kd.freshB (g := gb583) (o := .cells #[.int .i64 a1_0, .string a1_1] 50 (0, 0)) (by (with_reducible repeat (first | refine blk_drewN ?_ _ | refine blk_drew ?_ | refine blk_alloc ?_ _)); exact BK583.out) k_ hk⟩)); (case aO => exact (by (with_reducible repeat (first | apply Kd.R_alloc | apply Kd.R_drewN | apply Kd.R_drew)); exact Kd.R_mono HO590.out (fun _ hk => ⟨hk.1.1.1, ⟨hk.1.2, hk.2⟩⟩))); (case aS => exact (below_size BG)); (case aL => have := LMc35.out; omega); intro v596 w47 ho hb hg hat; rw [← Ny595.out] at ho; have n0_ := Aside0.mk (Kd.R_after (ok := (fun k_ => (P0_1_ k_ ∨ w.heap.size ≤ k_) ∧ k_ ≠ gb583)) (RD HO_583001) hg hat); have n1_ := Aside0.mk (blk_grown (g := gb582) (o := .cells #[.int .i64 a0_0, .slice (some ad586) l0_1.length co17] 29 (0, 0)) (by (with_reducible repeat (first | refine blk_drewN ?_ _ | refine blk_drew ?_ | refine blk_alloc ?_ _)); exact BK582.out) hg (Kd.R_ne HO590.out BK582.out (by decide))); have n2_ := Aside0.mk (blk_grown (g := gb583) (o := .cells #[.int .i64 a1_0, .string a1_1] 50 (0, 0)) (by (with_reducible repeat (first | refine blk_drewN ?_ _ | refine blk_drew ?_ | refine blk_alloc ?_ _)); exact BK583.out) hg (Kd.R_away HO590.out (fun _ hk => hk.2))); have n3_ := Aside0.mk (blk_grown (g := gb584) (o := .cells #[.int .i64 0, .slice none 0 0] 29 (0, 0)) (by (with_reducible repeat (first | refine blk_drewN ?_ _ | refine blk_drew ?_ | refine blk_alloc ?_ _)); exact BK584.out) hg (Kd.R_ne HO590.out BK584.out (by decide))); have n4_ := Aside0.mk (hb); have n5_ := Aside0.mk (Kept.of_grown (S := (fun k_ => P0_1_ k_)) hg (by repeat (first | (with_reducible first | exact HK.out | apply Kept.alloc | apply Kept.drewN | apply Kept.drew | refine Kept.setCell ?_ (.inr GW582.out) _ | refine Kept.setCell ?_ (.inr GW583.out) _ | refine Kept.setCell ?_ (.inr GW584.out) _) | exact HK.out)) (fun k_ e_ => (HO590.out.1 k_ e_).1.1.1)); have n6_ := Aside0.mk ((show Kd.C k50 w47 A46 y591.length y591 from by rw [Ny591.out, KA46.out]; exact Kd.C_drop (m := (x5_1 : Int).toNat) (c := co17) ((Kd.R_reads' (Kd.R_after (ok := (fun k_ => (P0_1_ k_ ∨ w.heap.size ≤ k_) ∧ k_ ≠ gb583)) (RD HO_583001) hg hat)).2.2) KL46.out ((Kd.R_reads' (Kd.R_after (ok := (fun k_ => (P0_1_ k_ ∨ w.heap.size ≤ k_) ∧ k_ ≠ gb583)) (RD HO_583001) hg hat)).2.1))); have n7_ := Aside0.mk (ho); clear HO_583001; clear BK582; clear BK583; clear BK584; clear HB; clear HK; clear HR594; clear HO590; have HO_583001 := n0_; have BK582 := n1_; have BK583 := n2_; have BK584 := n3_; have HB := n4_; have HK := n5_; have HR594 := n6_; have HO597 := n7_; clear n0_ n1_ n2_ n3_ n4_ n5_ n6_ n7_; clear ho hb hg hat))
           have n0_ := Aside0.mk (Kd.R_drew HO_583001.out)
           have n1_ := Aside0.mk (Kd.R_drew HO597.out)
           have n2_ := Aside0.mk (blk_drew BK582.out)
           have n3_ := Aside0.mk (blk_drew BK583.out)
           have n4_ := Aside0.mk (blk_drew BK584.out)
           have n5_ := Aside0.mk (Kd.C_drew HR594.out)
           have n6_ := Aside0.mk (Kept.drew HK.out)
           have n7_ := Aside0.mk (below_drew1 HB.out)
           clear HO_583001
           clear HO597
           clear BK582
           clear BK583
           clear BK584
           clear HR594
           clear HK
           clear HB
           have HO_583001 := n0_
           have HO597 := n1_
           have BK582 := n2_
           have BK583 := n3_
           have BK584 := n4_
           have HR594 := n5_
           have HK := n6_
           have HB := n7_
           clear n0_ n1_ n2_ n3_ n4_ n5_ n6_ n7_
           have q49 : (x5_1 : Int) ≤ ((l0_1.length : Int) : Int) := of_decide_eq_true AS
           obtain ⟨i049, hi049, _, hsz49, _⟩ := info_parts info50
           have hcut49 := cut_to (P := Try.prog) 27 50 .i64 Try.underlying27 hi049 (some ad586) l0_1.length co17 x5_1 (of_decide_eq_true AS) q49 (Kd.R_reads' HO_583001.out).2.1
           have hr49 := Kd.R_take (m := (x5_1 : Int).toNat) HO_583001.out (by omega)
           have hy49 : y598.length = (x5_1 : Int).toNat := (by rw [Ny598.out, List.length_take]; omega)
           rw [← Ny598.out] at hr49
           rw [← hy49] at hr49 hcut49
           clear hy49 hi049 hsz49 HO_583001
           have HO600 := Aside0.mk hr49
           clear hr49
           replace q49 := eq_true q49
           refine start_ (n := 11) (S := fun w' => w'.cell? ⟨gb582, 0, none⟩ = some (.int .i64 a0_0) ∧ w'.cell? ⟨gb582, 1, none⟩ = some (.slice (some ad586) l0_1.length co17) ∧ w'.cell? ⟨gb583, 0, none⟩ = some (.int .i64 a1_0) ∧ w'.cell? ⟨gb583, 1, none⟩ = some (.string a1_1)) (ds := [10]) #[false, false, false, false, false, false, false, false, false, false, false] (by kernel_rfl) rfl rfl ⟨(blk_cell BK582.out 0).trans rfl, (blk_cell BK582.out 1).trans rfl, (blk_cell BK583.out 0).trans rfl, (blk_cell BK583.out 1).trans rfl⟩ (fun hHeld => ?_); refine with_tabW spec_l19Put.tab7 spec_l19Put.bits7 (fun HT_ HW_ => ?_)
           generalize w47.drew = w48 at HO597 BK582 BK583 BK584 HR594 HK HB HO600 hHeld ⊢
           refine PU (i := 0) (N := some 34) (tf 1 10) rfl rfl HT_ ?_
           refine PU (i := 2) (N := some 36) #[true, false, true, false, false, false, false, false, false, false, false] rfl rfl HT_ ?_
           refine PU (i := 7) (N := some 41) #[true, false, true, false, false, false, false, true, false, false, false] rfl rfl HT_ ?_
           refine PT (i := 1) (N := some 35) #[true, true, true, false, false, false, false, true, false, false, false] rfl rfl HT_ HW_ hHeld ?_
           refine PU (i := 3) (N := some 37) #[true, true, true, true, false, false, false, true, false, false, false] rfl rfl HT_ ?_
           refine PT (i := 4) (N := some 38) #[true, true, true, true, true, false, false, true, false, false, false] rfl rfl HT_ HW_ hHeld ?_
           refine one_ (i := 5) (N := some 39) #[true, true, true, true, true, true, false, true, false, false, false] rfl rfl (one_of HT_.out (by kernel_rfl)) (by decide) (fun K hK => ?_)
           refine value_ (w1 := ?_) (v := ?_) (by rfl) rfl ?_ ?_
           rotate_left 2
           ·go_simp
            constructor
            ·rfl
            ·rfl
           refine hK.out _ _ ⟨(blk_cell (blk_alloc BK582.out _) 0).trans rfl, (blk_cell (blk_alloc BK582.out _) 1).trans rfl, (blk_cell (blk_alloc BK583.out _) 0).trans rfl, (blk_cell (blk_alloc BK583.out _) 1).trans rfl⟩ (fun hHeld => ?_)
           clear hK K
           refine NM (some 39) ?_
           refine one_ (i := 6) (N := some 40) (tf 8 3) rfl rfl (one_of HT_.out (by kernel_rfl)) (by decide) (fun K hK => ?_)
           refine Kd.R_append_step k50 (w0 := w0) w0.heap.size (by rfl) (.tmp 37) (.tmp 39) 27 50 (.agg #[(.int .i64 0), (.string ⟨#[]⟩)]) 24 rfl Try.underlying27 info50 rfl (by decide) (by omega) (.slice (some ad586) y598.length co17) y598 (⟨a1_0, a1_1⟩ : S50) [.int .i64 a1_0, .string a1_1] (fun k_ => (P0_1_ k_ ∨ w.heap.size ≤ k_) ∧ some k_ ≠ (v596 : Value).ownBlock ∧ k_ ≠ gb583) (fun _ => False) rfl rfl ?aP (fun _ hk => hk.elim) ?aF ?aO ?aB ?aS ?aL ?_
           (case aP => exact k50_mkM _ _ _ (⟨a1_0, a1_1⟩ : S50))
           (case aB => exact BG)
           (case aF => exact (fun k_ hk => ⟨(.inr (Nat.le_trans (by first | exact HK.out.1 | exact (show Kept w _ (fun k_ => P0_1_ k_) from by repeat (first | (with_reducible first | exact HK.out | apply Kept.alloc | apply Kept.drewN | apply Kept.drew | refine Kept.setCell ?_ (.inr GW582.out) _ | refine Kept.setCell ?_ (.inr GW583.out) _ | refine Kept.setCell ?_ (.inr GW584.out) _) | exact HK.out)).1) hk)), Kd.fresh' (Kd.R_lt (RD HO597)) k_ hk, Kd.freshB (g := gb583) (o := .cells #[.int .i64 a1_0, .string a1_1] 50 (0, 0)) (by (with_reducible repeat (first | refine blk_drewN ?_ _ | refine blk_drew ?_ | refine blk_alloc ?_ _)); exact BK583.out) k_ hk⟩))
           (case aO => exact (by (with_reducible repeat (first | apply Kd.R_alloc | apply Kd.R_drewN | apply Kd.R_drew)); exact Kd.R_mono HO600.out (fun _ hk => ⟨hk.1.1, ⟨hk.2, hk.1.2⟩⟩)))
           (case aS => exact (below_size BG))
           (case aL => have := LMc37.out; omega)
           intro v602 w50 ho hb hg hat
           rw [← Ny601.out] at ho
           have n0_ := Aside0.mk (blk_grown (g := gb582) (o := .cells #[.int .i64 a0_0, .slice (some ad586) l0_1.length co17] 29 (0, 0)) (by (with_reducible repeat (first | refine blk_drewN ?_ _ | refine blk_drew ?_ | refine blk_alloc ?_ _)); exact BK582.out) hg (Kd.R_ne HO600.out BK582.out (by decide)))
           have n1_ := Aside0.mk (blk_grown (g := gb583) (o := .cells #[.int .i64 a1_0, .string a1_1] 50 (0, 0)) (by (with_reducible repeat (first | refine blk_drewN ?_ _ | refine blk_drew ?_ | refine blk_alloc ?_ _)); exact BK583.out) hg (Kd.R_away HO600.out (fun _ hk => hk.1.2)))
           have n2_ := Aside0.mk (blk_grown (g := gb584) (o := .cells #[.int .i64 0, .slice none 0 0] 29 (0, 0)) (by (with_reducible repeat (first | refine blk_drewN ?_ _ | refine blk_drew ?_ | refine blk_alloc ?_ _)); exact BK584.out) hg (Kd.R_ne HO600.out BK584.out (by decide)))
           have n3_ := Aside0.mk (Kd.R_after (ok := (fun k_ => (P0_1_ k_ ∨ w.heap.size ≤ k_) ∧ k_ ≠ gb583)) (by (with_reducible repeat (first | apply Kd.R_alloc | apply Kd.R_drewN | apply Kd.R_drew)); exact Kd.R_mono HO597.out (fun _ hk => ⟨⟨hk.1, hk.2.2⟩, OL hk.2.1⟩)) hg hat)
           have n4_ := Aside0.mk (hb)
           have n5_ := Aside0.mk (Kept.of_grown (S := (fun k_ => P0_1_ k_)) hg (by repeat (first | (with_reducible first | exact HK.out | apply Kept.alloc | apply Kept.drewN | apply Kept.drew | refine Kept.setCell ?_ (.inr GW582.out) _ | refine Kept.setCell ?_ (.inr GW583.out) _ | refine Kept.setCell ?_ (.inr GW584.out) _) | exact HK.out)) (fun k_ e_ => (HO600.out.1 k_ e_).1.1))
           have n6_ := Aside0.mk (ho)
           clear BK582
           clear BK583
           clear BK584
           clear HO597
           clear HB
           clear HK
           clear HO600
           have BK582 := n0_
           have BK583 := n1_
           have BK584 := n2_
           have HO597 := n3_
           have HB := n4_
           have HK := n5_
           have HO603 := n6_
           clear n0_ n1_ n2_ n3_ n4_ n5_ n6_
           clear ho hb hg hat
           obtain ⟨Ao52, co52, eo52⟩ := Kd.R_slice HO597.out
           (first | subst eo52 | (injection eo52 with f1_ f2_ f3_; have f4_ := f1_.symm; have f5_ := f3_.symm; clear f1_ f2_ f3_; subst f4_; subst f5_))
           refine hK.out _ _ ⟨(blk_cell BK582.out 0).trans rfl, (blk_cell BK582.out 1).trans rfl, (blk_cell BK583.out 0).trans rfl, (blk_cell BK583.out 1).trans rfl⟩ (fun hHeld => ?_)
           clear hK K
           refine NM (some 40) ?_
           refine one_ (i := 8) (N := some 42) (tf 9 2) rfl rfl (one_of HT_.out (by kernel_rfl)) (by decide) (fun K hK => ?_)
           refine Kd.R_append_rows_step k50 (w0 := w0) w0.heap.size (by rfl) (.tmp 40) (.tmp 41) 27 50 (.agg #[(.int .i64 0), (.string ⟨#[]⟩)]) 24 rfl Try.underlying27 info50 rfl (by decide) (by omega) v602 y601 y595 _ _ _ (fun k_ => (P0_1_ k_ ∨ w.heap.size ≤ k_) ∧ some k_ ≠ (.slice Ao52 y595.length co52 : Value).ownBlock ∧ k_ ≠ gb583) (fun _ => False) rfl rfl ?aO ?aR (fun _ _ h => h) (fun _ h => h.elim) ?aF ?aB ?aS ?aL ?_
           (case aR => repeat (first | exact (Kd.R_reads' HO597.out).2.2 | (with_reducible refine Kd.C_alloc ?_ _) | (with_reducible refine Kd.C_drewN ?_ _) | (with_reducible refine Kd.C_drew ?_)))
           (case aB => exact BG)
           (case aF => exact (fun k_ hk => ⟨(.inr (Nat.le_trans (by first | exact HK.out.1 | exact (show Kept w _ (fun k_ => P0_1_ k_) from by repeat (first | (with_reducible first | exact HK.out | apply Kept.alloc | apply Kept.drewN | apply Kept.drew | refine Kept.setCell ?_ (.inr GW582.out) _ | refine Kept.setCell ?_ (.inr GW583.out) _ | refine Kept.setCell ?_ (.inr GW584.out) _) | exact HK.out)).1) hk)), Kd.fresh' (Kd.R_lt (RD HO597)) k_ hk, Kd.freshB (g := gb583) (o := .cells #[.int .i64 a1_0, .string a1_1] 50 (0, 0)) (by (with_reducible repeat (first | refine blk_drewN ?_ _ | refine blk_drew ?_ | refine blk_alloc ?_ _)); exact BK583.out) k_ hk⟩))
           (case aO => exact (RD HO603))
           (case aS => exact (below_size BG))
           (case aL => have := LMc38.out; omega)
           intro v605 w51 ho hb hg hat
           rw [← Ny604.out] at ho
           have n0_ := Aside0.mk (blk_grown (g := gb582) (o := .cells #[.int .i64 a0_0, .slice (some ad586) l0_1.length co17] 29 (0, 0)) (by (with_reducible repeat (first | refine blk_drewN ?_ _ | refine blk_drew ?_ | refine blk_alloc ?_ _)); exact BK582.out) hg (Kd.R_ne HO603.out BK582.out (by decide)))
           have n1_ := Aside0.mk (blk_grown (g := gb583) (o := .cells #[.int .i64 a1_0, .string a1_1] 50 (0, 0)) (by (with_reducible repeat (first | refine blk_drewN ?_ _ | refine blk_drew ?_ | refine blk_alloc ?_ _)); exact BK583.out) hg (Kd.R_away HO603.out (fun _ hk => hk.2.2)))
           have n2_ := Aside0.mk (blk_grown (g := gb584) (o := .cells #[.int .i64 0, .slice none 0 0] 29 (0, 0)) (by (with_reducible repeat (first | refine blk_drewN ?_ _ | refine blk_drew ?_ | refine blk_alloc ?_ _)); exact BK584.out) hg (Kd.R_ne HO603.out BK584.out (by decide)))
           have n3_ := Aside0.mk (Kd.R_after (ok := (fun k_ => (P0_1_ k_ ∨ w.heap.size ≤ k_) ∧ k_ ≠ gb583)) (RD HO597) hg hat)
           have n4_ := Aside0.mk (hb)
           have n5_ := Aside0.mk (Kept.of_grown (S := (fun k_ => P0_1_ k_)) hg (by repeat (first | (with_reducible first | exact HK.out | apply Kept.alloc | apply Kept.drewN | apply Kept.drew | refine Kept.setCell ?_ (.inr GW582.out) _ | refine Kept.setCell ?_ (.inr GW583.out) _ | refine Kept.setCell ?_ (.inr GW584.out) _) | exact HK.out)) (fun k_ e_ => (HO603.out.1 k_ e_).1))
           have n6_ := Aside0.mk (ho)
           clear BK582
           clear BK583
           clear BK584
           clear HO597
           clear HB
           clear HK
           clear HO603
           have BK582 := n0_
           have BK583 := n1_
           have BK584 := n2_
           have HO597 := n3_
           have HB := n4_
           have HK := n5_
           have HO606 := n6_
           clear n0_ n1_ n2_ n3_ n4_ n5_ n6_
           clear ho hb hg hat
           obtain ⟨Ao53, co53, eo53⟩ := Kd.R_slice HO606.out
           (first | subst eo53 | (injection eo53 with f1_ f2_ f3_; have f4_ := f1_.symm; have f5_ := f3_.symm; clear f1_ f2_ f3_; subst f4_; subst f5_))
           refine hK.out _ _ ⟨(blk_cell BK582.out 0).trans rfl, (blk_cell BK582.out 1).trans rfl, (blk_cell BK583.out 0).trans rfl, (blk_cell BK583.out 1).trans rfl⟩ (fun hHeld => ?_)
           clear hK K
           refine NM (some 42) ?_
           refine PU (i := 9) (N := some 43) (tf 10 1) rfl rfl HT_ ?_
           refine last_ (i := 10) (N := none) #[true, true, true, true, true, true, true, true, true, true, true] rfl rfl (one_of HT_.out (by kernel_rfl)) (by decide) (fun K hK => ?_)
           have hs54 : w51.cell? ⟨gb582, 1, none⟩ = some (.slice (some ad586) l0_1.length co17) := (blk_cell BK582.out 1).trans rfl
           have hfs54 := blk_frozen BK582.out 1
           have hns54_1 := NB583_582.out
           have hns54_2 := NB584_582.out
           have hms54_1 := NB582_583.out
           have hms54_2 := NB582_584.out
           refine skip_ (w1 := ?_) (by rfl) rfl ?_ ?_
           rotate_left
           ·go_simp
            rfl
           refine hK.out _ _ ?_
           clear hK K
           refine done_ (done_of HT_.out (by kernel_rfl)) ?_
           obtain ⟨hcz55_0, hcz55_1, hfz55_0, hfz55_1⟩ := bk2 BK582.out
           have hnb56 := NB584_583.out
           have hnc56 := NB583_584.out
           obtain ⟨hcz57_0, hcz57_1, hfz57_0, hfz57_1⟩ := bk2 BK584.out
           try go_wp2
           refine bodyPost_ret (results_cell_row rfl _ _ gb584 29 #[.int .i64 a0_0, .slice Ao53 y604.length co53] (0, 0) _ rfl (by (with_reducible repeat (first | refine blk_drewN ?_ _ | refine blk_drew ?_ | refine blk_alloc ?_ _)); refine blk_put (cs := #[.int .i64 a0_0, .slice none 0 0]) ?_ 1 _ rfl; (with_reducible repeat (first | refine blk_drewN ?_ _ | refine blk_drew ?_ | refine blk_alloc ?_ _)); refine blk_put (cs := #[.int .i64 0, .slice none 0 0]) ?_ 0 _ rfl; (with_reducible repeat (first | refine blk_drewN ?_ _ | refine blk_drew ?_ | refine blk_alloc ?_ _)); refine blk_far ?_ NB584_582.out _; (with_reducible repeat (first | refine blk_drewN ?_ _ | refine blk_drew ?_ | refine blk_alloc ?_ _)); exact BK584.out) Try.underlying29 rfl (by kernel_rfl)) rfl ?_
           exact ⟨_, by first | rfl | (simp [errW_none, errW_some] <;> rfl) | (simp [*, errW_none, errW_some] <;> rfl), by (with_reducible repeat (first | apply Kd.R_alloc | apply Kd.R_drewN | apply Kd.R_drew)); exact Kd.R_mono (FR (FR (Kd.R_far (p := ⟨gb582, 1, none⟩) (Kd.R_types (Kd.R_types HO606.out BK582.out (by decide)) BK584.out (by decide)) (fun _ hk => hk.1.2) (.slice Ao53 y604.length co53)))) (fun _ hk => hk.1.1.1), by repeat (first | (with_reducible first | exact HB.out | apply below_alloc | apply pw_below_drewN | apply below_drew1 | refine below_set ?_ GE582.out | refine below_set ?_ GE583.out | refine below_set ?_ GE584.out) | exact HB.out), by repeat (first | (with_reducible first | exact HK.out | apply Kept.alloc | apply Kept.drewN | apply Kept.drew | refine Kept.setCell ?_ (.inr GW582.out) _ | refine Kept.setCell ?_ (.inr GW583.out) _ | refine Kept.setCell ?_ (.inr GW584.out) _) | exact HK.out)⟩
          ·rw [if_neg c38] at H
           exact absurd H (by simp)
         ·rw [if_neg c37] at H
          exact absurd H (by simp)
        ·rw [if_neg c35] at H
         exact absurd H (by simp)
       ·rw [if_neg c34] at H
        exact absurd H (by simp)
     ·rw [if_neg c28] at H
      exact absurd H (by simp)
    ·rw [if_neg c27] at H
     have c27b0 : decide (x5_1 < (l0_1.length : Int)) = false := decide_eq_false c27
     clear c27
     obtain ⟨y607, hy607⟩ : ∃ y_ : List (S50), y_ = (([] : List (S50))) := ⟨_, rfl⟩
     replace H : (if 0 ≤ x5_1 then (if x5_1 ≤ (l0_1.length : Int) then ((some (l0_1.drop (x5_1 : Int).toNat : List (S50))).bind fun y610 => (if y607.length + y610.length < 5864062014805 then ((some (y607 ++ y610 : List (S50))).bind fun y614 => ((some (l0_1.take (x5_1 : Int).toNat : List (S50))).bind fun y617 => (if y617.length < 5864062014805 then ((some (y617 ++ [(⟨a1_0, a1_1⟩ : S50)] : List (S50))).bind fun y620 => (if y620.length + y614.length < 5864062014805 then (some (a0_0, (y620 ++ y614))) else (none))) else (none)))) else (none))) else (none)) else (none)) = some (r1, r2) := by first | (rw [hy607]; with_reducible exact H) | (have H2_ := (Option.bind_some _ _).symm.trans H; rw [hy607]; with_reducible exact H2_) | (have H2_ := (Option.bind_some _ _).symm.trans H; with_reducible exact H2_) | with_reducible exact H | (rw [hy607]; exact H) | exact H
     have Ny607 := Aside0.mk hy607
     clear hy607
     by_cases c58 : 0 ≤ x5_1
     ·rw [if_pos c58] at H
      have c58b0 := eq_true c58
      have c58b1 : decide (0 ≤ x5_1) = true := decide_eq_true c58
      clear c58
      by_cases c59 : x5_1 ≤ (l0_1.length : Int)
      ·rw [if_pos c59] at H
       have c59b0 := eq_true c59
       have c59b1 : decide (x5_1 ≤ (l0_1.length : Int)) = true := decide_eq_true c59
       clear c59
       obtain ⟨y610, hy610⟩ : ∃ y_ : List (S50), y_ = (l0_1.drop (x5_1 : Int).toNat) := ⟨_, rfl⟩
       replace H : (if y607.length + y610.length < 5864062014805 then ((some (y607 ++ y610 : List (S50))).bind fun y614 => ((some (l0_1.take (x5_1 : Int).toNat : List (S50))).bind fun y617 => (if y617.length < 5864062014805 then ((some (y617 ++ [(⟨a1_0, a1_1⟩ : S50)] : List (S50))).bind fun y620 => (if y620.length + y614.length < 5864062014805 then (some (a0_0, (y620 ++ y614))) else (none))) else (none)))) else (none)) = some (r1, r2) := by first | (rw [hy610]; with_reducible exact H) | (have H2_ := (Option.bind_some _ _).symm.trans H; rw [hy610]; with_reducible exact H2_) | (have H2_ := (Option.bind_some _ _).symm.trans H; with_reducible exact H2_) | with_reducible exact H | (rw [hy610]; exact H) | exact H
       have Ny610 := Aside0.mk hy610
       clear hy610
       by_cases c60 : y607.length + y610.length < 5864062014805
       ·rw [if_pos c60] at H
        have LMc60 := Aside0.mk c60
        clear c60
        obtain ⟨y614, hy614⟩ : ∃ y_ : List (S50), y_ = (y607 ++ y610) := ⟨_, rfl⟩
        replace H : ((some (l0_1.take (x5_1 : Int).toNat : List (S50))).bind fun y617 => (if y617.length < 5864062014805 then ((some (y617 ++ [(⟨a1_0, a1_1⟩ : S50)] : List (S50))).bind fun y620 => (if y620.length + y614.length < 5864062014805 then (some (a0_0, (y620 ++ y614))) else (none))) else (none))) = some (r1, r2) := by first | (rw [hy614]; with_reducible exact H) | (have H2_ := (Option.bind_some _ _).symm.trans H; rw [hy614]; with_reducible exact H2_) | (have H2_ := (Option.bind_some _ _).symm.trans H; with_reducible exact H2_) | with_reducible exact H | (rw [hy614]; exact H) | exact H
        have Ny614 := Aside0.mk hy614
        clear hy614
        have c61b0 := eq_true (of_decide_eq_true AS : x5_1 ≤ (l0_1.length : Int))
        obtain ⟨y617, hy617⟩ : ∃ y_ : List (S50), y_ = (l0_1.take (x5_1 : Int).toNat) := ⟨_, rfl⟩
        replace H : (if y617.length < 5864062014805 then ((some (y617 ++ [(⟨a1_0, a1_1⟩ : S50)] : List (S50))).bind fun y620 => (if y620.length + y614.length < 5864062014805 then (some (a0_0, (y620 ++ y614))) else (none))) else (none)) = some (r1, r2) := by first | (rw [hy617]; with_reducible exact H) | (have H2_ := (Option.bind_some _ _).symm.trans H; rw [hy617]; with_reducible exact H2_) | (have H2_ := (Option.bind_some _ _).symm.trans H; with_reducible exact H2_) | with_reducible exact H | (rw [hy617]; exact H) | exact H
        have Ny617 := Aside0.mk hy617
        clear hy617
        by_cases c62 : y617.length < 5864062014805
        ·rw [if_pos c62] at H
         have LMc62 := Aside0.mk c62
         clear c62
         obtain ⟨y620, hy620⟩ : ∃ y_ : List (S50), y_ = (y617 ++ [(⟨a1_0, a1_1⟩ : S50)]) := ⟨_, rfl⟩
         replace H : (if y620.length + y614.length < 5864062014805 then (some (a0_0, (y620 ++ y614))) else (none)) = some (r1, r2) := by first | (rw [hy620]; with_reducible exact H) | (have H2_ := (Option.bind_some _ _).symm.trans H; rw [hy620]; with_reducible exact H2_) | (have H2_ := (Option.bind_some _ _).symm.trans H; with_reducible exact H2_) | with_reducible exact H | (rw [hy620]; exact H) | exact H
         have Ny620 := Aside0.mk hy620
         clear hy620
         by_cases c63 : y620.length + y614.length < 5864062014805
         ·rw [if_pos c63] at H
          have LMc63 := Aside0.mk c63
          clear c63
          obtain ⟨y623, hy623⟩ : ∃ y_ : List (S50), y_ = (y620 ++ y614) := ⟨_, rfl⟩
          replace H : (some (a0_0, y623)) = some (r1, r2) := by first | (rw [hy623]; with_reducible exact H) | (have H2_ := (Option.bind_some _ _).symm.trans H; rw [hy623]; with_reducible exact H2_) | (have H2_ := (Option.bind_some _ _).symm.trans H; with_reducible exact H2_) | with_reducible exact H | (rw [hy623]; exact H) | exact H
          have Ny623 := Aside0.mk hy623
          clear hy623
          simp only [Option.some.injEq, Prod.mk.injEq] at H
          obtain ⟨rfl, rfl⟩ := H
          try go_wp2
          have n0_ := Aside0.mk (Kd.R_drew HO_583001.out)
          have n1_ := Aside0.mk (blk_drew BK582.out)
          have n2_ := Aside0.mk (blk_drew BK583.out)
          have n3_ := Aside0.mk (blk_drew BK584.out)
          have n4_ := Aside0.mk (Kept.drew HK.out)
          have n5_ := Aside0.mk (below_drew1 HB.out)
          clear HO_583001
          clear BK582
          clear BK583
          clear BK584
          clear HK
          clear HB
          have HO_583001 := n0_
          have BK582 := n1_
          have BK583 := n2_
          have BK584 := n3_
          have HK := n4_
          have HB := n5_
          clear n0_ n1_ n2_ n3_ n4_ n5_
          refine start_ (n := 14) (S := fun w' => w'.cell? ⟨gb582, 0, none⟩ = some (.int .i64 a0_0) ∧ w'.cell? ⟨gb582, 1, none⟩ = some (.slice Ao17 l0_1.length co17)) (ds := []) #[false, false, false, false, false, false, false, false, false, false, false, false, false, false] (by kernel_rfl) rfl rfl ⟨(blk_cell BK582.out 0).trans rfl, (blk_cell BK582.out 1).trans rfl⟩ (fun hHeld => ?_); refine with_tabW spec_l19Put.tab4 spec_l19Put.bits4 (fun HT_ HW_ => ?_)
          generalize wr.drew = w64 at HO_583001 BK582 BK583 BK584 HK HB hHeld ⊢
          refine PU (i := 0) (N := some 12) (tf 1 13) rfl rfl HT_ ?_
          refine PU (i := 1) (N := some 13) (tf 2 12) rfl rfl HT_ ?_
          refine PT (i := 2) (N := some 14) (tf 3 11) rfl rfl HT_ HW_ hHeld ?_
          refine PU (i := 3) (N := some 15) (tf 4 10) rfl rfl HT_ ?_
          refine PU (i := 4) (N := some 16) (tf 5 9) rfl rfl HT_ ?_
          refine PU (i := 5) (N := some 17) (tf 6 8) rfl rfl HT_ ?_
          refine PN (i := 6) (N := some 18) (tf 7 7) rfl rfl HT_ ?_
          refine PN (i := 7) (N := some 19) (tf 8 6) rfl rfl HT_ ?_
          refine PN (i := 8) (N := some 20) (tf 9 5) rfl rfl HT_ ?_
          refine PN (i := 9) (N := some 21) (tf 10 4) rfl rfl HT_ ?_
          refine PN (i := 10) (N := some 22) (tf 11 3) rfl rfl HT_ ?_
          refine PN (i := 11) (N := some 23) (tf 12 2) rfl rfl HT_ ?_
          refine PN (i := 12) (N := some 24) (tf 13 1) rfl rfl HT_ ?_
          refine PU (i := 13) (N := some 25) (tf 14 0) rfl rfl HT_ ?_
          refine done_ (done_of HT_.out (by kernel_rfl)) ?_
          try go_wp2_with (first | ((with_reducible refine gate_dst (N := 28) rfl ?_); refine Kd.R_lit k50 _ 50 ?hg (N := 28) ?hd (xs := ([] : List (S50))) (inner := []) (ok := fun _ => True) (okp := fun _ => True) ?hr ?hp (fun _ hk => hk) trivial (Below.refl _ _) (Nat.le_refl _) (by simp) ?_; (case hd => rfl); (case hg => rfl); (case hr => first | (go_simp; done) | (go_simp; rfl)); (case hp => exact (Reps.none _ _)); intro v608 w65 ho66 hb hg_ hnew_; clear hg_ hnew_; (first | rw [← Ny607.out] at ho66 | (simp only [Int.reduceToNat] at ho66; rw [← Ny607.out] at ho66)); have n0_ := Aside0.mk (Kd.R_elder' (RD HO_583001) (Kd.R_base ho66) hb); have n1_ := Aside0.mk (Kd.R_lower (Kd.R_newB (Kd.R_new' (Kd.R_newM (M := fun k_ => (P0_1_ k_ ∨ w.heap.size ≤ k_)) ho66 (by first | exact HK.out.1 | exact (show Kept w _ (fun k_ => P0_1_ k_) from by repeat (first | (with_reducible first | exact HK.out | apply Kept.alloc | apply Kept.drewN | apply Kept.drew | refine Kept.setCell ?_ (.inr GW582.out) _ | refine Kept.setCell ?_ (.inr GW583.out) _ | refine Kept.setCell ?_ (.inr GW584.out) _) | exact HK.out)).1) (fun k_ h_ => .inr h_)) (Kd.R_lt (RD HO_583001))) (g := gb583) (o := .cells #[.int .i64 a1_0, .string a1_1] 50 (0, 0)) (by (with_reducible repeat (first | refine blk_drewN ?_ _ | refine blk_drew ?_ | refine blk_alloc ?_ _)); exact BK583.out)) (below_size BG)); have n2_ := Aside0.mk (blk_below (BD BK582) hb); have n3_ := Aside0.mk (blk_below (BD BK583) hb); have n4_ := Aside0.mk (blk_below (BD BK584) hb); have n5_ := Aside0.mk (Kept.below (S := (fun k_ => P0_1_ k_)) (by repeat (first | (with_reducible first | exact HK.out | apply Kept.alloc | apply Kept.drewN | apply Kept.drew | refine Kept.setCell ?_ (.inr GW582.out) _ | refine Kept.setCell ?_ (.inr GW583.out) _ | refine Kept.setCell ?_ (.inr GW584.out) _) | exact HK.out)) hb); have n6_ := Aside0.mk (below_step BG hb); clear HO_583001; clear BK582; clear BK583; clear BK584; clear HK; clear HB; have HO_583001 := n0_; have HO609 := n1_; have BK582 := n2_; have BK583 := n3_; have BK584 := n4_; have HK := n5_; have HB := n6_; clear n0_ n1_ n2_ n3_ n4_ n5_ n6_; clear hb ho66; have hnb67 := NB582_583.out; have hnc67 := NB583_582.out; have hnb68 := NB582_584.out; have hnc68 := NB584_582.out; obtain ⟨hcz69_0, hcz69_1, hfz69_0, hfz69_1⟩ := bk2 BK582.out; have q70 : (x5_1 : Int) ≤ ((l0_1.length : Int) : Int) := of_decide_eq_true AS; obtain ⟨i070, hi070, _, hsz70, _⟩ := info_parts info50; have hroom70 : l0_1.length ≤ co17 := (Kd.R_reads' HO_583001.out).2.1; have hC70 : Kd.C k50 _ Ao17 l0_1.length l0_1 := (Kd.R_reads' HO_583001.out).2.2; have q070 : (0 : Int) ≤ (x5_1 : Int) := of_decide_eq_true AS; have hcut70 := cut_from (P := Try.prog) 27 50 .i64 Try.underlying27 hi070 2 hsz70 Ao17 l0_1.length co17 x5_1 q070 q70; have hr70 := Kd.C_drop (m := (x5_1 : Int).toNat) (c := co17) hC70 (by omega) hroom70; obtain ⟨A70, hA70⟩ : ∃ A1, A1 = (if co17 = (x5_1 : Int).toNat then Ao17 else (Ao17 : Option Addr).map (·.add ((x5_1 : Int).toNat * 2))) := ⟨_, rfl⟩; obtain ⟨c70, hc70⟩ : ∃ c1, c1 = co17 - (x5_1 : Int).toNat := ⟨_, rfl⟩; have hy70 : y610.length = l0_1.length - (x5_1 : Int).toNat := (by rw [Ny610.out, List.length_drop] <;> omega); rw [show (l0_1).drop (x5_1 : Int).toNat = y610 from Ny610.out.symm] at hr70; replace hr70 : Kd.C k50 _ A70 y610.length y610 := (by rw [hA70]; exact hr70); rw [← hy70, ← hA70, ← hc70] at hcut70; have HR613 := Aside0.mk hr70; have HC613 := Aside0.mk (show y610.length ≤ c70 from by rw [hy70, hc70]; exact Nat.sub_le_sub_right hroom70 _); clear hr70 hC70 hroom70 hi070 hsz70 hc70; have KY70 := Aside0.mk hy70; have KA70 := Aside0.mk hA70; clear hy70 hA70; have KL70 := Aside0.mk (show (x5_1 : Int).toNat ≤ l0_1.length from by omega); replace q70 := eq_true q70) | ((with_reducible refine gate_builtin (b := .append) (xs := #[.tmp 28, .tmp 32]) rfl ?_); at_builtin; refine Kd.R_append_rows k50 (w0 := w0) w0.heap.size rfl (.tmp 28) (.tmp 32) 27 50 (.agg #[(.int .i64 0), (.string ⟨#[]⟩)]) 24 rfl Try.underlying27 info50 rfl (by decide) (by omega) v608 y607 y610 _ _ _ (fun k_ => (P0_1_ k_ ∨ w.heap.size ≤ k_) ∧ some k_ ≠ (.slice Ao17 l0_1.length co17 : Value).ownBlock ∧ k_ ≠ gb583) (fun _ => False) rfl rfl ?aO ?aR (fun _ _ h => h) (fun _ h => h.elim) ?aF ?aB ?aS ?aL ?_; (case aR => repeat (first | exact (by repeat (first | (with_reducible exact HR613.out) | (with_reducible refine Kd.C_alloc ?_ _) | (with_reducible refine Kd.C_drewN ?_ _) | (with_reducible refine Kd.C_drew ?_) | exact HR613.out)) | (with_reducible refine Kd.C_alloc ?_ _) | (with_reducible refine Kd.C_drewN ?_ _) | (with_reducible refine Kd.C_drew ?_))); (case aB => exact BG); (case aF => exact (fun k_ hk => ⟨(.inr (Nat.le_trans (by first | exact HK.out.1 | exact (show Kept w _ (fun k_ => P0_1_ k_) from by repeat (first | (with_reducible first | exact HK.out | apply Kept.alloc | apply Kept.drewN | apply Kept.drew | refine Kept.setCell ?_ (.inr GW582.out) _ | refine Kept.setCell ?_ (.inr GW583.out) _ | refine Kept.setCell ?_ (.inr GW584.out) _) | exact HK.out)).1) hk)), Kd.fresh' (Kd.R_lt (RD HO_583001)) k_ hk, Kd.freshB (g := gb583) (o := .cells #[.int .i64 a1_0, .string a1_1] 50 (0, 0)) (by (with_reducible repeat (first | refine blk_drewN ?_ _ | refine blk_drew ?_ | refine blk_alloc ?_ _)); exact BK583.out) k_ hk⟩)); (case aO => exact (by (with_reducible repeat (first | apply Kd.R_alloc | apply Kd.R_drewN | apply Kd.R_drew)); exact Kd.R_mono HO609.out (fun _ hk => ⟨hk.1.1.1, ⟨hk.1.2, hk.2⟩⟩))); (case aS => exact (below_size BG)); (case aL => have := LMc60.out; omega); intro v615 w71 ho hb hg hat; rw [← Ny614.out] at ho; have n0_ := Aside0.mk (Kd.R_after (ok := (fun k_ => (P0_1_ k_ ∨ w.heap.size ≤ k_) ∧ k_ ≠ gb583)) (RD HO_583001) hg hat); have n1_ := Aside0.mk (blk_grown (g := gb582) (o := .cells #[.int .i64 a0_0, .slice Ao17 l0_1.length co17] 29 (0, 0)) (by (with_reducible repeat (first | refine blk_drewN ?_ _ | refine blk_drew ?_ | refine blk_alloc ?_ _)); exact BK582.out) hg (Kd.R_ne HO609.out BK582.out (by decide))); have n2_ := Aside0.mk (blk_grown (g := gb583) (o := .cells #[.int .i64 a1_0, .string a1_1] 50 (0, 0)) (by (with_reducible repeat (first | refine blk_drewN ?_ _ | refine blk_drew ?_ | refine blk_alloc ?_ _)); exact BK583.out) hg (Kd.R_away HO609.out (fun _ hk => hk.2))); have n3_ := Aside0.mk (blk_grown (g := gb584) (o := .cells #[.int .i64 0, .slice none 0 0] 29 (0, 0)) (by (with_reducible repeat (first | refine blk_drewN ?_ _ | refine blk_drew ?_ | refine blk_alloc ?_ _)); exact BK584.out) hg (Kd.R_ne HO609.out BK584.out (by decide))); have n4_ := Aside0.mk (hb); have n5_ := Aside0.mk (Kept.of_grown (S := (fun k_ => P0_1_ k_)) hg (by repeat (first | (with_reducible first | exact HK.out | apply Kept.alloc | apply Kept.drewN | apply Kept.drew | refine Kept.setCell ?_ (.inr GW582.out) _ | refine Kept.setCell ?_ (.inr GW583.out) _ | refine Kept.setCell ?_ (.inr GW584.out) _) | exact HK.out)) (fun k_ e_ => (HO609.out.1 k_ e_).1.1.1)); have n6_ := Aside0.mk ((show Kd.C k50 w71 A70 y610.length y610 from by rw [Ny610.out, KA70.out]; exact Kd.C_drop (m := (x5_1 : Int).toNat) (c := co17) ((Kd.R_reads' (Kd.R_after (ok := (fun k_ => (P0_1_ k_ ∨ w.heap.size ≤ k_) ∧ k_ ≠ gb583)) (RD HO_583001) hg hat)).2.2) KL70.out ((Kd.R_reads' (Kd.R_after (ok := (fun k_ => (P0_1_ k_ ∨ w.heap.size ≤ k_) ∧ k_ ≠ gb583)) (RD HO_583001) hg hat)).2.1))); have n7_ := Aside0.mk (ho); clear HO_583001; clear BK582; clear BK583; clear BK584; clear HB; clear HK; clear HR613; clear HO609; have HO_583001 := n0_; have BK582 := n1_; have BK583 := n2_; have BK584 := n3_; have HB := n4_; have HK := n5_; have HR613 := n6_; have HO616 := n7_; clear n0_ n1_ n2_ n3_ n4_ n5_ n6_ n7_; clear ho hb hg hat))
          have n0_ := Aside0.mk (Kd.R_drew HO_583001.out)
          have n1_ := Aside0.mk (Kd.R_drew HO616.out)
          have n2_ := Aside0.mk (blk_drew BK582.out)
          have n3_ := Aside0.mk (blk_drew BK583.out)
          have n4_ := Aside0.mk (blk_drew BK584.out)
          have n5_ := Aside0.mk (Kd.C_drew HR613.out)
          have n6_ := Aside0.mk (Kept.drew HK.out)
          have n7_ := Aside0.mk (below_drew1 HB.out)
          clear HO_583001
          clear HO616
          clear BK582
          clear BK583
          clear BK584
          clear HR613
          clear HK
          clear HB
          have HO_583001 := n0_
          have HO616 := n1_
          have BK582 := n2_
          have BK583 := n3_
          have BK584 := n4_
          have HR613 := n5_
          have HK := n6_
          have HB := n7_
          clear n0_ n1_ n2_ n3_ n4_ n5_ n6_ n7_
          have q73 : (x5_1 : Int) ≤ ((l0_1.length : Int) : Int) := of_decide_eq_true AS
          obtain ⟨i073, hi073, _, hsz73, _⟩ := info_parts info50
          have hcut73 := cut_to (P := Try.prog) 27 50 .i64 Try.underlying27 hi073 Ao17 l0_1.length co17 x5_1 (of_decide_eq_true AS) q73 (Kd.R_reads' HO_583001.out).2.1
          have hr73 := Kd.R_take (m := (x5_1 : Int).toNat) HO_583001.out (by omega)
          have hy73 : y617.length = (x5_1 : Int).toNat := (by rw [Ny617.out, List.length_take]; omega)
          rw [← Ny617.out] at hr73
          rw [← hy73] at hr73 hcut73
          clear hy73 hi073 hsz73 HO_583001
          have HO619 := Aside0.mk hr73
          clear hr73
          replace q73 := eq_true q73
          refine start_ (n := 11) (S := fun w' => w'.cell? ⟨gb582, 0, none⟩ = some (.int .i64 a0_0) ∧ w'.cell? ⟨gb582, 1, none⟩ = some (.slice Ao17 l0_1.length co17) ∧ w'.cell? ⟨gb583, 0, none⟩ = some (.int .i64 a1_0) ∧ w'.cell? ⟨gb583, 1, none⟩ = some (.string a1_1)) (ds := [10]) #[false, false, false, false, false, false, false, false, false, false, false] (by kernel_rfl) rfl rfl ⟨(blk_cell BK582.out 0).trans rfl, (blk_cell BK582.out 1).trans rfl, (blk_cell BK583.out 0).trans rfl, (blk_cell BK583.out 1).trans rfl⟩ (fun hHeld => ?_); refine with_tabW spec_l19Put.tab7 spec_l19Put.bits7 (fun HT_ HW_ => ?_)
          generalize w71.drew = w72 at HO616 BK582 BK583 BK584 HR613 HK HB HO619 hHeld ⊢
          refine PU (i := 0) (N := some 34) (tf 1 10) rfl rfl HT_ ?_
          refine PU (i := 2) (N := some 36) #[true, false, true, false, false, false, false, false, false, false, false] rfl rfl HT_ ?_
          refine PU (i := 7) (N := some 41) #[true, false, true, false, false, false, false, true, false, false, false] rfl rfl HT_ ?_
          refine PT (i := 1) (N := some 35) #[true, true, true, false, false, false, false, true, false, false, false] rfl rfl HT_ HW_ hHeld ?_
          refine PU (i := 3) (N := some 37) #[true, true, true, true, false, false, false, true, false, false, false] rfl rfl HT_ ?_
          refine PT (i := 4) (N := some 38) #[true, true, true, true, true, false, false, true, false, false, false] rfl rfl HT_ HW_ hHeld ?_
          refine one_ (i := 5) (N := some 39) #[true, true, true, true, true, true, false, true, false, false, false] rfl rfl (one_of HT_.out (by kernel_rfl)) (by decide) (fun K hK => ?_)
          refine value_ (w1 := ?_) (v := ?_) (by rfl) rfl ?_ ?_
          rotate_left 2
          ·go_simp
           constructor
           ·rfl
           ·rfl
          refine hK.out _ _ ⟨(blk_cell (blk_alloc BK582.out _) 0).trans rfl, (blk_cell (blk_alloc BK582.out _) 1).trans rfl, (blk_cell (blk_alloc BK583.out _) 0).trans rfl, (blk_cell (blk_alloc BK583.out _) 1).trans rfl⟩ (fun hHeld => ?_)
          clear hK K
          refine NM (some 39) ?_
          refine one_ (i := 6) (N := some 40) (tf 8 3) rfl rfl (one_of HT_.out (by kernel_rfl)) (by decide) (fun K hK => ?_)
          refine Kd.R_append_step k50 (w0 := w0) w0.heap.size (by rfl) (.tmp 37) (.tmp 39) 27 50 (.agg #[(.int .i64 0), (.string ⟨#[]⟩)]) 24 rfl Try.underlying27 info50 rfl (by decide) (by omega) (.slice Ao17 y617.length co17) y617 (⟨a1_0, a1_1⟩ : S50) [.int .i64 a1_0, .string a1_1] (fun k_ => (P0_1_ k_ ∨ w.heap.size ≤ k_) ∧ some k_ ≠ (v615 : Value).ownBlock ∧ k_ ≠ gb583) (fun _ => False) rfl rfl ?aP (fun _ hk => hk.elim) ?aF ?aO ?aB ?aS ?aL ?_
          (case aP => exact k50_mkM _ _ _ (⟨a1_0, a1_1⟩ : S50))
          (case aB => exact BG)
          (case aF => exact (fun k_ hk => ⟨(.inr (Nat.le_trans (by first | exact HK.out.1 | exact (show Kept w _ (fun k_ => P0_1_ k_) from by repeat (first | (with_reducible first | exact HK.out | apply Kept.alloc | apply Kept.drewN | apply Kept.drew | refine Kept.setCell ?_ (.inr GW582.out) _ | refine Kept.setCell ?_ (.inr GW583.out) _ | refine Kept.setCell ?_ (.inr GW584.out) _) | exact HK.out)).1) hk)), Kd.fresh' (Kd.R_lt (RD HO616)) k_ hk, Kd.freshB (g := gb583) (o := .cells #[.int .i64 a1_0, .string a1_1] 50 (0, 0)) (by (with_reducible repeat (first | refine blk_drewN ?_ _ | refine blk_drew ?_ | refine blk_alloc ?_ _)); exact BK583.out) k_ hk⟩))
          (case aO => exact (by (with_reducible repeat (first | apply Kd.R_alloc | apply Kd.R_drewN | apply Kd.R_drew)); exact Kd.R_mono HO619.out (fun _ hk => ⟨hk.1.1, ⟨hk.2, hk.1.2⟩⟩)))
          (case aS => exact (below_size BG))
          (case aL => have := LMc62.out; omega)
          intro v621 w74 ho hb hg hat
          rw [← Ny620.out] at ho
          have n0_ := Aside0.mk (blk_grown (g := gb582) (o := .cells #[.int .i64 a0_0, .slice Ao17 l0_1.length co17] 29 (0, 0)) (by (with_reducible repeat (first | refine blk_drewN ?_ _ | refine blk_drew ?_ | refine blk_alloc ?_ _)); exact BK582.out) hg (Kd.R_ne HO619.out BK582.out (by decide)))
          have n1_ := Aside0.mk (blk_grown (g := gb583) (o := .cells #[.int .i64 a1_0, .string a1_1] 50 (0, 0)) (by (with_reducible repeat (first | refine blk_drewN ?_ _ | refine blk_drew ?_ | refine blk_alloc ?_ _)); exact BK583.out) hg (Kd.R_away HO619.out (fun _ hk => hk.1.2)))
          have n2_ := Aside0.mk (blk_grown (g := gb584) (o := .cells #[.int .i64 0, .slice none 0 0] 29 (0, 0)) (by (with_reducible repeat (first | refine blk_drewN ?_ _ | refine blk_drew ?_ | refine blk_alloc ?_ _)); exact BK584.out) hg (Kd.R_ne HO619.out BK584.out (by decide)))
          have n3_ := Aside0.mk (Kd.R_after (ok := (fun k_ => (P0_1_ k_ ∨ w.heap.size ≤ k_) ∧ k_ ≠ gb583)) (by (with_reducible repeat (first | apply Kd.R_alloc | apply Kd.R_drewN | apply Kd.R_drew)); exact Kd.R_mono HO616.out (fun _ hk => ⟨⟨hk.1, hk.2.2⟩, OL hk.2.1⟩)) hg hat)
          have n4_ := Aside0.mk (hb)
          have n5_ := Aside0.mk (Kept.of_grown (S := (fun k_ => P0_1_ k_)) hg (by repeat (first | (with_reducible first | exact HK.out | apply Kept.alloc | apply Kept.drewN | apply Kept.drew | refine Kept.setCell ?_ (.inr GW582.out) _ | refine Kept.setCell ?_ (.inr GW583.out) _ | refine Kept.setCell ?_ (.inr GW584.out) _) | exact HK.out)) (fun k_ e_ => (HO619.out.1 k_ e_).1.1))
          have n6_ := Aside0.mk (ho)
          clear BK582
          clear BK583
          clear BK584
          clear HO616
          clear HB
          clear HK
          clear HO619
          have BK582 := n0_
          have BK583 := n1_
          have BK584 := n2_
          have HO616 := n3_
          have HB := n4_
          have HK := n5_
          have HO622 := n6_
          clear n0_ n1_ n2_ n3_ n4_ n5_ n6_
          clear ho hb hg hat
          obtain ⟨Ao76, co76, eo76⟩ := Kd.R_slice HO616.out
          (first | subst eo76 | (injection eo76 with f1_ f2_ f3_; have f4_ := f1_.symm; have f5_ := f3_.symm; clear f1_ f2_ f3_; subst f4_; subst f5_))
          refine hK.out _ _ ⟨(blk_cell BK582.out 0).trans rfl, (blk_cell BK582.out 1).trans rfl, (blk_cell BK583.out 0).trans rfl, (blk_cell BK583.out 1).trans rfl⟩ (fun hHeld => ?_)
          clear hK K
          refine NM (some 40) ?_
          refine one_ (i := 8) (N := some 42) (tf 9 2) rfl rfl (one_of HT_.out (by kernel_rfl)) (by decide) (fun K hK => ?_)
          refine Kd.R_append_rows_step k50 (w0 := w0) w0.heap.size (by rfl) (.tmp 40) (.tmp 41) 27 50 (.agg #[(.int .i64 0), (.string ⟨#[]⟩)]) 24 rfl Try.underlying27 info50 rfl (by decide) (by omega) v621 y620 y614 _ _ _ (fun k_ => (P0_1_ k_ ∨ w.heap.size ≤ k_) ∧ some k_ ≠ (.slice Ao76 y614.length co76 : Value).ownBlock ∧ k_ ≠ gb583) (fun _ => False) rfl rfl ?aO ?aR (fun _ _ h => h) (fun _ h => h.elim) ?aF ?aB ?aS ?aL ?_
          (case aR => repeat (first | exact (Kd.R_reads' HO616.out).2.2 | (with_reducible refine Kd.C_alloc ?_ _) | (with_reducible refine Kd.C_drewN ?_ _) | (with_reducible refine Kd.C_drew ?_)))
          (case aB => exact BG)
          (case aF => exact (fun k_ hk => ⟨(.inr (Nat.le_trans (by first | exact HK.out.1 | exact (show Kept w _ (fun k_ => P0_1_ k_) from by repeat (first | (with_reducible first | exact HK.out | apply Kept.alloc | apply Kept.drewN | apply Kept.drew | refine Kept.setCell ?_ (.inr GW582.out) _ | refine Kept.setCell ?_ (.inr GW583.out) _ | refine Kept.setCell ?_ (.inr GW584.out) _) | exact HK.out)).1) hk)), Kd.fresh' (Kd.R_lt (RD HO616)) k_ hk, Kd.freshB (g := gb583) (o := .cells #[.int .i64 a1_0, .string a1_1] 50 (0, 0)) (by (with_reducible repeat (first | refine blk_drewN ?_ _ | refine blk_drew ?_ | refine blk_alloc ?_ _)); exact BK583.out) k_ hk⟩))
          (case aO => exact (RD HO622))
          (case aS => exact (below_size BG))
          (case aL => have := LMc63.out; omega)
          intro v624 w75 ho hb hg hat
          rw [← Ny623.out] at ho
          have n0_ := Aside0.mk (blk_grown (g := gb582) (o := .cells #[.int .i64 a0_0, .slice Ao17 l0_1.length co17] 29 (0, 0)) (by (with_reducible repeat (first | refine blk_drewN ?_ _ | refine blk_drew ?_ | refine blk_alloc ?_ _)); exact BK582.out) hg (Kd.R_ne HO622.out BK582.out (by decide)))
          have n1_ := Aside0.mk (blk_grown (g := gb583) (o := .cells #[.int .i64 a1_0, .string a1_1] 50 (0, 0)) (by (with_reducible repeat (first | refine blk_drewN ?_ _ | refine blk_drew ?_ | refine blk_alloc ?_ _)); exact BK583.out) hg (Kd.R_away HO622.out (fun _ hk => hk.2.2)))
          have n2_ := Aside0.mk (blk_grown (g := gb584) (o := .cells #[.int .i64 0, .slice none 0 0] 29 (0, 0)) (by (with_reducible repeat (first | refine blk_drewN ?_ _ | refine blk_drew ?_ | refine blk_alloc ?_ _)); exact BK584.out) hg (Kd.R_ne HO622.out BK584.out (by decide)))
          have n3_ := Aside0.mk (Kd.R_after (ok := (fun k_ => (P0_1_ k_ ∨ w.heap.size ≤ k_) ∧ k_ ≠ gb583)) (RD HO616) hg hat)
          have n4_ := Aside0.mk (hb)
          have n5_ := Aside0.mk (Kept.of_grown (S := (fun k_ => P0_1_ k_)) hg (by repeat (first | (with_reducible first | exact HK.out | apply Kept.alloc | apply Kept.drewN | apply Kept.drew | refine Kept.setCell ?_ (.inr GW582.out) _ | refine Kept.setCell ?_ (.inr GW583.out) _ | refine Kept.setCell ?_ (.inr GW584.out) _) | exact HK.out)) (fun k_ e_ => (HO622.out.1 k_ e_).1))
          have n6_ := Aside0.mk (ho)
          clear BK582
          clear BK583
          clear BK584
          clear HO616
          clear HB
          clear HK
          clear HO622
          have BK582 := n0_
          have BK583 := n1_
          have BK584 := n2_
          have HO616 := n3_
          have HB := n4_
          have HK := n5_
          have HO625 := n6_
          clear n0_ n1_ n2_ n3_ n4_ n5_ n6_
          clear ho hb hg hat
          obtain ⟨Ao77, co77, eo77⟩ := Kd.R_slice HO625.out
          (first | subst eo77 | (injection eo77 with f1_ f2_ f3_; have f4_ := f1_.symm; have f5_ := f3_.symm; clear f1_ f2_ f3_; subst f4_; subst f5_))
          refine hK.out _ _ ⟨(blk_cell BK582.out 0).trans rfl, (blk_cell BK582.out 1).trans rfl, (blk_cell BK583.out 0).trans rfl, (blk_cell BK583.out 1).trans rfl⟩ (fun hHeld => ?_)
          clear hK K
          refine NM (some 42) ?_
          refine PU (i := 9) (N := some 43) (tf 10 1) rfl rfl HT_ ?_
          refine last_ (i := 10) (N := none) #[true, true, true, true, true, true, true, true, true, true, true] rfl rfl (one_of HT_.out (by kernel_rfl)) (by decide) (fun K hK => ?_)
          have hs78 : w75.cell? ⟨gb582, 1, none⟩ = some (.slice Ao17 l0_1.length co17) := (blk_cell BK582.out 1).trans rfl
          have hfs78 := blk_frozen BK582.out 1
          have hns78_1 := NB583_582.out
          have hns78_2 := NB584_582.out
          have hms78_1 := NB582_583.out
          have hms78_2 := NB582_584.out
          refine skip_ (w1 := ?_) (by rfl) rfl ?_ ?_
          rotate_left
          ·go_simp
           rfl
          refine hK.out _ _ ?_
          clear hK K
          refine done_ (done_of HT_.out (by kernel_rfl)) ?_
          obtain ⟨hcz79_0, hcz79_1, hfz79_0, hfz79_1⟩ := bk2 BK582.out
          have hnb80 := NB584_583.out
          have hnc80 := NB583_584.out
          obtain ⟨hcz81_0, hcz81_1, hfz81_0, hfz81_1⟩ := bk2 BK584.out
          try go_wp2
          refine bodyPost_ret (results_cell_row rfl _ _ gb584 29 #[.int .i64 a0_0, .slice Ao77 y623.length co77] (0, 0) _ rfl (by (with_reducible repeat (first | refine blk_drewN ?_ _ | refine blk_drew ?_ | refine blk_alloc ?_ _)); refine blk_put (cs := #[.int .i64 a0_0, .slice none 0 0]) ?_ 1 _ rfl; (with_reducible repeat (first | refine blk_drewN ?_ _ | refine blk_drew ?_ | refine blk_alloc ?_ _)); refine blk_put (cs := #[.int .i64 0, .slice none 0 0]) ?_ 0 _ rfl; (with_reducible repeat (first | refine blk_drewN ?_ _ | refine blk_drew ?_ | refine blk_alloc ?_ _)); refine blk_far ?_ NB584_582.out _; (with_reducible repeat (first | refine blk_drewN ?_ _ | refine blk_drew ?_ | refine blk_alloc ?_ _)); exact BK584.out) Try.underlying29 rfl (by kernel_rfl)) rfl ?_
          exact ⟨_, by first | rfl | (simp [errW_none, errW_some] <;> rfl) | (simp [*, errW_none, errW_some] <;> rfl), by (with_reducible repeat (first | apply Kd.R_alloc | apply Kd.R_drewN | apply Kd.R_drew)); exact Kd.R_mono (FR (FR (Kd.R_far (p := ⟨gb582, 1, none⟩) (Kd.R_types (Kd.R_types HO625.out BK582.out (by decide)) BK584.out (by decide)) (fun _ hk => hk.1.2) (.slice Ao77 y623.length co77)))) (fun _ hk => hk.1.1.1), by repeat (first | (with_reducible first | exact HB.out | apply below_alloc | apply pw_below_drewN | apply below_drew1 | refine below_set ?_ GE582.out | refine below_set ?_ GE583.out | refine below_set ?_ GE584.out) | exact HB.out), by repeat (first | (with_reducible first | exact HK.out | apply Kept.alloc | apply Kept.drewN | apply Kept.drew | refine Kept.setCell ?_ (.inr GW582.out) _ | refine Kept.setCell ?_ (.inr GW583.out) _ | refine Kept.setCell ?_ (.inr GW584.out) _) | exact HK.out)⟩
         ·rw [if_neg c63] at H
          exact absurd H (by simp)
        ·rw [if_neg c62] at H
         exact absurd H (by simp)
       ·rw [if_neg c60] at H
        exact absurd H (by simp)
      ·rw [if_neg c59] at H
       exact absurd H (by simp)
     ·rw [if_neg c58] at H
      exact absurd H (by simp)
def spec_l19Copy.f (a0_0 : Int) (l0_1 : List (S50)) : Option (Int × (List (S50))) := (some (([] : List (S50)) : List (S50))).bind fun y275 => (if y275.length + l0_1.length < 5864062014805 then (some (a0_0, (y275 ++ l0_1))) else (none))
set_option maxHeartbeats 8000000 in
set_option maxRecDepth 100000 in
theorem spec_l19Copy.calls (a0_0 : Int) (A0_1 : Option Addr) (c0_1 : Nat) (l0_1 : List (S50)) (r1 : Int) (r2 : List (S50)) (w : World) (hr0_1 : Kd.C k50 w A0_1 l0_1.length l0_1) (hc0_1 : l0_1.length ≤ c0_1) (h : spec_l19Copy.f a0_0 l0_1 = some (r1, r2)) :
  Calls Try.prog 53 #[.agg #[.int .i64 a0_0, .slice A0_1 l0_1.length c0_1]] w fun e w' => ∃ v1_ : Value, e = .returned (.agg #[.int .i64 r1, v1_]) ∧ Kd.R k50 50 w' w.heap.size (fun _ => True) v1_ r2 ∧ Below w.heap.size w w' := by
 have hu29 := Try.underlying29
 have HR0_1 := Aside0.mk hr0_1
 have HC0_1 := Aside0.mk hc0_1
 clear hr0_1 hc0_1
 have HB := Aside0.mk (Below.refl w.heap.size w)
 have H : ((some (([] : List (S50)) : List (S50))).bind fun y275 => (if y275.length + l0_1.length < 5864062014805 then (some (a0_0, (y275 ++ l0_1))) else (none))) = some (r1, r2) := h
 clear h
 obtain ⟨y275, hy275⟩ : ∃ y_ : List (S50), y_ = (([] : List (S50))) := ⟨_, rfl⟩
 replace H : (if y275.length + l0_1.length < 5864062014805 then (some (a0_0, (y275 ++ l0_1))) else (none)) = some (r1, r2) := by first | (rw [hy275]; with_reducible exact H) | (have H2_ := (Option.bind_some _ _).symm.trans H; rw [hy275]; with_reducible exact H2_) | (have H2_ := (Option.bind_some _ _).symm.trans H; with_reducible exact H2_) | with_reducible exact H | (rw [hy275]; exact H) | exact H
 have Ny275 := Aside0.mk hy275
 clear hy275
 by_cases c2 : y275.length + l0_1.length < 5864062014805
 ·rw [if_pos c2] at H
  have LMc2 := Aside0.mk c2
  clear c2
  obtain ⟨y278, hy278⟩ : ∃ y_ : List (S50), y_ = (y275 ++ l0_1) := ⟨_, rfl⟩
  replace H : (some (a0_0, y278)) = some (r1, r2) := by first | (rw [hy278]; with_reducible exact H) | (have H2_ := (Option.bind_some _ _).symm.trans H; rw [hy278]; with_reducible exact H2_) | (have H2_ := (Option.bind_some _ _).symm.trans H; with_reducible exact H2_) | with_reducible exact H | (rw [hy278]; exact H) | exact H
  have Ny278 := Aside0.mk hy278
  clear hy278
  simp only [Option.some.injEq, Prod.mk.injEq] at H
  obtain ⟨rfl, rfl⟩ := H
  go_enter Try.func53, Try.ntmps53
  go_wp2_with (first | ((with_reducible refine gate_dst (N := 1) rfl ?_); refine box_event ?hg (N := 1) ?hd (cs := #[.int .i64 a0_0, .slice A0_1 l0_1.length c0_1]) (t := 29) ?hr ?_; (case hd => rfl); (case hg => rfl); (case hr => first | (go_simp; done) | (go_simp; rfl)); intro gb273 hg w3 hbox hb; have n0_ := Aside0.mk (below_step BL hb); have n1_ := Aside0.mk (hbox); have n2_ := Aside0.mk ((by rw [hg]; exact (below_size BL) : w.heap.size ≤ gb273)); have n3_ := Aside0.mk ((by rw [hg]; exact (below_size BL) : w.heap.size ≤ gb273)); clear HB; have HB := n0_; have BK273 := n1_; have GW273 := n2_; have GE273 := n3_; clear n0_ n1_ n2_ n3_; clear hb hbox hg) | ((with_reducible refine gate_dst (N := 2) rfl ?_); refine box_event ?hg (N := 2) ?hd (cs := #[.int .i64 0, .slice none 0 0]) (t := 29) ?hr ?_; (case hd => rfl); (case hg => rfl); (case hr => first | (go_simp; done) | (go_simp; rfl)); intro gb274 hg w4 hbox hb; have n0_ := Aside0.mk (blk_below (BD BK273) hb); have n1_ := Aside0.mk (below_step BG hb); have n2_ := Aside0.mk (hbox); have n3_ := Aside0.mk ((by rw [hg]; exact (below_size BG) : w.heap.size ≤ gb274)); have n4_ := Aside0.mk ((by rw [hg]; exact (below_size BG) : w.heap.size ≤ gb274)); have n5_ := Aside0.mk ((by rw [hg]; exact Nat.ne_of_lt (blk_lt (BD BK273)) : gb273 ≠ gb274)); have n6_ := Aside0.mk ((by rw [hg]; exact Nat.ne_of_gt (blk_lt (BD BK273)) : gb274 ≠ gb273)); clear BK273; clear HB; have BK273 := n0_; have HB := n1_; have BK274 := n2_; have GW274 := n3_; have GE274 := n4_; have NB273_274 := n5_; have NB274_273 := n6_; clear n0_ n1_ n2_ n3_ n4_ n5_ n6_; clear hb hbox hg) | ((with_reducible refine gate_dst (N := 3) rfl ?_); refine Kd.R_lit k50 _ 50 ?hg (N := 3) ?hd (xs := ([] : List (S50))) (inner := []) (ok := fun _ => True) (okp := fun _ => True) ?hr ?hp (fun _ hk => hk) trivial (Below.refl _ _) (Nat.le_refl _) (by simp) ?_; (case hd => rfl); (case hg => rfl); (case hr => first | (go_simp; done) | (go_simp; rfl)); (case hp => exact (Reps.none _ _)); intro v276 w5 ho6 hb hg_ hnew_; clear hg_ hnew_; (first | rw [← Ny275.out] at ho6 | (simp only [Int.reduceToNat] at ho6; rw [← Ny275.out] at ho6)); have n0_ := Aside0.mk (Kd.R_lower ho6 (below_size BG)); have n1_ := Aside0.mk (blk_below (BD BK273) hb); have n2_ := Aside0.mk (blk_below (BD BK274) hb); have n3_ := Aside0.mk (below_step BG hb); clear BK273; clear BK274; clear HB; have HO277 := n0_; have BK273 := n1_; have BK274 := n2_; have HB := n3_; clear n0_ n1_ n2_ n3_; clear hb ho6; have hnb7 := NB273_274.out; have hnc7 := NB274_273.out; obtain ⟨hcz8_0, hcz8_1, hfz8_0, hfz8_1⟩ := bk2 BK273.out) | ((with_reducible refine gate_builtin (b := .append) (xs := #[.tmp 3, .tmp 5]) rfl ?_); at_builtin; refine Kd.R_append_rows k50 (w0 := w) w.heap.size rfl (.tmp 3) (.tmp 5) 27 50 (.agg #[(.int .i64 0), (.string ⟨#[]⟩)]) 24 rfl Try.underlying27 info50 rfl (by decide) (by omega) v276 y275 l0_1 _ _ _ (fun _ => True) (fun _ => False) rfl rfl ?aO ?aR (fun _ _ h => h) (fun _ h => h.elim) ?aF ?aB ?aS ?aL ?_; (case aR => repeat (first | exact (Kd.C_below HR0_1.out HB.out) | (with_reducible refine Kd.C_alloc ?_ _) | (with_reducible refine Kd.C_drewN ?_ _) | (with_reducible refine Kd.C_drew ?_))); (case aB => exact BG); (case aF => exact (fun _ _ => trivial)); (case aO => exact (RD HO277)); (case aS => exact (below_size BG)); (case aL => have := LMc2.out; omega); intro v279 w9 ho hb hg hat; rw [← Ny278.out] at ho; have n0_ := Aside0.mk (blk_grown (g := gb273) (o := .cells #[.int .i64 a0_0, .slice A0_1 l0_1.length c0_1] 29 (0, 0)) (by (with_reducible repeat (first | refine blk_drewN ?_ _ | refine blk_drew ?_ | refine blk_alloc ?_ _)); exact BK273.out) hg (Kd.R_ne HO277.out BK273.out (by decide))); have n1_ := Aside0.mk (blk_grown (g := gb274) (o := .cells #[.int .i64 0, .slice none 0 0] 29 (0, 0)) (by (with_reducible repeat (first | refine blk_drewN ?_ _ | refine blk_drew ?_ | refine blk_alloc ?_ _)); exact BK274.out) hg (Kd.R_ne HO277.out BK274.out (by decide))); have n2_ := Aside0.mk (hb); have n3_ := Aside0.mk (ho); clear BK273; clear BK274; clear HB; clear HO277; have BK273 := n0_; have BK274 := n1_; have HB := n2_; have HO280 := n3_; clear n0_ n1_ n2_ n3_; clear ho hb hg hat; obtain ⟨Ao10, co10, eo10⟩ := Kd.R_slice HO280.out; subst eo10; obtain ⟨hcz11_0, hcz11_1, hfz11_0, hfz11_1⟩ := bk2 BK273.out; obtain ⟨hcz12_0, hcz12_1, hfz12_0, hfz12_1⟩ := bk2 BK274.out))
  refine bodyPost_ret (results_cell_row rfl _ _ gb274 29 #[.int .i64 a0_0, .slice Ao10 y278.length co10] (0, 0) _ rfl (by (with_reducible repeat (first | refine blk_drewN ?_ _ | refine blk_drew ?_ | refine blk_alloc ?_ _)); refine blk_put (cs := #[.int .i64 a0_0, .slice none 0 0]) ?_ 1 _ rfl; (with_reducible repeat (first | refine blk_drewN ?_ _ | refine blk_drew ?_ | refine blk_alloc ?_ _)); refine blk_put (cs := #[.int .i64 0, .slice none 0 0]) ?_ 0 _ rfl; (with_reducible repeat (first | refine blk_drewN ?_ _ | refine blk_drew ?_ | refine blk_alloc ?_ _)); refine blk_far ?_ NB274_273.out _; (with_reducible repeat (first | refine blk_drewN ?_ _ | refine blk_drew ?_ | refine blk_alloc ?_ _)); exact BK274.out) Try.underlying29 rfl (by kernel_rfl)) rfl ?_
  exact ⟨_, by first | rfl | (simp [errW_none, errW_some] <;> rfl) | (simp [*, errW_none, errW_some] <;> rfl), by (with_reducible repeat (first | apply Kd.R_alloc | apply Kd.R_drewN | apply Kd.R_drew)); exact Kd.R_mono (FR (FR (Kd.R_far (p := ⟨gb273, 1, none⟩) (Kd.R_types (Kd.R_types HO280.out BK273.out (by decide)) BK274.out (by decide)) (fun _ hk => hk.1.2) (.slice Ao10 y278.length co10)))) (fun _ hk => trivial), BG⟩
 ·rw [if_neg c2] at H
  exact absurd H (by simp)
def spec_l19Split.f : Nat → Int → List (S50) → Int → Option (Int × (List (S50)))
 | 0, _, _, _ => none
 | k + 1, a0_0, l0_1, a1 => (spec_l19Dummy.f k a1).bind fun bt628 => ((spec_l19Put.f k a0_0 l0_1 bt628.1 bt628.2).bind fun bt630 => (if a1 = 0 then (some (bt630.1, bt630.2)) else ((spec_Parent.f k a1).bind fun t634 => ((spec_l19Split.f k bt630.1 bt630.2 t634).bind fun bt635 => (some (bt635.1, bt635.2))))))
theorem spec_l19Split.mono_l : ∀ k, (∀ y0 y1 y2, LeO (spec_l19Split.f k y0 y1 y2) (spec_l19Split.f (k + 1) y0 y1 y2))
 | 0 => fun _ _ _ r h => by simp [spec_l19Split.f] at h
 | k + 1 => by
  have ih0 := spec_l19Split.mono_l k
  ·intro y0 y1 y2
   unfold spec_l19Split.f
   repeat' first | (with_reducible first | exact ih0 _ _ _ | exact spec_Parent.mono _ _ | exact spec_l19Dummy.mono _ _ | exact spec_l19Put.mono _ _ _ _ _ | exact LeO.refl _ | exact LeO.none _ | refine LeO.ite ?_ ?_ | refine LeO.bind ?_ (fun _ => ?_)) | exact ih0 _ _ _ | exact spec_Parent.mono _ _ | exact spec_l19Dummy.mono _ _ | exact spec_l19Put.mono _ _ _ _ _ | exact LeO.none _ | refine LeO.ite ?_ ?_ | refine LeO.bind ?_ (fun _ => ?_)
theorem spec_l19Split.mono : ∀ a0 a1 a2 k, LeO (spec_l19Split.f k a0 a1 a2) (spec_l19Split.f (k + 1) a0 a1 a2) := by
 intro a0 a1 a2 k
 have ih0 := spec_l19Split.mono_l k
 exact ih0 a0 a1 a2
set_option maxHeartbeats 8000000 in
set_option maxRecDepth 100000 in
theorem spec_l19Split.calls (k : Nat) : ∀ (a0_0 : Int) (P0_1_ : Nat → Prop) (u9000_ : Value) (l0_1 : List (S50)) (a1 : Int) (r1 : Int) (r2 : List (S50)) (w0 w : World) (hB : Below w0.heap.size w0 w) (ho0_1 : Kd.R k50 50 w w0.heap.size P0_1_ u9000_ l0_1) (h : spec_l19Split.f k a0_0 l0_1 a1 = some (r1, r2)),
  Calls Try.prog 61 #[.agg #[.int .i64 a0_0, u9000_], .int .i64 a1] w fun e w' => ∃ v1_ : Value, e = .returned (.agg #[.int .i64 r1, v1_]) ∧ Kd.R k50 50 w' w0.heap.size (fun k_ => (P0_1_ k_ ∨ w.heap.size ≤ k_)) v1_ r2 ∧ Below w0.heap.size w0 w' ∧ Kept w w' (fun k_ => P0_1_ k_) := by
 induction k using Nat.strongRecOn with
 | _ k ih =>
 intro a0_0 P0_1_ u9000_ l0_1 a1 r1 r2 w0 w hB ho0_1 h
 cases k with
 | zero => exact absurd h (by simp [spec_l19Split.f])
 | succ k =>
 simp only [spec_l19Split.f] at h
 have hu29 := Try.underlying29
 have HO0_1 := Aside0.mk (show Kd.R k50 50 w w0.heap.size (fun k_ => (P0_1_ k_ ∨ w.heap.size ≤ k_)) u9000_ l0_1 from Kd.R_mono ho0_1 (fun k_ hk => (.inl hk)))
 have HK := Aside0.mk (Kept.refl w (fun k_ => P0_1_ k_))
 have HW0 := Aside0.mk hB.size
 have HB := Aside0.mk hB
 clear hB
 have H : ((spec_l19Dummy.f k a1).bind fun bt628 => ((spec_l19Put.f k a0_0 l0_1 bt628.1 bt628.2).bind fun bt630 => (if a1 = 0 then (some (bt630.1, bt630.2)) else ((spec_Parent.f k a1).bind fun t634 => ((spec_l19Split.f k bt630.1 bt630.2 t634).bind fun bt635 => (some (bt635.1, bt635.2))))))) = some (r1, r2) := h
 clear h
 replace H := BS H
 obtain ⟨⟨t628, t629⟩, A30, H⟩ := H
 have A3 := Aside0.mk A30
 clear A30
 replace H := BS H
 obtain ⟨⟨t630, t631⟩, A40, H⟩ := H
 have A4 := Aside0.mk A40
 clear A40
 by_cases c5 : a1 = 0
 ·rw [if_pos c5] at H
  have c5b0 : (a1 == 0) = true := beq_iff_eq.mpr c5
  have c5b1 : (a1 != 0) = false := bne_eq_false_iff_eq.mpr c5
  clear c5
  simp only [Option.some.injEq, Prod.mk.injEq] at H
  obtain ⟨rfl, rfl⟩ := H
  obtain ⟨Ao6, co6, eo6⟩ := Kd.R_slice HO0_1.out
  subst eo6
  go_enter Try.func61, Try.ntmps61
  try go_wp2_with (first | ((with_reducible refine gate_dst (N := 2) rfl ?_); refine box_event ?hg (N := 2) ?hd (cs := #[.int .i64 a0_0, .slice Ao6 l0_1.length co6]) (t := 29) ?hr ?_; (case hd => rfl); (case hg => rfl); (case hr => first | (go_simp; done) | (go_simp; rfl)); intro gb626 hg w7 hbox hb; have n0_ := Aside0.mk (Kd.R_below (RD HO0_1) hb); have n1_ := Aside0.mk (Kept.below (S := (fun k_ => P0_1_ k_)) (by repeat (first | (with_reducible first | exact HK.out | apply Kept.alloc | apply Kept.drewN | apply Kept.drew) | exact HK.out)) hb); have n2_ := Aside0.mk (below_step BL hb); have n3_ := Aside0.mk (hbox); have n4_ := Aside0.mk ((by rw [hg]; exact (by first | exact HK.out.1 | exact (show Kept w _ (fun k_ => P0_1_ k_) from by repeat (first | (with_reducible first | exact HK.out | apply Kept.alloc | apply Kept.drewN | apply Kept.drew) | exact HK.out)).1) : w.heap.size ≤ gb626)); have n5_ := Aside0.mk ((by rw [hg]; exact (below_size BL) : w0.heap.size ≤ gb626)); clear HO0_1; clear HK; clear HB; have HO0_1 := n0_; have HK := n1_; have HB := n2_; have BK626 := n3_; have GW626 := n4_; have GE626 := n5_; clear n0_ n1_ n2_ n3_ n4_ n5_; clear hb hbox hg) | ((with_reducible refine gate_dst (N := 4) rfl ?_); refine box_event ?hg (N := 4) ?hd (cs := #[.int .i64 0, .slice none 0 0]) (t := 29) ?hr ?_; (case hd => rfl); (case hg => rfl); (case hr => first | (go_simp; done) | (go_simp; rfl)); intro gb627 hg w8 hbox hb; have n0_ := Aside0.mk (Kd.R_below (RD HO0_1) hb); have n1_ := Aside0.mk (blk_below (BD BK626) hb); have n2_ := Aside0.mk (Kept.below (S := (fun k_ => P0_1_ k_)) (by repeat (first | (with_reducible first | exact HK.out | apply Kept.alloc | apply Kept.drewN | apply Kept.drew | refine Kept.setCell ?_ (.inr GW626.out) _) | exact HK.out)) hb); have n3_ := Aside0.mk (below_step BG hb); have n4_ := Aside0.mk (hbox); have n5_ := Aside0.mk ((by rw [hg]; exact (by first | exact HK.out.1 | exact (show Kept w _ (fun k_ => P0_1_ k_) from by repeat (first | (with_reducible first | exact HK.out | apply Kept.alloc | apply Kept.drewN | apply Kept.drew | refine Kept.setCell ?_ (.inr GW626.out) _) | exact HK.out)).1) : w.heap.size ≤ gb627)); have n6_ := Aside0.mk ((by rw [hg]; exact (below_size BG) : w0.heap.size ≤ gb627)); have n7_ := Aside0.mk ((by rw [hg]; exact Nat.ne_of_lt (blk_lt (BD BK626)) : gb626 ≠ gb627)); have n8_ := Aside0.mk ((by rw [hg]; exact Nat.ne_of_gt (blk_lt (BD BK626)) : gb627 ≠ gb626)); clear HO0_1; clear BK626; clear HK; clear HB; have HO0_1 := n0_; have BK626 := n1_; have HK := n2_; have HB := n3_; have BK627 := n4_; have GW627 := n5_; have GE627 := n6_; have NB626_627 := n7_; have NB627_626 := n8_; clear n0_ n1_ n2_ n3_ n4_ n5_ n6_ n7_ n8_; clear hb hbox hg))
  have n0_ := Aside0.mk (Kd.R_drew HO0_1.out)
  have n1_ := Aside0.mk (blk_drew BK626.out)
  have n2_ := Aside0.mk (blk_drew BK627.out)
  have n3_ := Aside0.mk (Kept.drew HK.out)
  have n4_ := Aside0.mk (below_drew1 HB.out)
  clear HO0_1
  clear BK626
  clear BK627
  clear HK
  clear HB
  have HO0_1 := n0_
  have BK626 := n1_
  have BK627 := n2_
  have HK := n3_
  have HB := n4_
  clear n0_ n1_ n2_ n3_ n4_
  refine start_ (n := 5) (S := fun w' => w'.cell? ⟨gb626, 0, none⟩ = some (.int .i64 a0_0) ∧ w'.cell? ⟨gb626, 1, none⟩ = some (.slice Ao6 l0_1.length co6)) (ds := [4]) #[false, false, false, false, false] (by kernel_rfl) rfl rfl ⟨(blk_cell BK626.out 0).trans rfl, (blk_cell BK626.out 1).trans rfl⟩ (fun hHeld => ?_)
  generalize w8.drew = w9 at HO0_1 BK626 BK627 HK HB hHeld ⊢
  refine PV (i := 1) (N := some 6) #[false, true, false, false, false] rfl rfl ?_
  refine PK (i := 0) (N := some 5) (tf 2 3) rfl rfl hHeld ?_
  refine one_ (i := 2) (N := some 7) (tf 3 2) rfl rfl (by kernel_rfl) (by decide) (fun K hK => ?_)
  refine goes_ Try.func38 (by kernel_rfl) rfl #[.int .i64 a1] (by rfl) rfl rfl AQ ?_
  with_reducible refine (spec_l19Dummy.calls k a1 t628 t629 _ A3.out).mono ?_
  rintro e w10 ⟨rfl, hb⟩
  refine ⟨_, rfl, ?_⟩
  have n0_ := Aside0.mk (Kd.R_below (RD HO0_1) hb)
  have n1_ := Aside0.mk (blk_below (BD BK626) hb)
  have n2_ := Aside0.mk (blk_below (BD BK627) hb)
  have n3_ := Aside0.mk (Kept.below (S := (fun k_ => P0_1_ k_)) (by repeat (first | (with_reducible first | exact HK.out | apply Kept.alloc | apply Kept.drewN | apply Kept.drew | refine Kept.setCell ?_ (.inr GW626.out) _ | refine Kept.setCell ?_ (.inr GW627.out) _) | exact HK.out)) hb)
  have n4_ := Aside0.mk (below_step BG hb)
  clear HO0_1
  clear BK626
  clear BK627
  clear HK
  clear HB
  have HO0_1 := n0_
  have BK626 := n1_
  have BK627 := n2_
  have HK := n3_
  have HB := n4_
  clear n0_ n1_ n2_ n3_ n4_
  (try clear hb)
  (try clear hb2)
  (try clear hk)
  (try clear hi)
  refine hK.out _ _ ⟨(blk_cell BK626.out 0).trans rfl, (blk_cell BK626.out 1).trans rfl⟩ (fun hHeld => ?_)
  clear hK K
  refine NM (some 7) ?_
  refine one_ (i := 3) (N := some 8) (tf 4 1) rfl rfl (by kernel_rfl) (by decide) (fun K hK => ?_)
  refine goes_ Try.func65 (by kernel_rfl) rfl #[.agg #[.int .i64 a0_0, .slice Ao6 l0_1.length co6], .agg #[.int .i64 t628, .string t629]] (by rfl) rfl rfl AQ ?_
  with_reducible refine (spec_l19Put.calls k a0_0 (fun k_ => some k_ = (.slice Ao6 l0_1.length co6 : Value).ownBlock) (.slice Ao6 l0_1.length co6) l0_1 t628 t629 t630 t631 w0 _ ?side1 ?side2 A4.out).mono ?_
  (case side1 => repeat (first | (with_reducible first | exact HB.out | apply below_alloc | apply pw_below_drewN | apply below_drew1 | refine below_set ?_ GE626.out | refine below_set ?_ GE627.out) | exact HB.out))
  (case side2 => exact Kd.R_tight rfl HO0_1.out)
  rintro e w11 ⟨v632, rfl, ho0, hb, hkp⟩
  refine ⟨_, rfl, ?_⟩
  have n0_ := Aside0.mk (blk_kept (by (with_reducible repeat (first | refine blk_drewN ?_ _ | refine blk_drew ?_ | refine blk_alloc ?_ _)); exact BK626.out) hkp (fun hs_ => (fun e_ => (Kd.R_ne HO0_1.out BK626.out (by decide)) e_) hs_))
  have n1_ := Aside0.mk (blk_kept (by (with_reducible repeat (first | refine blk_drewN ?_ _ | refine blk_drew ?_ | refine blk_alloc ?_ _)); exact BK627.out) hkp (fun hs_ => (fun e_ => (Kd.R_ne HO0_1.out BK627.out (by decide)) e_) hs_))
  have n2_ := Aside0.mk (Kd.R_mono (ok' := fun k_ => (P0_1_ k_ ∨ w.heap.size ≤ k_)) ho0 (fun k_ hk_ => Or.elim hk_ (fun hs_ => (HO0_1.out.1 k_ (hs_).symm)) (fun hn_ => (.inr (Nat.le_trans (by first | exact HK.out.1 | exact (show Kept w _ (fun k_ => P0_1_ k_) from by repeat (first | (with_reducible first | exact HK.out | apply Kept.alloc | apply Kept.drewN | apply Kept.drew | refine Kept.setCell ?_ (.inr GW626.out) _ | refine Kept.setCell ?_ (.inr GW627.out) _) | exact HK.out)).1) hn_)))))
  have n3_ := Aside0.mk (Kept.then_ (S := (fun k_ => P0_1_ k_)) (by repeat (first | (with_reducible first | exact HK.out | apply Kept.alloc | apply Kept.drewN | apply Kept.drew | refine Kept.setCell ?_ (.inr GW626.out) _ | refine Kept.setCell ?_ (.inr GW627.out) _) | exact HK.out)) hkp (fun k_ hs_ => (fun e_ => (HO0_1.out.1 k_ e_.symm)) hs_))
  have n4_ := Aside0.mk (hb)
  clear BK626
  clear BK627
  clear HK
  clear HB
  clear HO0_1
  have BK626 := n0_
  have BK627 := n1_
  have HO633 := n2_
  have HK := n3_
  have HB := n4_
  clear n0_ n1_ n2_ n3_ n4_
  (try clear hb)
  (try clear hkp)
  (try clear ho0)
  obtain ⟨Ao13, co13, eo13⟩ := Kd.R_slice HO633.out
  (first | subst eo13 | (injection eo13 with f1_ f2_ f3_; have f4_ := f1_.symm; have f5_ := f3_.symm; clear f1_ f2_ f3_; subst f4_; subst f5_))
  refine hK.out _ _ ⟨(blk_cell BK626.out 0).trans rfl, (blk_cell BK626.out 1).trans rfl⟩ (fun hHeld => ?_)
  clear hK K
  refine NM (some 8) ?_
  refine last_ (i := 4) (N := none) #[true, true, true, true, true] rfl rfl (by kernel_rfl) (by decide) (fun K hK => ?_)
  have hs12 : w11.cell? ⟨gb626, 0, none⟩ = some (.int .i64 a0_0) := (blk_cell BK626.out 0).trans rfl
  have hfs12 := blk_frozen BK626.out 0
  have hns12_1 := NB627_626.out
  have hms12_1 := NB626_627.out
  have hs14 : w11.cell? ⟨gb626, 1, none⟩ = some (.slice Ao6 l0_1.length co6) := (blk_cell BK626.out 1).trans rfl
  have hfs14 := blk_frozen BK626.out 1
  have hns14_1 := NB627_626.out
  have hms14_1 := NB626_627.out
  refine skip_ (w1 := ?_) (by rfl) rfl ?_ ?_
  rotate_left
  ·go_simp
   rfl
  refine hK.out _ _ ?_
  clear hK K
  refine done_ (by kernel_rfl) ?_
  have hnb15 := NB626_627.out
  have hnc15 := NB627_626.out
  obtain ⟨hcz16_0, hcz16_1, hfz16_0, hfz16_1⟩ := bk2 BK626.out
  obtain ⟨hcz17_0, hcz17_1, hfz17_0, hfz17_1⟩ := bk2 BK627.out
  try go_wp2
  refine bodyPost_ret (results_cell_row rfl _ _ gb627 29 #[.int .i64 t630, .slice Ao13 t631.length co13] (0, 0) _ rfl (by (with_reducible repeat (first | refine blk_drewN ?_ _ | refine blk_drew ?_ | refine blk_alloc ?_ _)); refine blk_put (cs := #[.int .i64 t630, .slice none 0 0]) ?_ 1 _ rfl; (with_reducible repeat (first | refine blk_drewN ?_ _ | refine blk_drew ?_ | refine blk_alloc ?_ _)); refine blk_put (cs := #[.int .i64 0, .slice none 0 0]) ?_ 0 _ rfl; (with_reducible repeat (first | refine blk_drewN ?_ _ | refine blk_drew ?_ | refine blk_alloc ?_ _)); refine blk_far ?_ NB627_626.out _; (with_reducible repeat (first | refine blk_drewN ?_ _ | refine blk_drew ?_ | refine blk_alloc ?_ _)); refine blk_far ?_ NB627_626.out _; (with_reducible repeat (first | refine blk_drewN ?_ _ | refine blk_drew ?_ | refine blk_alloc ?_ _)); exact BK627.out) Try.underlying29 rfl (by kernel_rfl)) rfl ?_
  exact ⟨_, by first | rfl | (simp [errW_none, errW_some] <;> rfl) | (simp [*, errW_none, errW_some] <;> rfl), by (with_reducible repeat (first | apply Kd.R_alloc | apply Kd.R_drewN | apply Kd.R_drew)); exact Kd.R_mono (FR (FR (Kd.R_far (p := ⟨gb626, 1, none⟩) (Kd.R_far (p := ⟨gb626, 0, none⟩) (Kd.R_types (Kd.R_types HO633.out BK626.out (by decide)) BK627.out (by decide)) (fun _ hk => hk.1.2) (.int .i64 t630)) (fun _ hk => hk.1.2) (.slice Ao13 t631.length co13)))) (fun _ hk => hk.1.1), by repeat (first | (with_reducible first | exact HB.out | apply below_alloc | apply pw_below_drewN | apply below_drew1 | refine below_set ?_ GE626.out | refine below_set ?_ GE627.out) | exact HB.out), by repeat (first | (with_reducible first | exact HK.out | apply Kept.alloc | apply Kept.drewN | apply Kept.drew | refine Kept.setCell ?_ (.inr GW626.out) _ | refine Kept.setCell ?_ (.inr GW627.out) _) | exact HK.out)⟩
 ·rw [if_neg c5] at H
  have c5b0 : (a1 == 0) = false := beq_eq_false_iff_ne.mpr c5
  have c5b1 : (a1 != 0) = true := bne_iff_ne.mpr c5
  replace H := BS H
  obtain ⟨t634, A180, H⟩ := H
  have A18 := Aside0.mk A180
  clear A180
  replace H := BS H
  obtain ⟨⟨t635, t636⟩, A190, H⟩ := H
  have A19 := Aside0.mk A190
  clear A190
  simp only [Option.some.injEq, Prod.mk.injEq] at H
  obtain ⟨rfl, rfl⟩ := H
  obtain ⟨Ao20, co20, eo20⟩ := Kd.R_slice HO0_1.out
  subst eo20
  go_enter Try.func61, Try.ntmps61
  try go_wp2_with (first | ((with_reducible refine gate_dst (N := 2) rfl ?_); refine box_event ?hg (N := 2) ?hd (cs := #[.int .i64 a0_0, .slice Ao20 l0_1.length co20]) (t := 29) ?hr ?_; (case hd => rfl); (case hg => rfl); (case hr => first | (go_simp; done) | (go_simp; rfl)); intro gb626 hg w21 hbox hb; have n0_ := Aside0.mk (Kd.R_below (RD HO0_1) hb); have n1_ := Aside0.mk (Kept.below (S := (fun k_ => P0_1_ k_)) (by repeat (first | (with_reducible first | exact HK.out | apply Kept.alloc | apply Kept.drewN | apply Kept.drew) | exact HK.out)) hb); have n2_ := Aside0.mk (below_step BL hb); have n3_ := Aside0.mk (hbox); have n4_ := Aside0.mk ((by rw [hg]; exact (by first | exact HK.out.1 | exact (show Kept w _ (fun k_ => P0_1_ k_) from by repeat (first | (with_reducible first | exact HK.out | apply Kept.alloc | apply Kept.drewN | apply Kept.drew) | exact HK.out)).1) : w.heap.size ≤ gb626)); have n5_ := Aside0.mk ((by rw [hg]; exact (below_size BL) : w0.heap.size ≤ gb626)); clear HO0_1; clear HK; clear HB; have HO0_1 := n0_; have HK := n1_; have HB := n2_; have BK626 := n3_; have GW626 := n4_; have GE626 := n5_; clear n0_ n1_ n2_ n3_ n4_ n5_; clear hb hbox hg) | ((with_reducible refine gate_dst (N := 4) rfl ?_); refine box_event ?hg (N := 4) ?hd (cs := #[.int .i64 0, .slice none 0 0]) (t := 29) ?hr ?_; (case hd => rfl); (case hg => rfl); (case hr => first | (go_simp; done) | (go_simp; rfl)); intro gb627 hg w22 hbox hb; have n0_ := Aside0.mk (Kd.R_below (RD HO0_1) hb); have n1_ := Aside0.mk (blk_below (BD BK626) hb); have n2_ := Aside0.mk (Kept.below (S := (fun k_ => P0_1_ k_)) (by repeat (first | (with_reducible first | exact HK.out | apply Kept.alloc | apply Kept.drewN | apply Kept.drew | refine Kept.setCell ?_ (.inr GW626.out) _) | exact HK.out)) hb); have n3_ := Aside0.mk (below_step BG hb); have n4_ := Aside0.mk (hbox); have n5_ := Aside0.mk ((by rw [hg]; exact (by first | exact HK.out.1 | exact (show Kept w _ (fun k_ => P0_1_ k_) from by repeat (first | (with_reducible first | exact HK.out | apply Kept.alloc | apply Kept.drewN | apply Kept.drew | refine Kept.setCell ?_ (.inr GW626.out) _) | exact HK.out)).1) : w.heap.size ≤ gb627)); have n6_ := Aside0.mk ((by rw [hg]; exact (below_size BG) : w0.heap.size ≤ gb627)); have n7_ := Aside0.mk ((by rw [hg]; exact Nat.ne_of_lt (blk_lt (BD BK626)) : gb626 ≠ gb627)); have n8_ := Aside0.mk ((by rw [hg]; exact Nat.ne_of_gt (blk_lt (BD BK626)) : gb627 ≠ gb626)); clear HO0_1; clear BK626; clear HK; clear HB; have HO0_1 := n0_; have BK626 := n1_; have HK := n2_; have HB := n3_; have BK627 := n4_; have GW627 := n5_; have GE627 := n6_; have NB626_627 := n7_; have NB627_626 := n8_; clear n0_ n1_ n2_ n3_ n4_ n5_ n6_ n7_ n8_; clear hb hbox hg))
  have n0_ := Aside0.mk (Kd.R_drew HO0_1.out)
  have n1_ := Aside0.mk (blk_drew BK626.out)
  have n2_ := Aside0.mk (blk_drew BK627.out)
  have n3_ := Aside0.mk (Kept.drew HK.out)
  have n4_ := Aside0.mk (below_drew1 HB.out)
  clear HO0_1
  clear BK626
  clear BK627
  clear HK
  clear HB
  have HO0_1 := n0_
  have BK626 := n1_
  have BK627 := n2_
  have HK := n3_
  have HB := n4_
  clear n0_ n1_ n2_ n3_ n4_
  refine start_ (n := 5) (S := fun w' => w'.cell? ⟨gb626, 0, none⟩ = some (.int .i64 a0_0) ∧ w'.cell? ⟨gb626, 1, none⟩ = some (.slice Ao20 l0_1.length co20)) (ds := [4]) #[false, false, false, false, false] (by kernel_rfl) rfl rfl ⟨(blk_cell BK626.out 0).trans rfl, (blk_cell BK626.out 1).trans rfl⟩ (fun hHeld => ?_)
  generalize w22.drew = w23 at HO0_1 BK626 BK627 HK HB hHeld ⊢
  refine PV (i := 1) (N := some 6) #[false, true, false, false, false] rfl rfl ?_
  refine PK (i := 0) (N := some 5) (tf 2 3) rfl rfl hHeld ?_
  refine one_ (i := 2) (N := some 7) (tf 3 2) rfl rfl (by kernel_rfl) (by decide) (fun K hK => ?_)
  refine goes_ Try.func38 (by kernel_rfl) rfl #[.int .i64 a1] (by rfl) rfl rfl AQ ?_
  with_reducible refine (spec_l19Dummy.calls k a1 t628 t629 _ A3.out).mono ?_
  rintro e w24 ⟨rfl, hb⟩
  refine ⟨_, rfl, ?_⟩
  have n0_ := Aside0.mk (Kd.R_below (RD HO0_1) hb)
  have n1_ := Aside0.mk (blk_below (BD BK626) hb)
  have n2_ := Aside0.mk (blk_below (BD BK627) hb)
  have n3_ := Aside0.mk (Kept.below (S := (fun k_ => P0_1_ k_)) (by repeat (first | (with_reducible first | exact HK.out | apply Kept.alloc | apply Kept.drewN | apply Kept.drew | refine Kept.setCell ?_ (.inr GW626.out) _ | refine Kept.setCell ?_ (.inr GW627.out) _) | exact HK.out)) hb)
  have n4_ := Aside0.mk (below_step BG hb)
  clear HO0_1
  clear BK626
  clear BK627
  clear HK
  clear HB
  have HO0_1 := n0_
  have BK626 := n1_
  have BK627 := n2_
  have HK := n3_
  have HB := n4_
  clear n0_ n1_ n2_ n3_ n4_
  (try clear hb)
  (try clear hb2)
  (try clear hk)
  (try clear hi)
  refine hK.out _ _ ⟨(blk_cell BK626.out 0).trans rfl, (blk_cell BK626.out 1).trans rfl⟩ (fun hHeld => ?_)
  clear hK K
  refine NM (some 7) ?_
  refine one_ (i := 3) (N := some 8) (tf 4 1) rfl rfl (by kernel_rfl) (by decide) (fun K hK => ?_)
  refine goes_ Try.func65 (by kernel_rfl) rfl #[.agg #[.int .i64 a0_0, .slice Ao20 l0_1.length co20], .agg #[.int .i64 t628, .string t629]] (by rfl) rfl rfl AQ ?_
  with_reducible refine (spec_l19Put.calls k a0_0 (fun k_ => some k_ = (.slice Ao20 l0_1.length co20 : Value).ownBlock) (.slice Ao20 l0_1.length co20) l0_1 t628 t629 t630 t631 w0 _ ?side1 ?side2 A4.out).mono ?_
  (case side1 => repeat (first | (with_reducible first | exact HB.out | apply below_alloc | apply pw_below_drewN | apply below_drew1 | refine below_set ?_ GE626.out | refine below_set ?_ GE627.out) | exact HB.out))
  (case side2 => exact Kd.R_tight rfl HO0_1.out)
  rintro e w25 ⟨v632, rfl, ho0, hb, hkp⟩
  refine ⟨_, rfl, ?_⟩
  have n0_ := Aside0.mk (blk_kept (by (with_reducible repeat (first | refine blk_drewN ?_ _ | refine blk_drew ?_ | refine blk_alloc ?_ _)); exact BK626.out) hkp (fun hs_ => (fun e_ => (Kd.R_ne HO0_1.out BK626.out (by decide)) e_) hs_))
  have n1_ := Aside0.mk (blk_kept (by (with_reducible repeat (first | refine blk_drewN ?_ _ | refine blk_drew ?_ | refine blk_alloc ?_ _)); exact BK627.out) hkp (fun hs_ => (fun e_ => (Kd.R_ne HO0_1.out BK627.out (by decide)) e_) hs_))
  have n2_ := Aside0.mk (Kd.R_mono (ok' := fun k_ => (P0_1_ k_ ∨ w.heap.size ≤ k_)) ho0 (fun k_ hk_ => Or.elim hk_ (fun hs_ => (HO0_1.out.1 k_ (hs_).symm)) (fun hn_ => (.inr (Nat.le_trans (by first | exact HK.out.1 | exact (show Kept w _ (fun k_ => P0_1_ k_) from by repeat (first | (with_reducible first | exact HK.out | apply Kept.alloc | apply Kept.drewN | apply Kept.drew | refine Kept.setCell ?_ (.inr GW626.out) _ | refine Kept.setCell ?_ (.inr GW627.out) _) | exact HK.out)).1) hn_)))))
  have n3_ := Aside0.mk (Kept.then_ (S := (fun k_ => P0_1_ k_)) (by repeat (first | (with_reducible first | exact HK.out | apply Kept.alloc | apply Kept.drewN | apply Kept.drew | refine Kept.setCell ?_ (.inr GW626.out) _ | refine Kept.setCell ?_ (.inr GW627.out) _) | exact HK.out)) hkp (fun k_ hs_ => (fun e_ => (HO0_1.out.1 k_ e_.symm)) hs_))
  have n4_ := Aside0.mk (hb)
  clear BK626
  clear BK627
  clear HK
  clear HB
  clear HO0_1
  have BK626 := n0_
  have BK627 := n1_
  have HO633 := n2_
  have HK := n3_
  have HB := n4_
  clear n0_ n1_ n2_ n3_ n4_
  (try clear hb)
  (try clear hkp)
  (try clear ho0)
  obtain ⟨Ao27, co27, eo27⟩ := Kd.R_slice HO633.out
  (first | subst eo27 | (injection eo27 with f1_ f2_ f3_; have f4_ := f1_.symm; have f5_ := f3_.symm; clear f1_ f2_ f3_; subst f4_; subst f5_))
  refine hK.out _ _ ⟨(blk_cell BK626.out 0).trans rfl, (blk_cell BK626.out 1).trans rfl⟩ (fun hHeld => ?_)
  clear hK K
  refine NM (some 8) ?_
  refine last_ (i := 4) (N := none) #[true, true, true, true, true] rfl rfl (by kernel_rfl) (by decide) (fun K hK => ?_)
  have hs26 : w25.cell? ⟨gb626, 0, none⟩ = some (.int .i64 a0_0) := (blk_cell BK626.out 0).trans rfl
  have hfs26 := blk_frozen BK626.out 0
  have hns26_1 := NB627_626.out
  have hms26_1 := NB626_627.out
  have hs28 : w25.cell? ⟨gb626, 1, none⟩ = some (.slice Ao20 l0_1.length co20) := (blk_cell BK626.out 1).trans rfl
  have hfs28 := blk_frozen BK626.out 1
  have hns28_1 := NB627_626.out
  have hms28_1 := NB626_627.out
  refine skip_ (w1 := ?_) (by rfl) rfl ?_ ?_
  rotate_left
  ·go_simp
   rfl
  refine hK.out _ _ ?_
  clear hK K
  refine done_ (by kernel_rfl) ?_
  try go_wp2
  have n0_ : Aside0 (Kd.R k50 50 ((w25.setCell ⟨gb626, 0, none⟩ (.int .i64 t630)).setCell ⟨gb626, 1, none⟩ (.slice Ao27 t631.length co27)) w0.heap.size (fun k_ => (P0_1_ k_ ∨ w.heap.size ≤ k_)) (.slice Ao27 t631.length co27) t631) := ⟨by (with_reducible repeat (first | apply Kd.R_alloc | apply Kd.R_drewN | apply Kd.R_drew)); exact Kd.R_mono (FR (FR (Kd.R_types HO633.out BK626.out (by decide)))) (fun _ hk => hk.1)⟩
  have n1_ : Aside0 (((w25.setCell ⟨gb626, 0, none⟩ (.int .i64 t630)).setCell ⟨gb626, 1, none⟩ (.slice Ao27 t631.length co27)).heap[gb626]? = some (.cells #[.int .i64 t630, .slice Ao27 t631.length co27] 29 (0, 0))) := ⟨by (with_reducible repeat (first | refine blk_drewN ?_ _ | refine blk_drew ?_ | refine blk_alloc ?_ _)); refine blk_put (cs := #[.int .i64 t630, .slice Ao20 l0_1.length co20]) ?_ 1 _ rfl; (with_reducible repeat (first | refine blk_drewN ?_ _ | refine blk_drew ?_ | refine blk_alloc ?_ _)); refine blk_put (cs := #[.int .i64 a0_0, .slice Ao20 l0_1.length co20]) ?_ 0 _ rfl; (with_reducible repeat (first | refine blk_drewN ?_ _ | refine blk_drew ?_ | refine blk_alloc ?_ _)); exact BK626.out⟩
  have n2_ : Aside0 (((w25.setCell ⟨gb626, 0, none⟩ (.int .i64 t630)).setCell ⟨gb626, 1, none⟩ (.slice Ao27 t631.length co27)).heap[gb627]? = some (.cells #[.int .i64 0, .slice none 0 0] 29 (0, 0))) := ⟨by (with_reducible repeat (first | refine blk_drewN ?_ _ | refine blk_drew ?_ | refine blk_alloc ?_ _)); refine blk_far ?_ NB627_626.out _; (with_reducible repeat (first | refine blk_drewN ?_ _ | refine blk_drew ?_ | refine blk_alloc ?_ _)); refine blk_far ?_ NB627_626.out _; (with_reducible repeat (first | refine blk_drewN ?_ _ | refine blk_drew ?_ | refine blk_alloc ?_ _)); exact BK627.out⟩
  have n3_ : Aside0 (Kept w ((w25.setCell ⟨gb626, 0, none⟩ (.int .i64 t630)).setCell ⟨gb626, 1, none⟩ (.slice Ao27 t631.length co27)) (fun k_ => P0_1_ k_)) := ⟨by repeat (first | (with_reducible first | exact HK.out | apply Kept.alloc | apply Kept.drewN | apply Kept.drew | refine Kept.setCell ?_ (.inr GW626.out) _ | refine Kept.setCell ?_ (.inr GW627.out) _) | exact HK.out)⟩
  have n4_ : Aside0 (Below w0.heap.size w0 ((w25.setCell ⟨gb626, 0, none⟩ (.int .i64 t630)).setCell ⟨gb626, 1, none⟩ (.slice Ao27 t631.length co27))) := ⟨by repeat (first | (with_reducible first | exact HB.out | apply below_alloc | apply pw_below_drewN | apply below_drew1 | refine below_set ?_ GE626.out | refine below_set ?_ GE627.out) | exact HB.out)⟩
  (try clear HO633)
  (try clear BK626)
  (try clear BK627)
  (try clear HK)
  (try clear HB)
  generalize ((w25.setCell ⟨gb626, 0, none⟩ (.int .i64 t630)).setCell ⟨gb626, 1, none⟩ (.slice Ao27 t631.length co27)) = w29 at n0_ n1_ n2_ n3_ n4_ ⊢
  have HO633 := n0_
  have BK626 := n1_
  have BK627 := n2_
  have HK := n3_
  have HB := n4_
  clear n0_ n1_ n2_ n3_ n4_
  have n0_ := Aside0.mk (Kd.R_drew HO633.out)
  have n1_ := Aside0.mk (blk_drew BK626.out)
  have n2_ := Aside0.mk (blk_drew BK627.out)
  have n3_ := Aside0.mk (Kept.drew HK.out)
  have n4_ := Aside0.mk (below_drew1 HB.out)
  clear HO633
  clear BK626
  clear BK627
  clear HK
  clear HB
  have HO633 := n0_
  have BK626 := n1_
  have BK627 := n2_
  have HK := n3_
  have HB := n4_
  clear n0_ n1_ n2_ n3_ n4_
  refine start_ (n := 5) (S := fun w' => w'.cell? ⟨gb626, 0, none⟩ = some (.int .i64 t630) ∧ w'.cell? ⟨gb626, 1, none⟩ = some (.slice Ao27 t631.length co27)) (ds := []) #[false, false, false, false, false] (by kernel_rfl) rfl rfl ⟨(blk_cell BK626.out 0).trans rfl, (blk_cell BK626.out 1).trans rfl⟩ (fun hHeld => ?_)
  generalize w29.drew = w30 at HO633 BK626 BK627 HK HB hHeld ⊢
  refine PV (i := 1) (N := some 13) #[false, true, false, false, false] rfl rfl ?_
  refine PK (i := 0) (N := some 12) (tf 2 3) rfl rfl hHeld ?_
  refine one_ (i := 2) (N := some 14) (tf 3 2) rfl rfl (by kernel_rfl) (by decide) (fun K hK => ?_)
  refine goes_ Try.func72 (by kernel_rfl) rfl #[.int .i64 a1] (by rfl) rfl rfl AQ ?_
  with_reducible refine (spec_Parent.calls k a1 t634 _ A18.out).mono ?_
  rintro e w' ⟨rfl, ⟨nd, rfl⟩⟩
  refine ⟨_, rfl, ?_⟩
  refine hK.out _ _ ⟨(blk_cell BK626.out 0).trans rfl, (blk_cell BK626.out 1).trans rfl⟩ (fun hHeld => ?_)
  clear hK K
  refine NM (some 14) ?_
  refine one_ (i := 3) (N := some 15) (tf 4 1) rfl rfl (by kernel_rfl) (by decide) (fun K hK => ?_)
  refine goes_ Try.func61 (by kernel_rfl) rfl #[.agg #[.int .i64 t630, .slice Ao27 t631.length co27], .int .i64 t634] (by rfl) rfl rfl AQ ?_
  with_reducible refine (ih k (by omega) t630 (fun k_ => some k_ = (.slice Ao27 t631.length co27 : Value).ownBlock) (.slice Ao27 t631.length co27) t631 t634 t635 t636 w0 _ ?side1 ?side2 A19.out).mono ?_
  (case side1 => repeat (first | (with_reducible first | exact HB.out | apply below_alloc | apply pw_below_drewN | apply below_drew1 | refine below_set ?_ GE626.out | refine below_set ?_ GE627.out) | exact HB.out))
  (case side2 => exact Kd.R_tight rfl HO633.out)
  rintro e w31 ⟨v637, rfl, ho0, hb, hkp⟩
  refine ⟨_, rfl, ?_⟩
  have n0_ := Aside0.mk (blk_kept (by (with_reducible repeat (first | refine blk_drewN ?_ _ | refine blk_drew ?_ | refine blk_alloc ?_ _)); exact BK626.out) hkp (fun hs_ => (fun e_ => (Kd.R_ne HO633.out BK626.out (by decide)) e_) hs_))
  have n1_ := Aside0.mk (blk_kept (by (with_reducible repeat (first | refine blk_drewN ?_ _ | refine blk_drew ?_ | refine blk_alloc ?_ _)); exact BK627.out) hkp (fun hs_ => (fun e_ => (Kd.R_ne HO633.out BK627.out (by decide)) e_) hs_))
  have n2_ := Aside0.mk (Kd.R_mono (ok' := fun k_ => (P0_1_ k_ ∨ w.heap.size ≤ k_)) ho0 (fun k_ hk_ => Or.elim hk_ (fun hs_ => (HO633.out.1 k_ (hs_).symm)) (fun hn_ => (.inr (Nat.le_trans (by first | exact HK.out.1 | exact (show Kept w _ (fun k_ => P0_1_ k_) from by repeat (first | (with_reducible first | exact HK.out | apply Kept.alloc | apply Kept.drewN | apply Kept.drew | refine Kept.setCell ?_ (.inr GW626.out) _ | refine Kept.setCell ?_ (.inr GW627.out) _) | exact HK.out)).1) hn_)))))
  have n3_ := Aside0.mk (Kept.then_ (S := (fun k_ => P0_1_ k_)) (by repeat (first | (with_reducible first | exact HK.out | apply Kept.alloc | apply Kept.drewN | apply Kept.drew | refine Kept.setCell ?_ (.inr GW626.out) _ | refine Kept.setCell ?_ (.inr GW627.out) _) | exact HK.out)) hkp (fun k_ hs_ => (fun e_ => (HO633.out.1 k_ e_.symm)) hs_))
  have n4_ := Aside0.mk (hb)
  clear BK626
  clear BK627
  clear HK
  clear HB
  clear HO633
  have BK626 := n0_
  have BK627 := n1_
  have HO638 := n2_
  have HK := n3_
  have HB := n4_
  clear n0_ n1_ n2_ n3_ n4_
  (try clear hb)
  (try clear hkp)
  (try clear ho0)
  obtain ⟨Ao33, co33, eo33⟩ := Kd.R_slice HO638.out
  (first | subst eo33 | (injection eo33 with f1_ f2_ f3_; have f4_ := f1_.symm; have f5_ := f3_.symm; clear f1_ f2_ f3_; subst f4_; subst f5_))
  refine hK.out _ _ ⟨(blk_cell BK626.out 0).trans rfl, (blk_cell BK626.out 1).trans rfl⟩ (fun hHeld => ?_)
  clear hK K
  refine NM (some 15) ?_
  refine one_ (i := 4) (N := none) (tf 5 0) rfl rfl (by kernel_rfl) (by decide) (fun K hK => ?_)
  have hs32 : w31.cell? ⟨gb627, 0, none⟩ = some (.int .i64 0) := (blk_cell BK627.out 0).trans rfl
  have hfs32 := blk_frozen BK627.out 0
  have hns32_0 := NB626_627.out
  have hms32_0 := NB627_626.out
  have hs34 : w31.cell? ⟨gb627, 1, none⟩ = some (.slice none 0 0) := (blk_cell BK627.out 1).trans rfl
  have hfs34 := blk_frozen BK627.out 1
  have hns34_0 := NB626_627.out
  have hms34_0 := NB627_626.out
  refine skip_ (w1 := ?_) (by rfl) rfl ?_ ?_
  rotate_left
  ·go_simp
   rfl
  refine hK.out _ _ ⟨((cell_far (p := ⟨gb627, _, none⟩) NB626_627.out _).trans (((cell_far (p := ⟨gb627, _, none⟩) NB626_627.out _).trans (hHeld.1)))), ((cell_far (p := ⟨gb627, _, none⟩) NB626_627.out _).trans (((cell_far (p := ⟨gb627, _, none⟩) NB626_627.out _).trans (hHeld.2))))⟩ (fun hHeld => ?_)
  clear hK K
  refine done_ (by kernel_rfl) ?_
  try go_wp2
  refine bodyPost_ret (results_cell_row rfl _ _ gb627 29 #[.int .i64 t635, .slice Ao33 t636.length co33] (0, 0) _ rfl (by (with_reducible repeat (first | refine blk_drewN ?_ _ | refine blk_drew ?_ | refine blk_alloc ?_ _)); refine blk_put (cs := #[.int .i64 t635, .slice none 0 0]) ?_ 1 _ rfl; (with_reducible repeat (first | refine blk_drewN ?_ _ | refine blk_drew ?_ | refine blk_alloc ?_ _)); refine blk_put (cs := #[.int .i64 0, .slice none 0 0]) ?_ 0 _ rfl; (with_reducible repeat (first | refine blk_drewN ?_ _ | refine blk_drew ?_ | refine blk_alloc ?_ _)); exact BK627.out) Try.underlying29 rfl (by kernel_rfl)) rfl ?_
  exact ⟨_, by first | rfl | (simp [errW_none, errW_some] <;> rfl) | (simp [*, errW_none, errW_some] <;> rfl), by (with_reducible repeat (first | apply Kd.R_alloc | apply Kd.R_drewN | apply Kd.R_drew)); exact Kd.R_mono (FR (FR (Kd.R_types HO638.out BK627.out (by decide)))) (fun _ hk => hk.1), by repeat (first | (with_reducible first | exact HB.out | apply below_alloc | apply pw_below_drewN | apply below_drew1 | refine below_set ?_ GE626.out | refine below_set ?_ GE627.out) | exact HB.out), by repeat (first | (with_reducible first | exact HK.out | apply Kept.alloc | apply Kept.drewN | apply Kept.drew | refine Kept.setCell ?_ (.inr GW626.out) _ | refine Kept.setCell ?_ (.inr GW627.out) _) | exact HK.out)⟩
def spec_Open.j0 : Nat → Int → Bool → Int → List (S50) → Option (Int × (List (S50)) × Bool)
 | 0, _, _, _, _ => none
 | k + 1, x1, x18, x640000, x640001 => if x18 = true then (some (0, ([] : List (S50)), false)) else ((spec_l19Copy.f x640000 x640001).bind fun bt642 => ((spec_l19Split.f k bt642.1 bt642.2 x1).bind fun bt646 => (some (bt646.1, bt646.2, true))))
def spec_Open.f (k : Nat) (a0_0 : Int) (l0_1 : List (S50)) (a1 : Int) : Option (Int × (List (S50)) × Bool) := (spec_TableOk.f k a0_0 l0_1).bind fun t641 => (if t641 = true then (if a1 < 0 then (spec_Open.j0 k a1 true a0_0 l0_1) else (spec_Open.j0 k a1 (decide (a1 ≥ a0_0)) a0_0 l0_1)) else (spec_Open.j0 k a1 true a0_0 l0_1))
theorem spec_Open.mono_l : ∀ k, (∀ y0 y1 y2 y3, LeO (spec_Open.j0 k y0 y1 y2 y3) (spec_Open.j0 (k + 1) y0 y1 y2 y3))
 | 0 => fun _ _ _ _ r h => by simp [spec_Open.j0] at h
 | k + 1 => by
  have ih0 := spec_Open.mono_l k
  ·intro y0 y1 y2 y3
   unfold spec_Open.j0
   repeat' first | (with_reducible first | exact ih0 _ _ _ _ | exact spec_TableOk.mono _ _ _ | exact spec_l19Split.mono _ _ _ _ | exact LeO.refl _ | exact LeO.none _ | refine LeO.ite ?_ ?_ | refine LeO.bind ?_ (fun _ => ?_)) | exact ih0 _ _ _ _ | exact spec_TableOk.mono _ _ _ | exact spec_l19Split.mono _ _ _ _ | exact LeO.none _ | refine LeO.ite ?_ ?_ | refine LeO.bind ?_ (fun _ => ?_)
theorem spec_Open.mono : ∀ a0 a1 a2 k, LeO (spec_Open.f k a0 a1 a2) (spec_Open.f (k + 1) a0 a1 a2) := by
 intro a0 a1 a2 k
 have ih0 := spec_Open.mono_l k
 unfold spec_Open.f
 repeat' first | (with_reducible first | exact ih0 _ _ _ _ | exact spec_TableOk.mono _ _ _ | exact spec_l19Split.mono _ _ _ _ | exact LeO.refl _ | exact LeO.none _ | refine LeO.ite ?_ ?_ | refine LeO.bind ?_ (fun _ => ?_)) | exact ih0 _ _ _ _ | exact spec_TableOk.mono _ _ _ | exact spec_l19Split.mono _ _ _ _ | exact LeO.none _ | refine LeO.ite ?_ ?_ | refine LeO.bind ?_ (fun _ => ?_)
set_option maxHeartbeats 8000000 in
set_option maxRecDepth 100000 in
theorem spec_Open.calls (k : Nat) (a0_0 : Int) (A0_1 : Option Addr) (c0_1 : Nat) (l0_1 : List (S50)) (a1 : Int) (r1 : Int) (r2 : List (S50)) (r3 : Bool) (w : World) (hr0_1 : Kd.C k50 w A0_1 l0_1.length l0_1) (hc0_1 : l0_1.length ≤ c0_1) (h : spec_Open.f k a0_0 l0_1 a1 = some (r1, r2, r3)) :
  Calls Try.prog 31 #[.agg #[.int .i64 a0_0, .slice A0_1 l0_1.length c0_1], .int .i64 a1] w fun e w' => ∃ v1_ : Value, e = .returned (.tuple #[.agg #[.int .i64 r1, v1_], .bool r3]) ∧ Kd.R k50 50 w' w.heap.size (fun _ => True) v1_ r2 ∧ Below w.heap.size w w' := by
 have hu29 := Try.underlying29
 have HR0_1 := Aside0.mk hr0_1
 have HC0_1 := Aside0.mk hc0_1
 clear hr0_1 hc0_1
 have HB := Aside0.mk (Below.refl w.heap.size w)
 have H : ((spec_TableOk.f k a0_0 l0_1).bind fun t641 => (if t641 = true then (if a1 < 0 then (spec_Open.j0 k a1 true a0_0 l0_1) else (spec_Open.j0 k a1 (decide (a1 ≥ a0_0)) a0_0 l0_1)) else (spec_Open.j0 k a1 true a0_0 l0_1))) = some (r1, r2, r3) := h
 clear h
 have HC3 := Aside0.mk H
 clear H
 go_enter Try.func31, Try.ntmps31
 go_upto_region 1 with (first | ((with_reducible refine gate_dst (N := 2) rfl ?_); refine box_event ?hg (N := 2) ?hd (cs := #[.int .i64 a0_0, .slice A0_1 l0_1.length c0_1]) (t := 29) ?hr ?_; (case hd => rfl); (case hg => rfl); (case hr => first | (go_simp; done) | (go_simp; rfl)); intro gb639 hg w4 hbox hb; have n0_ := Aside0.mk (below_step BL hb); have n1_ := Aside0.mk (hbox); have n2_ := Aside0.mk ((by rw [hg]; exact (below_size BL) : w.heap.size ≤ gb639)); have n3_ := Aside0.mk ((by rw [hg]; exact (below_size BL) : w.heap.size ≤ gb639)); clear HB; have HB := n0_; have BK639 := n1_; have GW639 := n2_; have GE639 := n3_; clear n0_ n1_ n2_ n3_; clear hb hbox hg) | ((with_reducible refine gate_dst (N := 4) rfl ?_); refine box_event ?hg (N := 4) ?hd (cs := #[.int .i64 0, .slice none 0 0]) (t := 29) ?hr ?_; (case hd => rfl); (case hg => rfl); (case hr => first | (go_simp; done) | (go_simp; rfl)); intro gb640 hg w5 hbox hb; have n0_ := Aside0.mk (blk_below (BD BK639) hb); have n1_ := Aside0.mk (below_step BG hb); have n2_ := Aside0.mk (hbox); have n3_ := Aside0.mk ((by rw [hg]; exact (below_size BG) : w.heap.size ≤ gb640)); have n4_ := Aside0.mk ((by rw [hg]; exact (below_size BG) : w.heap.size ≤ gb640)); have n5_ := Aside0.mk ((by rw [hg]; exact Nat.ne_of_lt (blk_lt (BD BK639)) : gb639 ≠ gb640)); have n6_ := Aside0.mk ((by rw [hg]; exact Nat.ne_of_gt (blk_lt (BD BK639)) : gb640 ≠ gb639)); clear BK639; clear HB; have BK639 := n0_; have HB := n1_; have BK640 := n2_; have GW640 := n3_; have GE640 := n4_; have NB639_640 := n5_; have NB640_639 := n6_; clear n0_ n1_ n2_ n3_ n4_ n5_ n6_; clear hb hbox hg))
 (try simp only [Act.put, List.setIfInBounds_toArray, List.set_cons_zero, List.set_cons_succ])
 go_cut [18] (fun v18 wc => ∃ (kq : Nat) (x18_2 : Bool), v18 = .bool x18_2 ∧ Aside0 (spec_Open.j0 kq a1 x18_2 a0_0 l0_1 = some (r1, r2, r3)) ∧ Aside0 (kq ≤ k) ∧ Aside0 (wc.heap[gb639]? = some (.cells #[.int .i64 a0_0, (.slice A0_1 l0_1.length c0_1)] 29 (0, 0))) ∧ Aside0 (wc.heap[gb640]? = some (.cells #[.int .i64 0, (.slice none 0 0)] 29 (0, 0))) ∧ Aside0 (Below w.heap.size w wc))
 case first =>
  have H := HC3.out
  clear HC3
  replace H := BS H
  obtain ⟨t641, A60, H⟩ := H
  have A6 := Aside0.mk A60
  clear A60
  by_cases c7 : t641 = true
  ·subst c7
   replace H := IP H
   by_cases c8 : a1 < 0
   ·rw [if_pos c8] at H
    have c8b0 : decide (a1 < 0) = true := decide_eq_true c8
    clear c8
    (first | rw [c8b0] | (simp only [i64_w, i32_w]; rw [c8b0]) | skip)
    have H' := Aside0.mk H
    clear H
    have hnb9 := NB639_640.out
    have hnc9 := NB640_639.out
    obtain ⟨hcz10_0, hcz10_1, hfz10_0, hfz10_1⟩ := bk2 BK639.out
    go_wp2_with (first | ((with_reducible refine gate_callee (f := 12) rfl ?_); refine goesL_ (some 7) rfl rfl Try.func12 (by kernel_rfl) rfl #[.agg #[.int .i64 a0_0, .slice A0_1 l0_1.length c0_1]] rfl AQ ?_; (with_reducible refine (spec_TableOk.calls k a0_0 _ _ l0_1 true _ ?side1 ?side2 A6.out).mono ?_); (case side1 => exact SC HR0_1); (case side2 => exact HC0_1.out); rintro e w11 ⟨rfl, hb⟩; refine ⟨_, rfl, ?_⟩; have n0_ := Aside0.mk (blk_below (BD BK639) hb); have n1_ := Aside0.mk (blk_below (BD BK640) hb); have n2_ := Aside0.mk (below_step BG hb); clear BK639; clear BK640; clear HB; have BK639 := n0_; have BK640 := n1_; have HB := n2_; clear n0_ n1_ n2_; (try clear hb); (try clear hb2); (try clear hk); (try clear hi)))
    go_meet
    case rel => exact ⟨_, (true), RS, H', ⟨by first | omega | exact Nat.le_refl _⟩, ⟨by (with_reducible repeat (first | refine blk_drewN ?_ _ | refine blk_drew ?_ | refine blk_alloc ?_ _)); exact BK639.out⟩, ⟨by (with_reducible repeat (first | refine blk_drewN ?_ _ | refine blk_drew ?_ | refine blk_alloc ?_ _)); exact BK640.out⟩, ⟨by repeat (first | (with_reducible first | exact HB.out | apply below_alloc | apply pw_below_drewN | apply below_drew1 | refine below_set ?_ GE639.out | refine below_set ?_ GE640.out) | exact HB.out)⟩⟩
   ·rw [if_neg c8] at H
    have c8b0 : decide (a1 < 0) = false := decide_eq_false c8
    clear c8
    (first | rw [c8b0] | (simp only [i64_w, i32_w]; rw [c8b0]) | skip)
    have H' := Aside0.mk H
    clear H
    have hnb12 := NB639_640.out
    have hnc12 := NB640_639.out
    obtain ⟨hcz13_0, hcz13_1, hfz13_0, hfz13_1⟩ := bk2 BK639.out
    go_wp2_with (first | ((with_reducible refine gate_callee (f := 12) rfl ?_); refine goesL_ (some 7) rfl rfl Try.func12 (by kernel_rfl) rfl #[.agg #[.int .i64 a0_0, .slice A0_1 l0_1.length c0_1]] rfl AQ ?_; (with_reducible refine (spec_TableOk.calls k a0_0 _ _ l0_1 true _ ?side1 ?side2 A6.out).mono ?_); (case side1 => exact SC HR0_1); (case side2 => exact HC0_1.out); rintro e w14 ⟨rfl, hb⟩; refine ⟨_, rfl, ?_⟩; have n0_ := Aside0.mk (blk_below (BD BK639) hb); have n1_ := Aside0.mk (blk_below (BD BK640) hb); have n2_ := Aside0.mk (below_step BG hb); clear BK639; clear BK640; clear HB; have BK639 := n0_; have BK640 := n1_; have HB := n2_; clear n0_ n1_ n2_; (try clear hb); (try clear hb2); (try clear hk); (try clear hi); obtain ⟨hcz15_0, hcz15_1, hfz15_0, hfz15_1⟩ := bk2 BK639.out))
    go_meet
    case rel => exact ⟨_, (decide (a1 ≥ a0_0)), RS, H', ⟨by first | omega | exact Nat.le_refl _⟩, ⟨by (with_reducible repeat (first | refine blk_drewN ?_ _ | refine blk_drew ?_ | refine blk_alloc ?_ _)); exact BK639.out⟩, ⟨by (with_reducible repeat (first | refine blk_drewN ?_ _ | refine blk_drew ?_ | refine blk_alloc ?_ _)); exact BK640.out⟩, ⟨by repeat (first | (with_reducible first | exact HB.out | apply below_alloc | apply pw_below_drewN | apply below_drew1 | refine below_set ?_ GE639.out | refine below_set ?_ GE640.out) | exact HB.out)⟩⟩
  ·replace c7 := Bool.eq_false_iff.mpr c7
   subst c7
   replace H := IN H
   have H' := Aside0.mk H
   clear H
   have hnb16 := NB639_640.out
   have hnc16 := NB640_639.out
   obtain ⟨hcz17_0, hcz17_1, hfz17_0, hfz17_1⟩ := bk2 BK639.out
   go_wp2_with (first | ((with_reducible refine gate_callee (f := 12) rfl ?_); refine goesL_ (some 7) rfl rfl Try.func12 (by kernel_rfl) rfl #[.agg #[.int .i64 a0_0, .slice A0_1 l0_1.length c0_1]] rfl AQ ?_; (with_reducible refine (spec_TableOk.calls k a0_0 _ _ l0_1 false _ ?side1 ?side2 A6.out).mono ?_); (case side1 => exact SC HR0_1); (case side2 => exact HC0_1.out); rintro e w18 ⟨rfl, hb⟩; refine ⟨_, rfl, ?_⟩; have n0_ := Aside0.mk (blk_below (BD BK639) hb); have n1_ := Aside0.mk (blk_below (BD BK640) hb); have n2_ := Aside0.mk (below_step BG hb); clear BK639; clear BK640; clear HB; have BK639 := n0_; have BK640 := n1_; have HB := n2_; clear n0_ n1_ n2_; (try clear hb); (try clear hb2); (try clear hk); (try clear hi)))
   go_meet
   case rel => exact ⟨_, (true), RS, H', ⟨by first | omega | exact Nat.le_refl _⟩, ⟨by (with_reducible repeat (first | refine blk_drewN ?_ _ | refine blk_drew ?_ | refine blk_alloc ?_ _)); exact BK639.out⟩, ⟨by (with_reducible repeat (first | refine blk_drewN ?_ _ | refine blk_drew ?_ | refine blk_alloc ?_ _)); exact BK640.out⟩, ⟨by repeat (first | (with_reducible first | exact HB.out | apply below_alloc | apply pw_below_drewN | apply below_drew1 | refine below_set ?_ GE639.out | refine below_set ?_ GE640.out) | exact HB.out)⟩⟩
 case rest =>
  clear HC3
  try clear c1
  try clear p2
  try clear c3
  try clear c7
  try clear c8
  try clear c8b0
  try clear c9
  try clear c12
  try clear c16
  try clear hcz10_0
  try clear hcz10_1
  try clear hcz13_0
  try clear hcz13_1
  try clear hcz15_0
  try clear hcz15_1
  try clear hcz17_0
  try clear hcz17_1
  try clear hfz10_0
  try clear hfz10_1
  try clear hfz13_0
  try clear hfz13_1
  try clear hfz15_0
  try clear hfz15_1
  try clear hfz17_0
  try clear hfz17_1
  obtain ⟨kq, x18_2, rfl, HA, HJ2, BK639, BK640, HB⟩ := hcut
  cases kq with
  | zero => exact absurd HA.out (by simp [spec_Open.j0])
  | succ kj2 =>
   have H := HA.out
   clear HA
   simp only [spec_Open.j0] at H
   by_cases c19 : x18_2 = true
   ·subst c19
    replace H := IP H
    simp only [Option.some.injEq, Prod.mk.injEq] at H
    obtain ⟨rfl, rfl, rfl⟩ := H
    have hnb20 := NB640_639.out
    have hnc20 := NB639_640.out
    obtain ⟨hcz21_0, hcz21_1, hfz21_0, hfz21_1⟩ := bk2 BK640.out
    go_wp2
    refine bodyPost_ret (results_ct rfl _ _ gb640 29 #[.int .i64 0, .slice none 0 0] (0, 0) _ rfl (by (with_reducible repeat (first | refine blk_drewN ?_ _ | refine blk_drew ?_ | refine blk_alloc ?_ _)); refine blk_put (cs := #[.int .i64 0, .slice none 0 0]) ?_ 1 _ rfl; (with_reducible repeat (first | refine blk_drewN ?_ _ | refine blk_drew ?_ | refine blk_alloc ?_ _)); refine blk_put (cs := #[.int .i64 0, .slice none 0 0]) ?_ 0 _ rfl; (with_reducible repeat (first | refine blk_drewN ?_ _ | refine blk_drew ?_ | refine blk_alloc ?_ _)); exact BK640.out) Try.underlying29 rfl (by kernel_rfl)) rfl ?_
    exact ⟨_, by first | rfl | (simp [errW_none, errW_some] <;> rfl) | (simp [*, errW_none, errW_some] <;> rfl), by first | exact Kd.R_nil _ _ _ _ _ | exact Kd.N_nil _ _ _ _ _ | exact Kd.V_nil _ _ _ _ _ | exact Kd.Q_nil _ _ _ _ _ | exact Kd.S_nil _ _ _ _ _, BG⟩
   ·replace c19 := Bool.eq_false_iff.mpr c19
    subst c19
    replace H := IN H
    replace H := BS H
    obtain ⟨⟨t642, t643⟩, A220, H⟩ := H
    have A22 := Aside0.mk A220
    clear A220
    replace H := BS H
    obtain ⟨⟨t646, t647⟩, A230, H⟩ := H
    have A23 := Aside0.mk A230
    clear A230
    simp only [Option.some.injEq, Prod.mk.injEq] at H
    obtain ⟨rfl, rfl, rfl⟩ := H
    have hnb24 := NB639_640.out
    have hnc24 := NB640_639.out
    obtain ⟨hcz25_0, hcz25_1, hfz25_0, hfz25_1⟩ := bk2 BK639.out
    go_wp2_with (first | ((with_reducible refine gate_callee (f := 53) rfl ?_); refine goesL_ (some 21) rfl rfl Try.func53 (by kernel_rfl) rfl #[.agg #[.int .i64 a0_0, .slice A0_1 l0_1.length c0_1]] rfl AQ ?_; (with_reducible refine (spec_l19Copy.calls a0_0 _ _ l0_1 t642 t643 _ ?side1 ?side2 A22.out).mono ?_); (case side1 => exact SC HR0_1); (case side2 => exact HC0_1.out); rintro e w26 ⟨v644, rfl, ho0, hb⟩; refine ⟨_, rfl, ?_⟩; have n0_ := Aside0.mk (Kd.R_lower ho0 (below_size BG)); have n1_ := Aside0.mk (blk_below (BD BK639) hb); have n2_ := Aside0.mk (blk_below (BD BK640) hb); have n3_ := Aside0.mk (below_step BG hb); clear BK639; clear BK640; clear HB; have HO645 := n0_; have BK639 := n1_; have BK640 := n2_; have HB := n3_; clear n0_ n1_ n2_ n3_; (try clear hb); (try clear hb2); (try clear hk); (try clear hi); (try clear ho0); obtain ⟨Ao27, co27, eo27⟩ := Kd.R_slice HO645.out; subst eo27) | ((with_reducible refine gate_callee (f := 61) rfl ?_); refine goesL_ (some 23) rfl rfl Try.func61 (by kernel_rfl) rfl #[.agg #[.int .i64 t642, .slice Ao27 t643.length co27], .int .i64 a1] rfl AQ ?_; (with_reducible refine (spec_l19Split.calls kj2 t642 (fun k_ => some k_ = (.slice Ao27 t643.length co27 : Value).ownBlock) (.slice Ao27 t643.length co27) t643 a1 t646 t647 w _ ?side1 ?side2 A23.out).mono ?_); (case side1 => repeat (first | (with_reducible first | exact HB.out | apply below_alloc | apply pw_below_drewN | apply below_drew1 | refine below_set ?_ GE639.out | refine below_set ?_ GE640.out) | exact HB.out)); (case side2 => exact Kd.R_tight rfl HO645.out); rintro e w28 ⟨v648, rfl, ho0, hb, hkp⟩; refine ⟨_, rfl, ?_⟩; have n0_ := Aside0.mk (blk_kept (by (with_reducible repeat (first | refine blk_drewN ?_ _ | refine blk_drew ?_ | refine blk_alloc ?_ _)); exact BK639.out) hkp (fun hs_ => (fun e_ => (Kd.R_ne HO645.out BK639.out (by decide)) e_) hs_)); have n1_ := Aside0.mk (blk_kept (by (with_reducible repeat (first | refine blk_drewN ?_ _ | refine blk_drew ?_ | refine blk_alloc ?_ _)); exact BK640.out) hkp (fun hs_ => (fun e_ => (Kd.R_ne HO645.out BK640.out (by decide)) e_) hs_)); have n2_ := Aside0.mk (Kd.R_mono (ok' := fun k_ => True) ho0 (fun k_ hk_ => trivial)); have n3_ := Aside0.mk (hb); clear BK639; clear BK640; clear HB; clear HO645; have BK639 := n0_; have BK640 := n1_; have HO649 := n2_; have HB := n3_; clear n0_ n1_ n2_ n3_; (try clear hb); (try clear hkp); (try clear ho0); obtain ⟨hcz29_0, hcz29_1, hfz29_0, hfz29_1⟩ := bk2 BK640.out; obtain ⟨Ao30, co30, eo30⟩ := Kd.R_slice HO649.out; subst eo30))
    refine bodyPost_ret (results_ct rfl _ _ gb640 29 #[.int .i64 t646, .slice Ao30 t647.length co30] (0, 0) _ rfl (by (with_reducible repeat (first | refine blk_drewN ?_ _ | refine blk_drew ?_ | refine blk_alloc ?_ _)); refine blk_put (cs := #[.int .i64 t646, .slice none 0 0]) ?_ 1 _ rfl; (with_reducible repeat (first | refine blk_drewN ?_ _ | refine blk_drew ?_ | refine blk_alloc ?_ _)); refine blk_put (cs := #[.int .i64 0, .slice none 0 0]) ?_ 0 _ rfl; (with_reducible repeat (first | refine blk_drewN ?_ _ | refine blk_drew ?_ | refine blk_alloc ?_ _)); exact BK640.out) Try.underlying29 rfl (by kernel_rfl)) rfl ?_
    exact ⟨_, by first | rfl | (simp [errW_none, errW_some] <;> rfl) | (simp [*, errW_none, errW_some] <;> rfl), by (with_reducible repeat (first | apply Kd.R_alloc | apply Kd.R_drewN | apply Kd.R_drew)); exact Kd.R_mono (FR (FR (Kd.R_types HO649.out BK640.out (by decide)))) (fun _ hk => trivial), BG⟩
def spec_Bucket.f (a0 : Int) (a1 : Int) : Option (Int) := (spec_l01Num.f a0).bind fun t746 => (if t746 = true then ((spec_l01In.f a1 1 4294967295).bind fun t747 => (if t747 = true then (if a1 = 0 then (none) else (some (Int.tmod a0 a1))) else (some 0))) else (some 0))
set_option maxHeartbeats 8000000 in
set_option maxRecDepth 100000 in
theorem spec_Bucket.calls (a0 : Int) (a1 : Int) (r : Int) (w : World) (h : spec_Bucket.f a0 a1 = some r) :
  Calls Try.prog 63 #[.int .i64 a0, .int .i64 a1] w fun e w' => e = .returned (.int .i64 r) ∧ Drawn0 w w' := by
 have H : ((spec_l01Num.f a0).bind fun t746 => (if t746 = true then ((spec_l01In.f a1 1 4294967295).bind fun t747 => (if t747 = true then (if a1 = 0 then (none) else (some (Int.tmod a0 a1))) else (some 0))) else (some 0))) = some r := h
 clear h
 replace H := BS H
 obtain ⟨t746, A30, H⟩ := H
 have A3 := Aside0.mk A30
 clear A30
 by_cases c4 : t746 = true
 ·subst c4
  replace H := IP H
  replace H := BS H
  obtain ⟨t747, A50, H⟩ := H
  have A5 := Aside0.mk A50
  clear A50
  by_cases c6 : t747 = true
  ·subst c6
   replace H := IP H
   by_cases c7 : a1 = 0
   ·rw [if_pos c7] at H
    exact absurd H (by simp)
   ·rw [if_neg c7] at H
    have c7b0 : (a1 == 0) = false := beq_eq_false_iff_ne.mpr c7
    have c7b1 : (a1 != 0) = true := bne_iff_ne.mpr c7
    obtain rfl := Option.some.inj H
    go_enter Try.func63, Try.ntmps63
    go_wp2_with (first | ((with_reducible refine gate_callee (f := 84) rfl ?_); refine goesL_ (some 6) rfl rfl Try.func84 (by kernel_rfl) rfl #[.int .i64 a0] rfl AQ ?_; (with_reducible refine (spec_l01Num.calls a0 true _ A3.out).mono ?_); rintro e w' ⟨rfl, ⟨nd, rfl⟩⟩; refine ⟨_, rfl, ?_⟩) | (go_at_call 74; (with_reducible refine (spec_l01In.calls a1 1 4294967295 true _ A5.out).mono ?_); rintro e w' ⟨rfl, ⟨nd, rfl⟩⟩))
    go_ret
    exact ⟨by first | rfl | (simp; done) | (simp [*]; done), by repeat (first | exact Drawn0.refl _ | apply Drawn0.step)⟩
  ·replace c6 := Bool.eq_false_iff.mpr c6
   subst c6
   replace H := IN H
   obtain rfl := Option.some.inj H
   go_enter Try.func63, Try.ntmps63
   go_wp2_with (first | ((with_reducible refine gate_callee (f := 84) rfl ?_); refine goesL_ (some 6) rfl rfl Try.func84 (by kernel_rfl) rfl #[.int .i64 a0] rfl AQ ?_; (with_reducible refine (spec_l01Num.calls a0 true _ A3.out).mono ?_); rintro e w' ⟨rfl, ⟨nd, rfl⟩⟩; refine ⟨_, rfl, ?_⟩) | (go_at_call 74; (with_reducible refine (spec_l01In.calls a1 1 4294967295 false _ A5.out).mono ?_); rintro e w' ⟨rfl, ⟨nd, rfl⟩⟩))
   go_ret
   exact ⟨by first | rfl | (simp; done) | (simp [*]; done), by repeat (first | exact Drawn0.refl _ | apply Drawn0.step)⟩
 ·replace c4 := Bool.eq_false_iff.mpr c4
  subst c4
  replace H := IN H
  obtain rfl := Option.some.inj H
  go_enter Try.func63, Try.ntmps63
  go_wp2_with (first | ((with_reducible refine gate_callee (f := 84) rfl ?_); refine goesL_ (some 6) rfl rfl Try.func84 (by kernel_rfl) rfl #[.int .i64 a0] rfl AQ ?_; (with_reducible refine (spec_l01Num.calls a0 false _ A3.out).mono ?_); rintro e w' ⟨rfl, ⟨nd, rfl⟩⟩; refine ⟨_, rfl, ?_⟩))
  go_ret
  exact ⟨by first | rfl | (simp; done) | (simp [*]; done), by repeat (first | exact Drawn0.refl _ | apply Drawn0.step)⟩
end Go.Proofs.Ytcdflbbohnjegaa.G
