/- Part 4 of the claim FnExactOpen, merged by pack.py (this session's program) out of: the print's words, cut to what is needed; texts that gen.py printed (it runs the kit's print in place); texts of this session. -/
import Derived.Test.YtcdflbbohnjegaaKFnExactOpen1
import Derived.Test.YtcdflbbohnjegaaKFnExactOpen2
import Derived.Test.YtcdflbbohnjegaaKFnExactOpen3
namespace Go.Proofs.Ytcdflbbohnjegaa.Sh
end Go.Proofs.Ytcdflbbohnjegaa.Sh
namespace Go.Proofs.Ytcdflbbohnjegaa.G
open Go.RowKit Go.Proofs.YtcdflbbohnjegaaW.PrintWords Go.Proofs.YtcdflbbohnjegaaW.PrintLast Go.Proofs.YtcdflbbohnjegaaW.PrintMore Go.Proofs.Ytcdflbbohnjegaa.Sh
attribute [local go_sem] max2_int min2_int max_two min_two max_three min_three max_four min_four
set_option linter.unusedVariables false
set_option linter.unusedSimpArgs false
def impl_Open.f (k : Nat) (a0_0 : Int) (l0_1 : List (S50)) (a1 : Int) : Option (Int × (List (S50)) × Bool) := (impl_TableOk.f k a0_0 l0_1).bind fun t693 => (if t693 = true then ((impl_within.f a1 0 (wrap64 (a0_0 - 1))).bind fun t694 => (if t694 = true then ((impl_Table_opened.f k a0_0 l0_1 a1).bind fun bt695 => (some (bt695.1, bt695.2, true))) else (some (0, ([] : List (S50)), false)))) else (some (0, ([] : List (S50)), false)))
theorem impl_Open.mono : ∀ a0 a1 a2 k, LeO (impl_Open.f k a0 a1 a2) (impl_Open.f (k + 1) a0 a1 a2) := by
 intro a0 a1 a2 k
 unfold impl_Open.f
 repeat' first | (with_reducible first | exact impl_TableOk.mono _ _ _ | exact impl_Table_opened.mono _ _ _ _ | exact LeO.refl _ | exact LeO.none _ | refine LeO.ite ?_ ?_ | refine LeO.bind ?_ (fun _ => ?_)) | exact impl_TableOk.mono _ _ _ | exact impl_Table_opened.mono _ _ _ _ | exact LeO.none _ | refine LeO.ite ?_ ?_ | refine LeO.bind ?_ (fun _ => ?_)
set_option maxHeartbeats 8000000 in
set_option maxRecDepth 100000 in
theorem impl_Open.calls (k : Nat) (a0_0 : Int) (A0_1 : Option Addr) (c0_1 : Nat) (l0_1 : List (S50)) (a1 : Int) (r1 : Int) (r2 : List (S50)) (r3 : Bool) (w : World) (hr0_1 : Kd.C k50 w A0_1 l0_1.length l0_1) (hc0_1 : l0_1.length ≤ c0_1) (h : impl_Open.f k a0_0 l0_1 a1 = some (r1, r2, r3)) :
  Calls Try.prog 32 #[.agg #[.int .i64 a0_0, .slice A0_1 l0_1.length c0_1], .int .i64 a1] w fun e w' => ∃ v1_ : Value, e = .returned (.tuple #[.agg #[.int .i64 r1, v1_], .bool r3]) ∧ Kd.R k50 50 w' w.heap.size (fun _ => True) v1_ r2 ∧ Below w.heap.size w w' := by
 have hu29 := Try.underlying29
 have HR0_1 := Aside0.mk hr0_1
 have HC0_1 := Aside0.mk hc0_1
 clear hr0_1 hc0_1
 have HB := Aside0.mk (Below.refl w.heap.size w)
 have H : ((impl_TableOk.f k a0_0 l0_1).bind fun t693 => (if t693 = true then ((impl_within.f a1 0 (wrap64 (a0_0 - 1))).bind fun t694 => (if t694 = true then ((impl_Table_opened.f k a0_0 l0_1 a1).bind fun bt695 => (some (bt695.1, bt695.2, true))) else (some (0, ([] : List (S50)), false)))) else (some (0, ([] : List (S50)), false)))) = some (r1, r2, r3) := h
 clear h
 replace H := BS H
 obtain ⟨t693, A30, H⟩ := H
 have A3 := Aside0.mk A30
 clear A30
 by_cases c4 : t693 = true
 ·subst c4
  replace H := IP H
  replace H := BS H
  obtain ⟨t694, A50, H⟩ := H
  have A5 := Aside0.mk A50
  clear A50
  by_cases c6 : t694 = true
  ·subst c6
   replace H := IP H
   replace H := BS H
   obtain ⟨⟨t695, t696⟩, A70, H⟩ := H
   have A7 := Aside0.mk A70
   clear A70
   simp only [Option.some.injEq, Prod.mk.injEq] at H
   obtain ⟨rfl, rfl, rfl⟩ := H
   go_enter Try.func32, Try.ntmps32
   go_wp2_with (first | ((with_reducible refine gate_dst (N := 2) rfl ?_); refine box_event ?hg (N := 2) ?hd (cs := #[.int .i64 a0_0, .slice A0_1 l0_1.length c0_1]) (t := 29) ?hr ?_; (case hd => rfl); (case hg => rfl); (case hr => first | (go_simp; done) | (go_simp; rfl)); intro gb691 hg w8 hbox hb; have n0_ := Aside0.mk (below_step BL hb); have n1_ := Aside0.mk (hbox); have n2_ := Aside0.mk ((by rw [hg]; exact (below_size BL) : w.heap.size ≤ gb691)); have n3_ := Aside0.mk ((by rw [hg]; exact (below_size BL) : w.heap.size ≤ gb691)); clear HB; have HB := n0_; have BK691 := n1_; have GW691 := n2_; have GE691 := n3_; clear n0_ n1_ n2_ n3_; clear hb hbox hg) | ((with_reducible refine gate_dst (N := 4) rfl ?_); refine box_event ?hg (N := 4) ?hd (cs := #[.int .i64 0, .slice none 0 0]) (t := 29) ?hr ?_; (case hd => rfl); (case hg => rfl); (case hr => first | (go_simp; done) | (go_simp; rfl)); intro gb692 hg w9 hbox hb; have n0_ := Aside0.mk (blk_below (BD BK691) hb); have n1_ := Aside0.mk (below_step BG hb); have n2_ := Aside0.mk (hbox); have n3_ := Aside0.mk ((by rw [hg]; exact (below_size BG) : w.heap.size ≤ gb692)); have n4_ := Aside0.mk ((by rw [hg]; exact (below_size BG) : w.heap.size ≤ gb692)); have n5_ := Aside0.mk ((by rw [hg]; exact Nat.ne_of_lt (blk_lt (BD BK691)) : gb691 ≠ gb692)); have n6_ := Aside0.mk ((by rw [hg]; exact Nat.ne_of_gt (blk_lt (BD BK691)) : gb692 ≠ gb691)); clear BK691; clear HB; have BK691 := n0_; have HB := n1_; have BK692 := n2_; have GW692 := n3_; have GE692 := n4_; have NB691_692 := n5_; have NB692_691 := n6_; clear n0_ n1_ n2_ n3_ n4_ n5_ n6_; clear hb hbox hg; have hnb10 := NB691_692.out; have hnc10 := NB692_691.out; obtain ⟨hcz11_0, hcz11_1, hfz11_0, hfz11_1⟩ := bk2 BK691.out) | ((with_reducible refine gate_callee (f := 14) rfl ?_); refine goesL_ (some 7) rfl rfl Try.func14 (by kernel_rfl) rfl #[.agg #[.int .i64 a0_0, .slice A0_1 l0_1.length c0_1]] rfl AQ ?_; (with_reducible refine (impl_TableOk.calls k a0_0 _ _ l0_1 true _ ?side1 ?side2 A3.out).mono ?_); (case side1 => exact SC HR0_1); (case side2 => exact HC0_1.out); rintro e w12 ⟨rfl, hb⟩; refine ⟨_, rfl, ?_⟩; have n0_ := Aside0.mk (blk_below (BD BK691) hb); have n1_ := Aside0.mk (blk_below (BD BK692) hb); have n2_ := Aside0.mk (below_step BG hb); clear BK691; clear BK692; clear HB; have BK691 := n0_; have BK692 := n1_; have HB := n2_; clear n0_ n1_ n2_; (try clear hb); (try clear hb2); (try clear hk); (try clear hi); obtain ⟨hcz13_0, hcz13_1, hfz13_0, hfz13_1⟩ := bk2 BK691.out) | (go_at_call 44; (with_reducible refine (impl_within.calls a1 0 (wrap64 (a0_0 - 1)) true _ A5.out).mono ?_); rintro e w' ⟨rfl, ⟨nd, rfl⟩⟩; (try (rw [drewN_self w12]; generalize hq_ : World.drewN w12 _ = w12; have n0_ : Aside0 (w12.heap[gb691]? = some (.cells #[.int .i64 a0_0, .slice A0_1 l0_1.length c0_1] 29 (0, 0))) := ⟨by rw [← hq_]; exact (by (with_reducible repeat (first | refine blk_drewN ?_ _ | refine blk_drew ?_ | refine blk_alloc ?_ _)); exact BK691.out)⟩; have n1_ : Aside0 (w12.heap[gb692]? = some (.cells #[.int .i64 0, .slice none 0 0] 29 (0, 0))) := ⟨by rw [← hq_]; exact (by (with_reducible repeat (first | refine blk_drewN ?_ _ | refine blk_drew ?_ | refine blk_alloc ?_ _)); exact BK692.out)⟩; have n2_ : Aside0 (Below w.heap.size w w12) := ⟨by rw [← hq_]; exact BG⟩; clear BK691 BK692 HB hq_; have BK691 := n0_; have BK692 := n1_; have HB := n2_; clear n0_ n1_ n2_)); obtain ⟨hcz13_0, hcz13_1, hfz13_0, hfz13_1⟩ := bk2 BK691.out) | ((with_reducible refine gate_callee (f := 62) rfl ?_); refine goesL_ (some 20) rfl rfl Try.func62 (by kernel_rfl) rfl #[.agg #[.int .i64 a0_0, .slice A0_1 l0_1.length c0_1], .int .i64 a1] rfl AQ ?_; (with_reducible refine (impl_Table_opened.calls k a0_0 _ _ l0_1 a1 t695 t696 _ ?side1 ?side2 A7.out).mono ?_); (case side1 => exact SC HR0_1); (case side2 => exact HC0_1.out); rintro e w14 ⟨v697, rfl, ho0, hb⟩; refine ⟨_, rfl, ?_⟩; have n0_ := Aside0.mk (Kd.R_lower ho0 (below_size BG)); have n1_ := Aside0.mk (blk_below (BD BK691) hb); have n2_ := Aside0.mk (blk_below (BD BK692) hb); have n3_ := Aside0.mk (below_step BG hb); clear BK691; clear BK692; clear HB; have HO698 := n0_; have BK691 := n1_; have BK692 := n2_; have HB := n3_; clear n0_ n1_ n2_ n3_; (try clear hb); (try clear hb2); (try clear hk); (try clear hi); (try clear ho0); obtain ⟨hcz15_0, hcz15_1, hfz15_0, hfz15_1⟩ := bk2 BK692.out; obtain ⟨Ao16, co16, eo16⟩ := Kd.R_slice HO698.out; subst eo16))
   refine bodyPost_ret (results_ct rfl _ _ gb692 29 #[.int .i64 t695, .slice Ao16 t696.length co16] (0, 0) _ rfl (by (with_reducible repeat (first | refine blk_drewN ?_ _ | refine blk_drew ?_ | refine blk_alloc ?_ _)); refine blk_put (cs := #[.int .i64 t695, .slice none 0 0]) ?_ 1 _ rfl; (with_reducible repeat (first | refine blk_drewN ?_ _ | refine blk_drew ?_ | refine blk_alloc ?_ _)); refine blk_put (cs := #[.int .i64 0, .slice none 0 0]) ?_ 0 _ rfl; (with_reducible repeat (first | refine blk_drewN ?_ _ | refine blk_drew ?_ | refine blk_alloc ?_ _)); exact BK692.out) Try.underlying29 rfl (by kernel_rfl)) rfl ?_
   exact ⟨_, by first | rfl | (simp [errW_none, errW_some] <;> rfl) | (simp [*, errW_none, errW_some] <;> rfl), by (with_reducible repeat (first | apply Kd.R_alloc | apply Kd.R_drewN | apply Kd.R_drew)); exact Kd.R_mono (FR (FR (Kd.R_types HO698.out BK692.out (by decide)))) (fun _ hk => trivial), BG⟩
  ·replace c6 := Bool.eq_false_iff.mpr c6
   subst c6
   replace H := IN H
   simp only [Option.some.injEq, Prod.mk.injEq] at H
   obtain ⟨rfl, rfl, rfl⟩ := H
   go_enter Try.func32, Try.ntmps32
   go_wp2_with (first | ((with_reducible refine gate_dst (N := 2) rfl ?_); refine box_event ?hg (N := 2) ?hd (cs := #[.int .i64 a0_0, .slice A0_1 l0_1.length c0_1]) (t := 29) ?hr ?_; (case hd => rfl); (case hg => rfl); (case hr => first | (go_simp; done) | (go_simp; rfl)); intro gb691 hg w17 hbox hb; have n0_ := Aside0.mk (below_step BL hb); have n1_ := Aside0.mk (hbox); have n2_ := Aside0.mk ((by rw [hg]; exact (below_size BL) : w.heap.size ≤ gb691)); have n3_ := Aside0.mk ((by rw [hg]; exact (below_size BL) : w.heap.size ≤ gb691)); clear HB; have HB := n0_; have BK691 := n1_; have GW691 := n2_; have GE691 := n3_; clear n0_ n1_ n2_ n3_; clear hb hbox hg) | ((with_reducible refine gate_dst (N := 4) rfl ?_); refine box_event ?hg (N := 4) ?hd (cs := #[.int .i64 0, .slice none 0 0]) (t := 29) ?hr ?_; (case hd => rfl); (case hg => rfl); (case hr => first | (go_simp; done) | (go_simp; rfl)); intro gb692 hg w18 hbox hb; have n0_ := Aside0.mk (blk_below (BD BK691) hb); have n1_ := Aside0.mk (below_step BG hb); have n2_ := Aside0.mk (hbox); have n3_ := Aside0.mk ((by rw [hg]; exact (below_size BG) : w.heap.size ≤ gb692)); have n4_ := Aside0.mk ((by rw [hg]; exact (below_size BG) : w.heap.size ≤ gb692)); have n5_ := Aside0.mk ((by rw [hg]; exact Nat.ne_of_lt (blk_lt (BD BK691)) : gb691 ≠ gb692)); have n6_ := Aside0.mk ((by rw [hg]; exact Nat.ne_of_gt (blk_lt (BD BK691)) : gb692 ≠ gb691)); clear BK691; clear HB; have BK691 := n0_; have HB := n1_; have BK692 := n2_; have GW692 := n3_; have GE692 := n4_; have NB691_692 := n5_; have NB692_691 := n6_; clear n0_ n1_ n2_ n3_ n4_ n5_ n6_; clear hb hbox hg; have hnb19 := NB691_692.out; have hnc19 := NB692_691.out; obtain ⟨hcz20_0, hcz20_1, hfz20_0, hfz20_1⟩ := bk2 BK691.out) | ((with_reducible refine gate_callee (f := 14) rfl ?_); refine goesL_ (some 7) rfl rfl Try.func14 (by kernel_rfl) rfl #[.agg #[.int .i64 a0_0, .slice A0_1 l0_1.length c0_1]] rfl AQ ?_; (with_reducible refine (impl_TableOk.calls k a0_0 _ _ l0_1 true _ ?side1 ?side2 A3.out).mono ?_); (case side1 => exact SC HR0_1); (case side2 => exact HC0_1.out); rintro e w21 ⟨rfl, hb⟩; refine ⟨_, rfl, ?_⟩; have n0_ := Aside0.mk (blk_below (BD BK691) hb); have n1_ := Aside0.mk (blk_below (BD BK692) hb); have n2_ := Aside0.mk (below_step BG hb); clear BK691; clear BK692; clear HB; have BK691 := n0_; have BK692 := n1_; have HB := n2_; clear n0_ n1_ n2_; (try clear hb); (try clear hb2); (try clear hk); (try clear hi); obtain ⟨hcz22_0, hcz22_1, hfz22_0, hfz22_1⟩ := bk2 BK691.out) | (go_at_call 44; (with_reducible refine (impl_within.calls a1 0 (wrap64 (a0_0 - 1)) false _ A5.out).mono ?_); rintro e w' ⟨rfl, ⟨nd, rfl⟩⟩; (try (rw [drewN_self w21]; generalize hq_ : World.drewN w21 _ = w21; have n0_ : Aside0 (w21.heap[gb691]? = some (.cells #[.int .i64 a0_0, .slice A0_1 l0_1.length c0_1] 29 (0, 0))) := ⟨by rw [← hq_]; exact (by (with_reducible repeat (first | refine blk_drewN ?_ _ | refine blk_drew ?_ | refine blk_alloc ?_ _)); exact BK691.out)⟩; have n1_ : Aside0 (w21.heap[gb692]? = some (.cells #[.int .i64 0, .slice none 0 0] 29 (0, 0))) := ⟨by rw [← hq_]; exact (by (with_reducible repeat (first | refine blk_drewN ?_ _ | refine blk_drew ?_ | refine blk_alloc ?_ _)); exact BK692.out)⟩; have n2_ : Aside0 (Below w.heap.size w w21) := ⟨by rw [← hq_]; exact BG⟩; clear BK691 BK692 HB hq_; have BK691 := n0_; have BK692 := n1_; have HB := n2_; clear n0_ n1_ n2_)); obtain ⟨hcz22_0, hcz22_1, hfz22_0, hfz22_1⟩ := bk2 BK691.out; obtain ⟨hcz23_0, hcz23_1, hfz23_0, hfz23_1⟩ := bk2 BK692.out))
   refine bodyPost_ret (results_ct rfl _ _ gb692 29 #[.int .i64 0, .slice none 0 0] (0, 0) _ rfl (by (with_reducible repeat (first | refine blk_drewN ?_ _ | refine blk_drew ?_ | refine blk_alloc ?_ _)); refine blk_put (cs := #[.int .i64 0, .slice none 0 0]) ?_ 1 _ rfl; (with_reducible repeat (first | refine blk_drewN ?_ _ | refine blk_drew ?_ | refine blk_alloc ?_ _)); refine blk_put (cs := #[.int .i64 0, .slice none 0 0]) ?_ 0 _ rfl; (with_reducible repeat (first | refine blk_drewN ?_ _ | refine blk_drew ?_ | refine blk_alloc ?_ _)); exact BK692.out) Try.underlying29 rfl (by kernel_rfl)) rfl ?_
   exact ⟨_, by first | rfl | (simp [errW_none, errW_some] <;> rfl) | (simp [*, errW_none, errW_some] <;> rfl), by first | exact Kd.R_nil _ _ _ _ _ | exact Kd.N_nil _ _ _ _ _ | exact Kd.V_nil _ _ _ _ _ | exact Kd.Q_nil _ _ _ _ _ | exact Kd.S_nil _ _ _ _ _, BG⟩
 ·replace c4 := Bool.eq_false_iff.mpr c4
  subst c4
  replace H := IN H
  simp only [Option.some.injEq, Prod.mk.injEq] at H
  obtain ⟨rfl, rfl, rfl⟩ := H
  go_enter Try.func32, Try.ntmps32
  go_wp2_with (first | ((with_reducible refine gate_dst (N := 2) rfl ?_); refine box_event ?hg (N := 2) ?hd (cs := #[.int .i64 a0_0, .slice A0_1 l0_1.length c0_1]) (t := 29) ?hr ?_; (case hd => rfl); (case hg => rfl); (case hr => first | (go_simp; done) | (go_simp; rfl)); intro gb691 hg w24 hbox hb; have n0_ := Aside0.mk (below_step BL hb); have n1_ := Aside0.mk (hbox); have n2_ := Aside0.mk ((by rw [hg]; exact (below_size BL) : w.heap.size ≤ gb691)); have n3_ := Aside0.mk ((by rw [hg]; exact (below_size BL) : w.heap.size ≤ gb691)); clear HB; have HB := n0_; have BK691 := n1_; have GW691 := n2_; have GE691 := n3_; clear n0_ n1_ n2_ n3_; clear hb hbox hg) | ((with_reducible refine gate_dst (N := 4) rfl ?_); refine box_event ?hg (N := 4) ?hd (cs := #[.int .i64 0, .slice none 0 0]) (t := 29) ?hr ?_; (case hd => rfl); (case hg => rfl); (case hr => first | (go_simp; done) | (go_simp; rfl)); intro gb692 hg w25 hbox hb; have n0_ := Aside0.mk (blk_below (BD BK691) hb); have n1_ := Aside0.mk (below_step BG hb); have n2_ := Aside0.mk (hbox); have n3_ := Aside0.mk ((by rw [hg]; exact (below_size BG) : w.heap.size ≤ gb692)); have n4_ := Aside0.mk ((by rw [hg]; exact (below_size BG) : w.heap.size ≤ gb692)); have n5_ := Aside0.mk ((by rw [hg]; exact Nat.ne_of_lt (blk_lt (BD BK691)) : gb691 ≠ gb692)); have n6_ := Aside0.mk ((by rw [hg]; exact Nat.ne_of_gt (blk_lt (BD BK691)) : gb692 ≠ gb691)); clear BK691; clear HB; have BK691 := n0_; have HB := n1_; have BK692 := n2_; have GW692 := n3_; have GE692 := n4_; have NB691_692 := n5_; have NB692_691 := n6_; clear n0_ n1_ n2_ n3_ n4_ n5_ n6_; clear hb hbox hg; have hnb26 := NB691_692.out; have hnc26 := NB692_691.out; obtain ⟨hcz27_0, hcz27_1, hfz27_0, hfz27_1⟩ := bk2 BK691.out) | ((with_reducible refine gate_callee (f := 14) rfl ?_); refine goesL_ (some 7) rfl rfl Try.func14 (by kernel_rfl) rfl #[.agg #[.int .i64 a0_0, .slice A0_1 l0_1.length c0_1]] rfl AQ ?_; (with_reducible refine (impl_TableOk.calls k a0_0 _ _ l0_1 false _ ?side1 ?side2 A3.out).mono ?_); (case side1 => exact SC HR0_1); (case side2 => exact HC0_1.out); rintro e w28 ⟨rfl, hb⟩; refine ⟨_, rfl, ?_⟩; have n0_ := Aside0.mk (blk_below (BD BK691) hb); have n1_ := Aside0.mk (blk_below (BD BK692) hb); have n2_ := Aside0.mk (below_step BG hb); clear BK691; clear BK692; clear HB; have BK691 := n0_; have BK692 := n1_; have HB := n2_; clear n0_ n1_ n2_; (try clear hb); (try clear hb2); (try clear hk); (try clear hi); obtain ⟨hcz29_0, hcz29_1, hfz29_0, hfz29_1⟩ := bk2 BK692.out))
  refine bodyPost_ret (results_ct rfl _ _ gb692 29 #[.int .i64 0, .slice none 0 0] (0, 0) _ rfl (by (with_reducible repeat (first | refine blk_drewN ?_ _ | refine blk_drew ?_ | refine blk_alloc ?_ _)); refine blk_put (cs := #[.int .i64 0, .slice none 0 0]) ?_ 1 _ rfl; (with_reducible repeat (first | refine blk_drewN ?_ _ | refine blk_drew ?_ | refine blk_alloc ?_ _)); refine blk_put (cs := #[.int .i64 0, .slice none 0 0]) ?_ 0 _ rfl; (with_reducible repeat (first | refine blk_drewN ?_ _ | refine blk_drew ?_ | refine blk_alloc ?_ _)); exact BK692.out) Try.underlying29 rfl (by kernel_rfl)) rfl ?_
  exact ⟨_, by first | rfl | (simp [errW_none, errW_some] <;> rfl) | (simp [*, errW_none, errW_some] <;> rfl), by first | exact Kd.R_nil _ _ _ _ _ | exact Kd.N_nil _ _ _ _ _ | exact Kd.V_nil _ _ _ _ _ | exact Kd.Q_nil _ _ _ _ _ | exact Kd.S_nil _ _ _ _ _, BG⟩
mutual
def laws_FnExactOpen.j0 : Nat → Int → Bool → Bool → Bool → Int → List (S78) → Int → List (S50) → Int → List (S50) → Int → List (S50) → Option (Bool)
 | 0, _, _, _, _, _, _, _, _, _, _, _, _ => none
 | k + 1, x1, x7, x10, x44, x700000, x700001, x711000, x711001, x716000, x716001, x722000, x722001 => if x44 = true then (none) else ((laws_toTable.f k x700000 x700001).bind fun bt723 => ((laws_eqTable.f k x716000 x716001 bt723.1 bt723.2).bind fun t727 => (if t727 = true then ((laws_markTable.f k x716000 x716001 1).bind fun bt728 => (if bt728.1 < 0 then (laws_FnExactOpen.j1 k x1 x7 true x700000 x700001 x711000 x711001 x722000 x722001) else ((laws_eqTable.f k x722000 x722001 x711000 x711001).bind fun t730 => (if t730 = true then (laws_FnExactOpen.j1 k x1 x7 (x10 != x7) x700000 x700001 x711000 x711001 x722000 x722001) else (laws_FnExactOpen.j1 k x1 x7 true x700000 x700001 x711000 x711001 x722000 x722001))))) else (none))))
def laws_FnExactOpen.j1 : Nat → Int → Bool → Bool → Int → List (S78) → Int → List (S50) → Int → List (S50) → Option (Bool)
 | 0, _, _, _, _, _, _, _, _, _ => none
 | k + 1, x1, x7, x65, x700000, x700001, x711000, x711001, x722000, x722001 => if x65 = true then (none) else ((laws_markTable.f k x722000 x722001 1).bind fun bt731 => ((laws_heldTable.f k x722000 bt731.2 1).bind fun t733 => (if t733 < 0 then (none) else (if t733 = bt731.1 then ((laws_toTable.f k x700000 x700001).bind fun bt734 => ((impl_Open.f k bt734.1 bt734.2 x1).bind fun bt738 => ((laws_eqTable.f k bt738.1 bt738.2.1 x711000 x711001).bind fun t744 => (if t744 = true then (laws_FnExactOpen.j2 k bt731.1 (bt738.2.2 != x7) x722000 bt731.2) else (laws_FnExactOpen.j2 k bt731.1 true x722000 bt731.2))))) else (none)))))
def laws_FnExactOpen.j2 : Nat → Int → Bool → Int → List (S50) → Option (Bool)
 | 0, _, _, _, _ => none
 | k + 1, x12, x92, x722000, x722001 => if x92 = true then (none) else ((laws_heldTable.f k x722000 x722001 1).bind fun t745 => (if t745 < 0 then (none) else (if t745 = x12 then (some true) else (none))))
end
def laws_FnExactOpen.f (k : Nat) (a0_0 : Int) (l0_1 : List (S78)) (a1 : Int) : Option (Bool) := (laws_szTable.f k a0_0 l0_1 1048576).bind fun t700 => (if t700 < 0 then (some true) else ((laws_toTable.f k a0_0 l0_1).bind fun bt701 => ((spec_Open.f k bt701.1 bt701.2 a1).bind fun bt705 => ((laws_toTable.f k a0_0 l0_1).bind fun bt711 => ((impl_Open.f k bt711.1 bt711.2 a1).bind fun bt716 => ((laws_eqTable.f k bt716.1 bt716.2.1 bt705.1 bt705.2.1).bind fun t722 => (if t722 = true then (laws_FnExactOpen.j0 k a1 bt705.2.2 bt716.2.2 (bt716.2.2 != bt705.2.2) a0_0 l0_1 bt705.1 bt705.2.1 bt711.1 bt711.2 bt716.1 bt716.2.1) else (laws_FnExactOpen.j0 k a1 bt705.2.2 bt716.2.2 true a0_0 l0_1 bt705.1 bt705.2.1 bt711.1 bt711.2 bt716.1 bt716.2.1))))))))
theorem laws_FnExactOpen.mono_l : ∀ k, (∀ y0 y1 y2 y3 y4 y5 y6 y7 y8 y9 y10 y11, LeO (laws_FnExactOpen.j0 k y0 y1 y2 y3 y4 y5 y6 y7 y8 y9 y10 y11) (laws_FnExactOpen.j0 (k + 1) y0 y1 y2 y3 y4 y5 y6 y7 y8 y9 y10 y11)) ∧ (∀ y0 y1 y2 y3 y4 y5 y6 y7 y8, LeO (laws_FnExactOpen.j1 k y0 y1 y2 y3 y4 y5 y6 y7 y8) (laws_FnExactOpen.j1 (k + 1) y0 y1 y2 y3 y4 y5 y6 y7 y8)) ∧ (∀ y0 y1 y2 y3, LeO (laws_FnExactOpen.j2 k y0 y1 y2 y3) (laws_FnExactOpen.j2 (k + 1) y0 y1 y2 y3))
 | 0 => ⟨fun _ _ _ _ _ _ _ _ _ _ _ _ r h => by simp [laws_FnExactOpen.j0] at h, fun _ _ _ _ _ _ _ _ _ r h => by simp [laws_FnExactOpen.j1] at h, fun _ _ _ _ r h => by simp [laws_FnExactOpen.j2] at h⟩
 | k + 1 => by
  obtain ⟨ih0, ih1, ih2⟩ := laws_FnExactOpen.mono_l k
  refine ⟨?_, ?_, ?_⟩
  ·intro y0 y1 y2 y3 y4 y5 y6 y7 y8 y9 y10 y11
   unfold laws_FnExactOpen.j0
   repeat' first | (with_reducible first | exact ih0 _ _ _ _ _ _ _ _ _ _ _ _ | exact ih1 _ _ _ _ _ _ _ _ _ | exact ih2 _ _ _ _ | exact impl_Open.mono _ _ _ _ | exact laws_eqTable.mono _ _ _ _ _ | exact laws_heldTable.mono _ _ _ _ | exact laws_markTable.mono _ _ _ _ | exact laws_szTable.mono _ _ _ _ | exact laws_toTable.mono _ _ _ | exact spec_Open.mono _ _ _ _ | exact LeO.refl _ | exact LeO.none _ | refine LeO.ite ?_ ?_ | refine LeO.bind ?_ (fun _ => ?_)) | exact ih0 _ _ _ _ _ _ _ _ _ _ _ _ | exact ih1 _ _ _ _ _ _ _ _ _ | exact ih2 _ _ _ _ | exact impl_Open.mono _ _ _ _ | exact laws_eqTable.mono _ _ _ _ _ | exact laws_heldTable.mono _ _ _ _ | exact laws_markTable.mono _ _ _ _ | exact laws_szTable.mono _ _ _ _ | exact laws_toTable.mono _ _ _ | exact spec_Open.mono _ _ _ _ | exact LeO.none _ | refine LeO.ite ?_ ?_ | refine LeO.bind ?_ (fun _ => ?_)
  ·intro y0 y1 y2 y3 y4 y5 y6 y7 y8
   unfold laws_FnExactOpen.j1
   repeat' first | (with_reducible first | exact ih0 _ _ _ _ _ _ _ _ _ _ _ _ | exact ih1 _ _ _ _ _ _ _ _ _ | exact ih2 _ _ _ _ | exact impl_Open.mono _ _ _ _ | exact laws_eqTable.mono _ _ _ _ _ | exact laws_heldTable.mono _ _ _ _ | exact laws_markTable.mono _ _ _ _ | exact laws_szTable.mono _ _ _ _ | exact laws_toTable.mono _ _ _ | exact spec_Open.mono _ _ _ _ | exact LeO.refl _ | exact LeO.none _ | refine LeO.ite ?_ ?_ | refine LeO.bind ?_ (fun _ => ?_)) | exact ih0 _ _ _ _ _ _ _ _ _ _ _ _ | exact ih1 _ _ _ _ _ _ _ _ _ | exact ih2 _ _ _ _ | exact impl_Open.mono _ _ _ _ | exact laws_eqTable.mono _ _ _ _ _ | exact laws_heldTable.mono _ _ _ _ | exact laws_markTable.mono _ _ _ _ | exact laws_szTable.mono _ _ _ _ | exact laws_toTable.mono _ _ _ | exact spec_Open.mono _ _ _ _ | exact LeO.none _ | refine LeO.ite ?_ ?_ | refine LeO.bind ?_ (fun _ => ?_)
  ·intro y0 y1 y2 y3
   unfold laws_FnExactOpen.j2
   repeat' first | (with_reducible first | exact ih0 _ _ _ _ _ _ _ _ _ _ _ _ | exact ih1 _ _ _ _ _ _ _ _ _ | exact ih2 _ _ _ _ | exact impl_Open.mono _ _ _ _ | exact laws_eqTable.mono _ _ _ _ _ | exact laws_heldTable.mono _ _ _ _ | exact laws_markTable.mono _ _ _ _ | exact laws_szTable.mono _ _ _ _ | exact laws_toTable.mono _ _ _ | exact spec_Open.mono _ _ _ _ | exact LeO.refl _ | exact LeO.none _ | refine LeO.ite ?_ ?_ | refine LeO.bind ?_ (fun _ => ?_)) | exact ih0 _ _ _ _ _ _ _ _ _ _ _ _ | exact ih1 _ _ _ _ _ _ _ _ _ | exact ih2 _ _ _ _ | exact impl_Open.mono _ _ _ _ | exact laws_eqTable.mono _ _ _ _ _ | exact laws_heldTable.mono _ _ _ _ | exact laws_markTable.mono _ _ _ _ | exact laws_szTable.mono _ _ _ _ | exact laws_toTable.mono _ _ _ | exact spec_Open.mono _ _ _ _ | exact LeO.none _ | refine LeO.ite ?_ ?_ | refine LeO.bind ?_ (fun _ => ?_)
theorem laws_FnExactOpen.mono : ∀ a0 a1 a2 k, LeO (laws_FnExactOpen.f k a0 a1 a2) (laws_FnExactOpen.f (k + 1) a0 a1 a2) := by
 intro a0 a1 a2 k
 obtain ⟨ih0, ih1, ih2⟩ := laws_FnExactOpen.mono_l k
 unfold laws_FnExactOpen.f
 repeat' first | (with_reducible first | exact ih0 _ _ _ _ _ _ _ _ _ _ _ _ | exact ih1 _ _ _ _ _ _ _ _ _ | exact ih2 _ _ _ _ | exact impl_Open.mono _ _ _ _ | exact laws_eqTable.mono _ _ _ _ _ | exact laws_heldTable.mono _ _ _ _ | exact laws_markTable.mono _ _ _ _ | exact laws_szTable.mono _ _ _ _ | exact laws_toTable.mono _ _ _ | exact spec_Open.mono _ _ _ _ | exact LeO.refl _ | exact LeO.none _ | refine LeO.ite ?_ ?_ | refine LeO.bind ?_ (fun _ => ?_)) | exact ih0 _ _ _ _ _ _ _ _ _ _ _ _ | exact ih1 _ _ _ _ _ _ _ _ _ | exact ih2 _ _ _ _ | exact impl_Open.mono _ _ _ _ | exact laws_eqTable.mono _ _ _ _ _ | exact laws_heldTable.mono _ _ _ _ | exact laws_markTable.mono _ _ _ _ | exact laws_szTable.mono _ _ _ _ | exact laws_toTable.mono _ _ _ | exact spec_Open.mono _ _ _ _ | exact LeO.none _ | refine LeO.ite ?_ ?_ | refine LeO.bind ?_ (fun _ => ?_)
set_option maxHeartbeats 8000000 in
set_option maxRecDepth 100000 in
theorem laws_FnExactOpen.calls (k : Nat) (a0_0 : Int) (A0_1 : Option Addr) (c0_1 : Nat) (l0_1 : List (S78)) (a1 : Int) (r : Bool) (w : World) (hr0_1 : Kd.C k78 w A0_1 l0_1.length l0_1) (hc0_1 : l0_1.length ≤ c0_1) (h : laws_FnExactOpen.f k a0_0 l0_1 a1 = some r) :
  Calls Try.prog 9 #[.agg #[.int .i64 a0_0, .slice A0_1 l0_1.length c0_1], .int .i64 a1] w fun e w' => e = .returned (.bool r) ∧ Below w.heap.size w w' := by
 have hu24 := Try.underlying24
 have hu29 := Try.underlying29
 have HR0_1 := Aside0.mk hr0_1
 have HC0_1 := Aside0.mk hc0_1
 clear hr0_1 hc0_1
 have HB := Aside0.mk (Below.refl w.heap.size w)
 have H : ((laws_szTable.f k a0_0 l0_1 1048576).bind fun t700 => (if t700 < 0 then (some true) else ((laws_toTable.f k a0_0 l0_1).bind fun bt701 => ((spec_Open.f k bt701.1 bt701.2 a1).bind fun bt705 => ((laws_toTable.f k a0_0 l0_1).bind fun bt711 => ((impl_Open.f k bt711.1 bt711.2 a1).bind fun bt716 => ((laws_eqTable.f k bt716.1 bt716.2.1 bt705.1 bt705.2.1).bind fun t722 => (if t722 = true then (laws_FnExactOpen.j0 k a1 bt705.2.2 bt716.2.2 (bt716.2.2 != bt705.2.2) a0_0 l0_1 bt705.1 bt705.2.1 bt711.1 bt711.2 bt716.1 bt716.2.1) else (laws_FnExactOpen.j0 k a1 bt705.2.2 bt716.2.2 true a0_0 l0_1 bt705.1 bt705.2.1 bt711.1 bt711.2 bt716.1 bt716.2.1))))))))) = some r := h
 clear h
 replace H := BS H
 obtain ⟨t700, A30, H⟩ := H
 have A3 := Aside0.mk A30
 clear A30
 by_cases c4 : t700 < 0
 ·rw [if_pos c4] at H
  have c4b0 : decide (t700 < 0) = true := decide_eq_true c4
  clear c4
  obtain rfl := Option.some.inj H
  go_enter Try.func9, Try.ntmps9
  go_wp2_with (first | ((with_reducible refine gate_dst (N := 2) rfl ?_); refine box_event ?hg (N := 2) ?hd (cs := #[.int .i64 a0_0, .slice A0_1 l0_1.length c0_1]) (t := 24) ?hr ?_; (case hd => rfl); (case hg => rfl); (case hr => first | (go_simp; done) | (go_simp; rfl)); intro gb699 hg w5 hbox hb; have n0_ := Aside0.mk (below_step BL hb); have n1_ := Aside0.mk (hbox); have n2_ := Aside0.mk ((by rw [hg]; exact (below_size BL) : w.heap.size ≤ gb699)); have n3_ := Aside0.mk ((by rw [hg]; exact (below_size BL) : w.heap.size ≤ gb699)); clear HB; have HB := n0_; have BK699 := n1_; have GW699 := n2_; have GE699 := n3_; clear n0_ n1_ n2_ n3_; clear hb hbox hg; obtain ⟨hcz6_0, hcz6_1, hfz6_0, hfz6_1⟩ := bk2 BK699.out) | ((with_reducible refine gate_callee (f := 11) rfl ?_); refine goesL_ (some 18) rfl rfl Try.func11 (by kernel_rfl) rfl #[.agg #[.int .i64 a0_0, .slice A0_1 l0_1.length c0_1], .int .i64 1048576] rfl AQ ?_; (with_reducible refine (laws_szTable.calls k a0_0 _ _ l0_1 1048576 t700 _ ?side1 ?side2 A3.out).mono ?_); (case side1 => exact SC HR0_1); (case side2 => exact HC0_1.out); rintro e w7 ⟨rfl, hb⟩; refine ⟨_, rfl, ?_⟩; have n0_ := Aside0.mk (blk_below (BD BK699) hb); have n1_ := Aside0.mk (below_step BG hb); clear BK699; clear HB; have BK699 := n0_; have HB := n1_; clear n0_ n1_; (try clear hb); (try clear hb2); (try clear hk); (try clear hi)))
  go_ret
  exact ⟨by first | rfl | (simp [errW_none, errW_some] <;> rfl) | (simp [*, errW_none, errW_some] <;> rfl), BG⟩
 ·rw [if_neg c4] at H
  have c4b0 : decide (t700 < 0) = false := decide_eq_false c4
  clear c4
  replace H := BS H
  obtain ⟨⟨t701, t702⟩, A80, H⟩ := H
  have A8 := Aside0.mk A80
  clear A80
  replace H := BS H
  obtain ⟨⟨t705, t706, t709⟩, A90, H⟩ := H
  have A9 := Aside0.mk A90
  clear A90
  replace H := BS H
  obtain ⟨⟨t711, t712⟩, A100, H⟩ := H
  have A10 := Aside0.mk A100
  clear A100
  replace H := BS H
  obtain ⟨⟨t716, t717, t720⟩, A110, H⟩ := H
  have A11 := Aside0.mk A110
  clear A110
  have HC12 := Aside0.mk H
  clear H
  go_enter Try.func9, Try.ntmps9
  go_upto_region 8 with (first | ((with_reducible refine gate_dst (N := 2) rfl ?_); refine box_event ?hg (N := 2) ?hd (cs := #[.int .i64 a0_0, .slice A0_1 l0_1.length c0_1]) (t := 24) ?hr ?_; (case hd => rfl); (case hg => rfl); (case hr => first | (go_simp; done) | (go_simp; rfl)); intro gb699 hg w13 hbox hb; have n0_ := Aside0.mk (below_step BL hb); have n1_ := Aside0.mk (hbox); have n2_ := Aside0.mk ((by rw [hg]; exact (below_size BL) : w.heap.size ≤ gb699)); have n3_ := Aside0.mk ((by rw [hg]; exact (below_size BL) : w.heap.size ≤ gb699)); clear HB; have HB := n0_; have BK699 := n1_; have GW699 := n2_; have GE699 := n3_; clear n0_ n1_ n2_ n3_; clear hb hbox hg; obtain ⟨hcz14_0, hcz14_1, hfz14_0, hfz14_1⟩ := bk2 BK699.out) | ((with_reducible refine gate_callee (f := 11) rfl ?_); refine goesL_ (some 18) rfl rfl Try.func11 (by kernel_rfl) rfl #[.agg #[.int .i64 a0_0, .slice A0_1 l0_1.length c0_1], .int .i64 1048576] rfl AQ ?_; (with_reducible refine (laws_szTable.calls k a0_0 _ _ l0_1 1048576 t700 _ ?side1 ?side2 A3.out).mono ?_); (case side1 => exact SC HR0_1); (case side2 => exact HC0_1.out); rintro e w15 ⟨rfl, hb⟩; refine ⟨_, rfl, ?_⟩; have n0_ := Aside0.mk (blk_below (BD BK699) hb); have n1_ := Aside0.mk (below_step BG hb); clear BK699; clear HB; have BK699 := n0_; have HB := n1_; clear n0_ n1_; (try clear hb); (try clear hb2); (try clear hk); (try clear hi); obtain ⟨hcz16_0, hcz16_1, hfz16_0, hfz16_1⟩ := bk2 BK699.out) | ((with_reducible refine gate_callee (f := 13) rfl ?_); refine goesL_ (some 23) rfl rfl Try.func13 (by kernel_rfl) rfl #[.agg #[.int .i64 a0_0, .slice A0_1 l0_1.length c0_1]] rfl AQ ?_; (with_reducible refine (laws_toTable.calls k a0_0 _ _ l0_1 t701 t702 _ ?side1 ?side2 A8.out).mono ?_); (case side1 => exact SC HR0_1); (case side2 => exact HC0_1.out); rintro e w17 ⟨v703, rfl, ho0, hb⟩; refine ⟨_, rfl, ?_⟩; have n0_ := Aside0.mk (Kd.R_lower ho0 (below_size BG)); have n1_ := Aside0.mk (blk_below (BD BK699) hb); have n2_ := Aside0.mk (below_step BG hb); clear BK699; clear HB; have HO704 := n0_; have BK699 := n1_; have HB := n2_; clear n0_ n1_ n2_; (try clear hb); (try clear hb2); (try clear hk); (try clear hi); (try clear ho0); obtain ⟨Ao18, co18, eo18⟩ := Kd.R_slice HO704.out; subst eo18) | ((with_reducible refine gate_callee (f := 31) rfl ?_); refine goesL_ (some 25) rfl rfl Try.func31 (by kernel_rfl) rfl #[.agg #[.int .i64 t701, .slice Ao18 t702.length co18], .int .i64 a1] rfl AQ ?_; (with_reducible refine (spec_Open.calls k t701 _ _ t702 a1 t705 t706 t709 _ ?side1 ?side2 A9.out).mono ?_); (case side1 => exact SR HO704); (case side2 => exact (Kd.R_reads' HO704.out).2.1); rintro e w19 ⟨v707, rfl, ho0, hb⟩; refine ⟨_, rfl, ?_⟩; have n0_ := Aside0.mk (Kd.R_elder' (RD HO704) (Kd.R_base ho0) hb); have n1_ := Aside0.mk (Kd.R_lower (Kd.R_new' ho0 (Kd.R_lt (RD HO704))) (below_size BG)); have n2_ := Aside0.mk (blk_below (BD BK699) hb); have n3_ := Aside0.mk (below_step BG hb); clear HO704; clear BK699; clear HB; have HO704 := n0_; have HO708 := n1_; have BK699 := n2_; have HB := n3_; clear n0_ n1_ n2_ n3_; (try clear hb); (try clear hb2); (try clear hk); (try clear hi); (try clear ho0)) | ((with_reducible refine gate_dst (N := 6) rfl ?_); refine box_event ?hg (N := 6) ?hd (cs := #[.int .i64 0, .slice none 0 0]) (t := 29) ?hr ?_; (case hd => rfl); (case hg => rfl); (case hr => first | (go_simp; done) | (go_simp; rfl)); intro gb710 hg w20 hbox hb; have n0_ := Aside0.mk (Kd.R_below (RD HO704) hb); have n1_ := Aside0.mk (Kd.R_below (RD HO708) hb); have n2_ := Aside0.mk (blk_below (BD BK699) hb); have n3_ := Aside0.mk (below_step BG hb); have n4_ := Aside0.mk (hbox); have n5_ := Aside0.mk ((by rw [hg]; exact (below_size BG) : w.heap.size ≤ gb710)); have n6_ := Aside0.mk ((by rw [hg]; exact (below_size BG) : w.heap.size ≤ gb710)); have n7_ := Aside0.mk ((by rw [hg]; exact Nat.ne_of_lt (blk_lt (BD BK699)) : gb699 ≠ gb710)); have n8_ := Aside0.mk ((by rw [hg]; exact Nat.ne_of_gt (blk_lt (BD BK699)) : gb710 ≠ gb699)); clear HO704; clear HO708; clear BK699; clear HB; have HO704 := n0_; have HO708 := n1_; have BK699 := n2_; have HB := n3_; have BK710 := n4_; have GW710 := n5_; have GE710 := n6_; have NB699_710 := n7_; have NB710_699 := n8_; clear n0_ n1_ n2_ n3_ n4_ n5_ n6_ n7_ n8_; clear hb hbox hg; have hnb21 := NB710_699.out; have hnc21 := NB699_710.out; obtain ⟨hcz22_0, hcz22_1, hfz22_0, hfz22_1⟩ := bk2 BK710.out; obtain ⟨Ao23, co23, eo23⟩ := Kd.R_slice HO708.out; subst eo23; obtain ⟨hcz24_0, hcz24_1, hfz24_0, hfz24_1⟩ := bk2 BK699.out) | ((with_reducible refine gate_callee (f := 13) rfl ?_); refine goesL_ (some 29) rfl rfl Try.func13 (by kernel_rfl) rfl #[.agg #[.int .i64 a0_0, .slice A0_1 l0_1.length c0_1]] rfl AQ ?_; (with_reducible refine (laws_toTable.calls k a0_0 _ _ l0_1 t711 t712 _ ?side1 ?side2 A10.out).mono ?_); (case side1 => exact Kd.C_below HR0_1.out BG); (case side2 => exact HC0_1.out); rintro e w25 ⟨v713, rfl, ho0, hb⟩; refine ⟨_, rfl, ?_⟩; have n0_ := Aside0.mk (Kd.R_elder' (by (with_reducible repeat (first | apply Kd.R_alloc | apply Kd.R_drewN | apply Kd.R_drew)); exact (FM (FR (FR (Kd.R_types HO704.out BK710.out (by decide)))))) (Kd.R_base ho0) hb); have n1_ := Aside0.mk (Kd.R_elder' (by (with_reducible repeat (first | apply Kd.R_alloc | apply Kd.R_drewN | apply Kd.R_drew)); exact (FM (FR (FR (Kd.R_types HO708.out BK710.out (by decide)))))) (Kd.R_base ho0) hb); have n2_ := Aside0.mk (Kd.R_lower (Kd.R_new' (Kd.R_new' ho0 (Kd.R_lt (by (with_reducible repeat (first | apply Kd.R_alloc | apply Kd.R_drewN | apply Kd.R_drew)); exact (FM (FR (FR (Kd.R_types HO704.out BK710.out (by decide)))))))) (Kd.R_lt (by (with_reducible repeat (first | apply Kd.R_alloc | apply Kd.R_drewN | apply Kd.R_drew)); exact (FM (FR (FR (Kd.R_types HO708.out BK710.out (by decide)))))))) (below_size BG)); have n3_ := Aside0.mk (blk_below (g := gb699) (o := .cells #[.int .i64 a0_0, .slice A0_1 l0_1.length c0_1] 24 (0, 0)) (by (with_reducible repeat (first | refine blk_drewN ?_ _ | refine blk_drew ?_ | refine blk_alloc ?_ _)); refine blk_far ?_ NB699_710.out _; (with_reducible repeat (first | refine blk_drewN ?_ _ | refine blk_drew ?_ | refine blk_alloc ?_ _)); refine blk_far ?_ NB699_710.out _; (with_reducible repeat (first | refine blk_drewN ?_ _ | refine blk_drew ?_ | refine blk_alloc ?_ _)); exact BK699.out) hb); have n4_ := Aside0.mk (blk_below (g := gb710) (o := .cells #[.int .i64 t705, .slice Ao23 t706.length co23] 29 (0, 0)) (by (with_reducible repeat (first | refine blk_drewN ?_ _ | refine blk_drew ?_ | refine blk_alloc ?_ _)); refine blk_put (cs := #[.int .i64 t705, .slice none 0 0]) ?_ 1 _ rfl; (with_reducible repeat (first | refine blk_drewN ?_ _ | refine blk_drew ?_ | refine blk_alloc ?_ _)); refine blk_put (cs := #[.int .i64 0, .slice none 0 0]) ?_ 0 _ rfl; (with_reducible repeat (first | refine blk_drewN ?_ _ | refine blk_drew ?_ | refine blk_alloc ?_ _)); exact BK710.out) hb); have n5_ := Aside0.mk (below_step BG hb); clear HO704; clear HO708; clear BK699; clear BK710; clear HB; have HO704 := n0_; have HO708 := n1_; have HO714 := n2_; have BK699 := n3_; have BK710 := n4_; have HB := n5_; clear n0_ n1_ n2_ n3_ n4_ n5_; (try clear hb); (try clear hb2); (try clear hk); (try clear hi); (try clear ho0)) | ((with_reducible refine gate_dst (N := 8) rfl ?_); refine box_event ?hg (N := 8) ?hd (cs := #[.int .i64 0, .slice none 0 0]) (t := 29) ?hr ?_; (case hd => rfl); (case hg => rfl); (case hr => first | (go_simp; done) | (go_simp; rfl)); intro gb715 hg w26 hbox hb; have n0_ := Aside0.mk (Kd.R_below (RD HO704) hb); have n1_ := Aside0.mk (Kd.R_below (RD HO708) hb); have n2_ := Aside0.mk (Kd.R_below (RD HO714) hb); have n3_ := Aside0.mk (blk_below (BD BK699) hb); have n4_ := Aside0.mk (blk_below (BD BK710) hb); have n5_ := Aside0.mk (below_step BG hb); have n6_ := Aside0.mk (hbox); have n7_ := Aside0.mk ((by rw [hg]; exact (below_size BG) : w.heap.size ≤ gb715)); have n8_ := Aside0.mk ((by rw [hg]; exact (below_size BG) : w.heap.size ≤ gb715)); have n9_ := Aside0.mk ((by rw [hg]; exact Nat.ne_of_lt (blk_lt (BD BK699)) : gb699 ≠ gb715)); have n10_ := Aside0.mk ((by rw [hg]; exact Nat.ne_of_gt (blk_lt (BD BK699)) : gb715 ≠ gb699)); have n11_ := Aside0.mk ((by rw [hg]; exact Nat.ne_of_lt (blk_lt (BD BK710)) : gb710 ≠ gb715)); have n12_ := Aside0.mk ((by rw [hg]; exact Nat.ne_of_gt (blk_lt (BD BK710)) : gb715 ≠ gb710)); clear HO704; clear HO708; clear HO714; clear BK699; clear BK710; clear HB; have HO704 := n0_; have HO708 := n1_; have HO714 := n2_; have BK699 := n3_; have BK710 := n4_; have HB := n5_; have BK715 := n6_; have GW715 := n7_; have GE715 := n8_; have NB699_715 := n9_; have NB715_699 := n10_; have NB710_715 := n11_; have NB715_710 := n12_; clear n0_ n1_ n2_ n3_ n4_ n5_ n6_ n7_ n8_ n9_ n10_ n11_ n12_; clear hb hbox hg; have hnb27 := NB715_699.out; have hnc27 := NB699_715.out; have hnb28 := NB715_710.out; have hnc28 := NB710_715.out; obtain ⟨hcz29_0, hcz29_1, hfz29_0, hfz29_1⟩ := bk2 BK715.out; obtain ⟨Ao30, co30, eo30⟩ := Kd.R_slice HO714.out; subst eo30) | ((with_reducible refine gate_callee (f := 32) rfl ?_); refine goesL_ (some 33) rfl rfl Try.func32 (by kernel_rfl) rfl #[.agg #[.int .i64 t711, .slice Ao30 t712.length co30], .int .i64 a1] rfl AQ ?_; (with_reducible refine (impl_Open.calls k t711 _ _ t712 a1 t716 t717 t720 _ ?side1 ?side2 A11.out).mono ?_); (case side1 => refine (Kd.R_reads' (e := 50) (base := w.heap.size) (ok := fun k_ => ((True ∧ some k_ ≠ (.slice Ao18 t702.length co18 : Value).ownBlock) ∧ some k_ ≠ (.slice Ao23 t706.length co23 : Value).ownBlock)) (n := t712.length) (c := co30) ?_).2.2; exact (by (with_reducible repeat (first | apply Kd.R_alloc | apply Kd.R_drewN | apply Kd.R_drew)); exact (FM (FR (FR (Kd.R_types HO714.out BK715.out (by decide))))))); (case side2 => exact (Kd.R_reads' HO714.out).2.1); rintro e w31 ⟨v718, rfl, ho0, hb⟩; refine ⟨_, rfl, ?_⟩; have n0_ := Aside0.mk (Kd.R_elder' (by (with_reducible repeat (first | apply Kd.R_alloc | apply Kd.R_drewN | apply Kd.R_drew)); exact (FM (FR (FR (Kd.R_types HO704.out BK715.out (by decide)))))) (Kd.R_base ho0) hb); have n1_ := Aside0.mk (Kd.R_elder' (by (with_reducible repeat (first | apply Kd.R_alloc | apply Kd.R_drewN | apply Kd.R_drew)); exact (FM (FR (FR (Kd.R_types HO708.out BK715.out (by decide)))))) (Kd.R_base ho0) hb); have n2_ := Aside0.mk (Kd.R_elder' (by (with_reducible repeat (first | apply Kd.R_alloc | apply Kd.R_drewN | apply Kd.R_drew)); exact (FM (FR (FR (Kd.R_types HO714.out BK715.out (by decide)))))) (Kd.R_base ho0) hb); have n3_ := Aside0.mk (Kd.R_lower (Kd.R_new' (Kd.R_new' (Kd.R_new' ho0 (Kd.R_lt (by (with_reducible repeat (first | apply Kd.R_alloc | apply Kd.R_drewN | apply Kd.R_drew)); exact (FM (FR (FR (Kd.R_types HO704.out BK715.out (by decide)))))))) (Kd.R_lt (by (with_reducible repeat (first | apply Kd.R_alloc | apply Kd.R_drewN | apply Kd.R_drew)); exact (FM (FR (FR (Kd.R_types HO708.out BK715.out (by decide)))))))) (Kd.R_lt (by (with_reducible repeat (first | apply Kd.R_alloc | apply Kd.R_drewN | apply Kd.R_drew)); exact (FM (FR (FR (Kd.R_types HO714.out BK715.out (by decide)))))))) (below_size BG)); have n4_ := Aside0.mk (blk_below (g := gb699) (o := .cells #[.int .i64 a0_0, .slice A0_1 l0_1.length c0_1] 24 (0, 0)) (by (with_reducible repeat (first | refine blk_drewN ?_ _ | refine blk_drew ?_ | refine blk_alloc ?_ _)); refine blk_far ?_ NB699_715.out _; (with_reducible repeat (first | refine blk_drewN ?_ _ | refine blk_drew ?_ | refine blk_alloc ?_ _)); refine blk_far ?_ NB699_715.out _; (with_reducible repeat (first | refine blk_drewN ?_ _ | refine blk_drew ?_ | refine blk_alloc ?_ _)); exact BK699.out) hb); have n5_ := Aside0.mk (blk_below (g := gb710) (o := .cells #[.int .i64 t705, .slice Ao23 t706.length co23] 29 (0, 0)) (by (with_reducible repeat (first | refine blk_drewN ?_ _ | refine blk_drew ?_ | refine blk_alloc ?_ _)); refine blk_far ?_ NB710_715.out _; (with_reducible repeat (first | refine blk_drewN ?_ _ | refine blk_drew ?_ | refine blk_alloc ?_ _)); refine blk_far ?_ NB710_715.out _; (with_reducible repeat (first | refine blk_drewN ?_ _ | refine blk_drew ?_ | refine blk_alloc ?_ _)); exact BK710.out) hb); have n6_ := Aside0.mk (blk_below (g := gb715) (o := .cells #[.int .i64 t711, .slice Ao30 t712.length co30] 29 (0, 0)) (by (with_reducible repeat (first | refine blk_drewN ?_ _ | refine blk_drew ?_ | refine blk_alloc ?_ _)); refine blk_put (cs := #[.int .i64 t711, .slice none 0 0]) ?_ 1 _ rfl; (with_reducible repeat (first | refine blk_drewN ?_ _ | refine blk_drew ?_ | refine blk_alloc ?_ _)); refine blk_put (cs := #[.int .i64 0, .slice none 0 0]) ?_ 0 _ rfl; (with_reducible repeat (first | refine blk_drewN ?_ _ | refine blk_drew ?_ | refine blk_alloc ?_ _)); exact BK715.out) hb); have n7_ := Aside0.mk (below_step BG hb); clear HO704; clear HO708; clear HO714; clear BK699; clear BK710; clear BK715; clear HB; have HO704 := n0_; have HO708 := n1_; have HO714 := n2_; have HO719 := n3_; have BK699 := n4_; have BK710 := n5_; have BK715 := n6_; have HB := n7_; clear n0_ n1_ n2_ n3_ n4_ n5_ n6_ n7_; (try clear hb); (try clear hb2); (try clear hk); (try clear hi); (try clear ho0)) | ((with_reducible refine gate_dst (N := 9) rfl ?_); refine box_event ?hg (N := 9) ?hd (cs := #[.int .i64 0, .slice none 0 0]) (t := 29) ?hr ?_; (case hd => rfl); (case hg => rfl); (case hr => first | (go_simp; done) | (go_simp; rfl)); intro gb721 hg w32 hbox hb; have n0_ := Aside0.mk (Kd.R_below (RD HO704) hb); have n1_ := Aside0.mk (Kd.R_below (RD HO708) hb); have n2_ := Aside0.mk (Kd.R_below (RD HO714) hb); have n3_ := Aside0.mk (Kd.R_below (RD HO719) hb); have n4_ := Aside0.mk (blk_below (BD BK699) hb); have n5_ := Aside0.mk (blk_below (BD BK710) hb); have n6_ := Aside0.mk (blk_below (BD BK715) hb); have n7_ := Aside0.mk (below_step BG hb); have n8_ := Aside0.mk (hbox); have n9_ := Aside0.mk ((by rw [hg]; exact (below_size BG) : w.heap.size ≤ gb721)); have n10_ := Aside0.mk ((by rw [hg]; exact (below_size BG) : w.heap.size ≤ gb721)); have n11_ := Aside0.mk ((by rw [hg]; exact Nat.ne_of_lt (blk_lt (BD BK699)) : gb699 ≠ gb721)); have n12_ := Aside0.mk ((by rw [hg]; exact Nat.ne_of_gt (blk_lt (BD BK699)) : gb721 ≠ gb699)); have n13_ := Aside0.mk ((by rw [hg]; exact Nat.ne_of_lt (blk_lt (BD BK710)) : gb710 ≠ gb721)); have n14_ := Aside0.mk ((by rw [hg]; exact Nat.ne_of_gt (blk_lt (BD BK710)) : gb721 ≠ gb710)); have n15_ := Aside0.mk ((by rw [hg]; exact Nat.ne_of_lt (blk_lt (BD BK715)) : gb715 ≠ gb721)); have n16_ := Aside0.mk ((by rw [hg]; exact Nat.ne_of_gt (blk_lt (BD BK715)) : gb721 ≠ gb715)); clear HO704; clear HO708; clear HO714; clear HO719; clear BK699; clear BK710; clear BK715; clear HB; have HO704 := n0_; have HO708 := n1_; have HO714 := n2_; have HO719 := n3_; have BK699 := n4_; have BK710 := n5_; have BK715 := n6_; have HB := n7_; have BK721 := n8_; have GW721 := n9_; have GE721 := n10_; have NB699_721 := n11_; have NB721_699 := n12_; have NB710_721 := n13_; have NB721_710 := n14_; have NB715_721 := n15_; have NB721_715 := n16_; clear n0_ n1_ n2_ n3_ n4_ n5_ n6_ n7_ n8_ n9_ n10_ n11_ n12_ n13_ n14_ n15_ n16_; clear hb hbox hg; have hnb33 := NB721_699.out; have hnc33 := NB699_721.out; have hnb34 := NB721_710.out; have hnc34 := NB710_721.out; have hnb35 := NB721_715.out; have hnc35 := NB715_721.out; obtain ⟨hcz36_0, hcz36_1, hfz36_0, hfz36_1⟩ := bk2 BK721.out; obtain ⟨Ao37, co37, eo37⟩ := Kd.R_slice HO719.out; subst eo37))
  (try simp only [Act.put, List.setIfInBounds_toArray, List.set_cons_zero, List.set_cons_succ])
  go_cut [44] (fun v44 wc => ∃ (kq : Nat) (x44_11 : Bool), v44 = .bool x44_11 ∧ Aside0 (laws_FnExactOpen.j0 kq a1 t709 t720 x44_11 a0_0 l0_1 t705 t706 t711 t712 t716 t717 = some r) ∧ Aside0 (kq ≤ k) ∧ Aside0 (Kd.R k50 50 wc w.heap.size (fun k_ => some k_ ≠ ((.slice Ao30 t712.length co30) : Value).ownBlock ∧ some k_ ≠ ((.slice Ao37 t717.length co37) : Value).ownBlock) (.slice Ao23 t706.length co23) t706) ∧ Aside0 (Kd.R k50 50 wc w.heap.size (fun k_ => some k_ ≠ ((.slice Ao23 t706.length co23) : Value).ownBlock ∧ some k_ ≠ ((.slice Ao37 t717.length co37) : Value).ownBlock) (.slice Ao30 t712.length co30) t712) ∧ Aside0 (Kd.R k50 50 wc w.heap.size (fun k_ => some k_ ≠ ((.slice Ao23 t706.length co23) : Value).ownBlock ∧ some k_ ≠ ((.slice Ao30 t712.length co30) : Value).ownBlock) (.slice Ao37 t717.length co37) t717) ∧ Aside0 (wc.heap[gb699]? = some (.cells #[.int .i64 a0_0, (.slice A0_1 l0_1.length c0_1)] 24 (0, 0))) ∧ Aside0 (wc.heap[gb710]? = some (.cells #[.int .i64 t705, (.slice Ao23 t706.length co23)] 29 (0, 0))) ∧ Aside0 (wc.heap[gb715]? = some (.cells #[.int .i64 t711, (.slice Ao30 t712.length co30)] 29 (0, 0))) ∧ Aside0 (wc.heap[gb721]? = some (.cells #[.int .i64 t716, (.slice Ao37 t717.length co37)] 29 (0, 0))) ∧ Aside0 (Below w.heap.size w wc))
  case first =>
   have H := HC12.out
   clear HC12
   replace H := BS H
   obtain ⟨t722, A380, H⟩ := H
   have A38 := Aside0.mk A380
   clear A380
   by_cases c39 : t722 = true
   ·subst c39
    replace H := IP H
    have H' := Aside0.mk H
    clear H
    have hnb40 := NB721_699.out
    have hnc40 := NB699_721.out
    have hnb41 := NB721_710.out
    have hnc41 := NB710_721.out
    have hnb42 := NB721_715.out
    have hnc42 := NB715_721.out
    obtain ⟨hcz43_0, hcz43_1, hfz43_0, hfz43_1⟩ := bk2 BK721.out
    have hnb44 := NB710_699.out
    have hnc44 := NB699_710.out
    have hnb45 := NB710_715.out
    have hnc45 := NB715_710.out
    obtain ⟨hcz46_0, hcz46_1, hfz46_0, hfz46_1⟩ := bk2 BK710.out
    go_wp2_with (first | ((with_reducible refine gate_callee (f := 15) rfl ?_); refine goesL_ (some 38) rfl rfl Try.func15 (by kernel_rfl) rfl #[.agg #[.int .i64 t716, .slice Ao37 t717.length co37], .agg #[.int .i64 t705, .slice Ao23 t706.length co23]] rfl AQ ?_; (with_reducible refine (laws_eqTable.calls k t716 _ _ t717 t705 _ _ t706 true _ ?side1 ?side2 ?side3 ?side4 A38.out).mono ?_); (case side1 => refine (Kd.R_reads' (e := 50) (base := w.heap.size) (ok := fun k_ => (((True ∧ some k_ ≠ (.slice Ao18 t702.length co18 : Value).ownBlock) ∧ some k_ ≠ (.slice Ao23 t706.length co23 : Value).ownBlock) ∧ some k_ ≠ (.slice Ao30 t712.length co30 : Value).ownBlock)) (n := t717.length) (c := co37) ?_).2.2; exact (by (with_reducible repeat (first | apply Kd.R_alloc | apply Kd.R_drewN | apply Kd.R_drew)); exact (FM (FR (FR (Kd.R_types HO719.out BK721.out (by decide))))))); (case side2 => exact (Kd.R_reads' HO719.out).2.1); (case side3 => refine (Kd.R_reads' (e := 50) (base := w.heap.size) (ok := fun k_ => (((True ∧ some k_ ≠ (.slice Ao18 t702.length co18 : Value).ownBlock) ∧ some k_ ≠ (.slice Ao30 t712.length co30 : Value).ownBlock) ∧ some k_ ≠ (.slice Ao37 t717.length co37 : Value).ownBlock)) (n := t706.length) (c := co23) ?_).2.2; exact (by (with_reducible repeat (first | apply Kd.R_alloc | apply Kd.R_drewN | apply Kd.R_drew)); exact (FM (FR (FR (Kd.R_types HO708.out BK721.out (by decide))))))); (case side4 => exact (Kd.R_reads' HO708.out).2.1); rintro e w47 ⟨rfl, hb⟩; refine ⟨_, rfl, ?_⟩; have n0_ := Aside0.mk (Kd.R_below (by (with_reducible repeat (first | apply Kd.R_alloc | apply Kd.R_drewN | apply Kd.R_drew)); exact (FM (FR (FR (Kd.R_types HO704.out BK721.out (by decide)))))) hb); have n1_ := Aside0.mk (Kd.R_below (by (with_reducible repeat (first | apply Kd.R_alloc | apply Kd.R_drewN | apply Kd.R_drew)); exact (FM (FR (FR (Kd.R_types HO708.out BK721.out (by decide)))))) hb); have n2_ := Aside0.mk (Kd.R_below (by (with_reducible repeat (first | apply Kd.R_alloc | apply Kd.R_drewN | apply Kd.R_drew)); exact (FM (FR (FR (Kd.R_types HO714.out BK721.out (by decide)))))) hb); have n3_ := Aside0.mk (Kd.R_below (by (with_reducible repeat (first | apply Kd.R_alloc | apply Kd.R_drewN | apply Kd.R_drew)); exact (FM (FR (FR (Kd.R_types HO719.out BK721.out (by decide)))))) hb); have n4_ := Aside0.mk (blk_below (g := gb699) (o := .cells #[.int .i64 a0_0, .slice A0_1 l0_1.length c0_1] 24 (0, 0)) (by (with_reducible repeat (first | refine blk_drewN ?_ _ | refine blk_drew ?_ | refine blk_alloc ?_ _)); refine blk_far ?_ NB699_721.out _; (with_reducible repeat (first | refine blk_drewN ?_ _ | refine blk_drew ?_ | refine blk_alloc ?_ _)); refine blk_far ?_ NB699_721.out _; (with_reducible repeat (first | refine blk_drewN ?_ _ | refine blk_drew ?_ | refine blk_alloc ?_ _)); exact BK699.out) hb); have n5_ := Aside0.mk (blk_below (g := gb710) (o := .cells #[.int .i64 t705, .slice Ao23 t706.length co23] 29 (0, 0)) (by (with_reducible repeat (first | refine blk_drewN ?_ _ | refine blk_drew ?_ | refine blk_alloc ?_ _)); refine blk_far ?_ NB710_721.out _; (with_reducible repeat (first | refine blk_drewN ?_ _ | refine blk_drew ?_ | refine blk_alloc ?_ _)); refine blk_far ?_ NB710_721.out _; (with_reducible repeat (first | refine blk_drewN ?_ _ | refine blk_drew ?_ | refine blk_alloc ?_ _)); exact BK710.out) hb); have n6_ := Aside0.mk (blk_below (g := gb715) (o := .cells #[.int .i64 t711, .slice Ao30 t712.length co30] 29 (0, 0)) (by (with_reducible repeat (first | refine blk_drewN ?_ _ | refine blk_drew ?_ | refine blk_alloc ?_ _)); refine blk_far ?_ NB715_721.out _; (with_reducible repeat (first | refine blk_drewN ?_ _ | refine blk_drew ?_ | refine blk_alloc ?_ _)); refine blk_far ?_ NB715_721.out _; (with_reducible repeat (first | refine blk_drewN ?_ _ | refine blk_drew ?_ | refine blk_alloc ?_ _)); exact BK715.out) hb); have n7_ := Aside0.mk (blk_below (g := gb721) (o := .cells #[.int .i64 t716, .slice Ao37 t717.length co37] 29 (0, 0)) (by (with_reducible repeat (first | refine blk_drewN ?_ _ | refine blk_drew ?_ | refine blk_alloc ?_ _)); refine blk_put (cs := #[.int .i64 t716, .slice none 0 0]) ?_ 1 _ rfl; (with_reducible repeat (first | refine blk_drewN ?_ _ | refine blk_drew ?_ | refine blk_alloc ?_ _)); refine blk_put (cs := #[.int .i64 0, .slice none 0 0]) ?_ 0 _ rfl; (with_reducible repeat (first | refine blk_drewN ?_ _ | refine blk_drew ?_ | refine blk_alloc ?_ _)); exact BK721.out) hb); have n8_ := Aside0.mk (below_step BG hb); clear HO704; clear HO708; clear HO714; clear HO719; clear BK699; clear BK710; clear BK715; clear BK721; clear HB; have HO704 := n0_; have HO708 := n1_; have HO714 := n2_; have HO719 := n3_; have BK699 := n4_; have BK710 := n5_; have BK715 := n6_; have BK721 := n7_; have HB := n8_; clear n0_ n1_ n2_ n3_ n4_ n5_ n6_ n7_ n8_; (try clear hb); (try clear hb2); (try clear hk); (try clear hi)))
    go_meet
    case rel => exact ⟨_, ((t720 != t709)), RS, H', ⟨by first | omega | exact Nat.le_refl _⟩, ⟨by (with_reducible repeat (first | apply Kd.R_alloc | apply Kd.R_drewN | apply Kd.R_drew)); exact Kd.R_mono HO708.out (fun _ hk => ⟨hk.1.2, hk.2⟩)⟩, ⟨by (with_reducible repeat (first | apply Kd.R_alloc | apply Kd.R_drewN | apply Kd.R_drew)); exact Kd.R_mono HO714.out (fun _ hk => ⟨hk.1.2, hk.2⟩)⟩, ⟨by (with_reducible repeat (first | apply Kd.R_alloc | apply Kd.R_drewN | apply Kd.R_drew)); exact Kd.R_mono HO719.out (fun _ hk => ⟨hk.1.2, hk.2⟩)⟩, ⟨by (with_reducible repeat (first | refine blk_drewN ?_ _ | refine blk_drew ?_ | refine blk_alloc ?_ _)); exact BK699.out⟩, ⟨by (with_reducible repeat (first | refine blk_drewN ?_ _ | refine blk_drew ?_ | refine blk_alloc ?_ _)); exact BK710.out⟩, ⟨by (with_reducible repeat (first | refine blk_drewN ?_ _ | refine blk_drew ?_ | refine blk_alloc ?_ _)); exact BK715.out⟩, ⟨by (with_reducible repeat (first | refine blk_drewN ?_ _ | refine blk_drew ?_ | refine blk_alloc ?_ _)); exact BK721.out⟩, ⟨by repeat (first | (with_reducible first | exact HB.out | apply below_alloc | apply pw_below_drewN | apply below_drew1 | refine below_set ?_ GE699.out | refine below_set ?_ GE710.out | refine below_set ?_ GE715.out | refine below_set ?_ GE721.out) | exact HB.out)⟩⟩
   ·replace c39 := Bool.eq_false_iff.mpr c39
    subst c39
    replace H := IN H
    have H' := Aside0.mk H
    clear H
    have hnb48 := NB721_699.out
    have hnc48 := NB699_721.out
    have hnb49 := NB721_710.out
    have hnc49 := NB710_721.out
    have hnb50 := NB721_715.out
    have hnc50 := NB715_721.out
    obtain ⟨hcz51_0, hcz51_1, hfz51_0, hfz51_1⟩ := bk2 BK721.out
    have hnb52 := NB710_699.out
    have hnc52 := NB699_710.out
    have hnb53 := NB710_715.out
    have hnc53 := NB715_710.out
    obtain ⟨hcz54_0, hcz54_1, hfz54_0, hfz54_1⟩ := bk2 BK710.out
    go_wp2_with (first | ((with_reducible refine gate_callee (f := 15) rfl ?_); refine goesL_ (some 38) rfl rfl Try.func15 (by kernel_rfl) rfl #[.agg #[.int .i64 t716, .slice Ao37 t717.length co37], .agg #[.int .i64 t705, .slice Ao23 t706.length co23]] rfl AQ ?_; (with_reducible refine (laws_eqTable.calls k t716 _ _ t717 t705 _ _ t706 false _ ?side1 ?side2 ?side3 ?side4 A38.out).mono ?_); (case side1 => refine (Kd.R_reads' (e := 50) (base := w.heap.size) (ok := fun k_ => (((True ∧ some k_ ≠ (.slice Ao18 t702.length co18 : Value).ownBlock) ∧ some k_ ≠ (.slice Ao23 t706.length co23 : Value).ownBlock) ∧ some k_ ≠ (.slice Ao30 t712.length co30 : Value).ownBlock)) (n := t717.length) (c := co37) ?_).2.2; exact (by (with_reducible repeat (first | apply Kd.R_alloc | apply Kd.R_drewN | apply Kd.R_drew)); exact (FM (FR (FR (Kd.R_types HO719.out BK721.out (by decide))))))); (case side2 => exact (Kd.R_reads' HO719.out).2.1); (case side3 => refine (Kd.R_reads' (e := 50) (base := w.heap.size) (ok := fun k_ => (((True ∧ some k_ ≠ (.slice Ao18 t702.length co18 : Value).ownBlock) ∧ some k_ ≠ (.slice Ao30 t712.length co30 : Value).ownBlock) ∧ some k_ ≠ (.slice Ao37 t717.length co37 : Value).ownBlock)) (n := t706.length) (c := co23) ?_).2.2; exact (by (with_reducible repeat (first | apply Kd.R_alloc | apply Kd.R_drewN | apply Kd.R_drew)); exact (FM (FR (FR (Kd.R_types HO708.out BK721.out (by decide))))))); (case side4 => exact (Kd.R_reads' HO708.out).2.1); rintro e w55 ⟨rfl, hb⟩; refine ⟨_, rfl, ?_⟩; have n0_ := Aside0.mk (Kd.R_below (by (with_reducible repeat (first | apply Kd.R_alloc | apply Kd.R_drewN | apply Kd.R_drew)); exact (FM (FR (FR (Kd.R_types HO704.out BK721.out (by decide)))))) hb); have n1_ := Aside0.mk (Kd.R_below (by (with_reducible repeat (first | apply Kd.R_alloc | apply Kd.R_drewN | apply Kd.R_drew)); exact (FM (FR (FR (Kd.R_types HO708.out BK721.out (by decide)))))) hb); have n2_ := Aside0.mk (Kd.R_below (by (with_reducible repeat (first | apply Kd.R_alloc | apply Kd.R_drewN | apply Kd.R_drew)); exact (FM (FR (FR (Kd.R_types HO714.out BK721.out (by decide)))))) hb); have n3_ := Aside0.mk (Kd.R_below (by (with_reducible repeat (first | apply Kd.R_alloc | apply Kd.R_drewN | apply Kd.R_drew)); exact (FM (FR (FR (Kd.R_types HO719.out BK721.out (by decide)))))) hb); have n4_ := Aside0.mk (blk_below (g := gb699) (o := .cells #[.int .i64 a0_0, .slice A0_1 l0_1.length c0_1] 24 (0, 0)) (by (with_reducible repeat (first | refine blk_drewN ?_ _ | refine blk_drew ?_ | refine blk_alloc ?_ _)); refine blk_far ?_ NB699_721.out _; (with_reducible repeat (first | refine blk_drewN ?_ _ | refine blk_drew ?_ | refine blk_alloc ?_ _)); refine blk_far ?_ NB699_721.out _; (with_reducible repeat (first | refine blk_drewN ?_ _ | refine blk_drew ?_ | refine blk_alloc ?_ _)); exact BK699.out) hb); have n5_ := Aside0.mk (blk_below (g := gb710) (o := .cells #[.int .i64 t705, .slice Ao23 t706.length co23] 29 (0, 0)) (by (with_reducible repeat (first | refine blk_drewN ?_ _ | refine blk_drew ?_ | refine blk_alloc ?_ _)); refine blk_far ?_ NB710_721.out _; (with_reducible repeat (first | refine blk_drewN ?_ _ | refine blk_drew ?_ | refine blk_alloc ?_ _)); refine blk_far ?_ NB710_721.out _; (with_reducible repeat (first | refine blk_drewN ?_ _ | refine blk_drew ?_ | refine blk_alloc ?_ _)); exact BK710.out) hb); have n6_ := Aside0.mk (blk_below (g := gb715) (o := .cells #[.int .i64 t711, .slice Ao30 t712.length co30] 29 (0, 0)) (by (with_reducible repeat (first | refine blk_drewN ?_ _ | refine blk_drew ?_ | refine blk_alloc ?_ _)); refine blk_far ?_ NB715_721.out _; (with_reducible repeat (first | refine blk_drewN ?_ _ | refine blk_drew ?_ | refine blk_alloc ?_ _)); refine blk_far ?_ NB715_721.out _; (with_reducible repeat (first | refine blk_drewN ?_ _ | refine blk_drew ?_ | refine blk_alloc ?_ _)); exact BK715.out) hb); have n7_ := Aside0.mk (blk_below (g := gb721) (o := .cells #[.int .i64 t716, .slice Ao37 t717.length co37] 29 (0, 0)) (by (with_reducible repeat (first | refine blk_drewN ?_ _ | refine blk_drew ?_ | refine blk_alloc ?_ _)); refine blk_put (cs := #[.int .i64 t716, .slice none 0 0]) ?_ 1 _ rfl; (with_reducible repeat (first | refine blk_drewN ?_ _ | refine blk_drew ?_ | refine blk_alloc ?_ _)); refine blk_put (cs := #[.int .i64 0, .slice none 0 0]) ?_ 0 _ rfl; (with_reducible repeat (first | refine blk_drewN ?_ _ | refine blk_drew ?_ | refine blk_alloc ?_ _)); exact BK721.out) hb); have n8_ := Aside0.mk (below_step BG hb); clear HO704; clear HO708; clear HO714; clear HO719; clear BK699; clear BK710; clear BK715; clear BK721; clear HB; have HO704 := n0_; have HO708 := n1_; have HO714 := n2_; have HO719 := n3_; have BK699 := n4_; have BK710 := n5_; have BK715 := n6_; have BK721 := n7_; have HB := n8_; clear n0_ n1_ n2_ n3_ n4_ n5_ n6_ n7_ n8_; (try clear hb); (try clear hb2); (try clear hk); (try clear hi)))
    go_meet
    case rel => exact ⟨_, (true), RS, H', ⟨by first | omega | exact Nat.le_refl _⟩, ⟨by (with_reducible repeat (first | apply Kd.R_alloc | apply Kd.R_drewN | apply Kd.R_drew)); exact Kd.R_mono HO708.out (fun _ hk => ⟨hk.1.2, hk.2⟩)⟩, ⟨by (with_reducible repeat (first | apply Kd.R_alloc | apply Kd.R_drewN | apply Kd.R_drew)); exact Kd.R_mono HO714.out (fun _ hk => ⟨hk.1.2, hk.2⟩)⟩, ⟨by (with_reducible repeat (first | apply Kd.R_alloc | apply Kd.R_drewN | apply Kd.R_drew)); exact Kd.R_mono HO719.out (fun _ hk => ⟨hk.1.2, hk.2⟩)⟩, ⟨by (with_reducible repeat (first | refine blk_drewN ?_ _ | refine blk_drew ?_ | refine blk_alloc ?_ _)); exact BK699.out⟩, ⟨by (with_reducible repeat (first | refine blk_drewN ?_ _ | refine blk_drew ?_ | refine blk_alloc ?_ _)); exact BK710.out⟩, ⟨by (with_reducible repeat (first | refine blk_drewN ?_ _ | refine blk_drew ?_ | refine blk_alloc ?_ _)); exact BK715.out⟩, ⟨by (with_reducible repeat (first | refine blk_drewN ?_ _ | refine blk_drew ?_ | refine blk_alloc ?_ _)); exact BK721.out⟩, ⟨by repeat (first | (with_reducible first | exact HB.out | apply below_alloc | apply pw_below_drewN | apply below_drew1 | refine below_set ?_ GE699.out | refine below_set ?_ GE710.out | refine below_set ?_ GE715.out | refine below_set ?_ GE721.out) | exact HB.out)⟩⟩
  case rest =>
   clear HC12
   try clear c1
   try clear c2
   try clear p2
   try clear c3
   try clear c4
   try clear c4b0
   try clear c5
   try clear c9
   try clear c11
   try clear c13
   try clear c15
   try clear c21
   try clear c27
   try clear c28
   try clear c31
   try clear c32
   try clear c33
   try clear c34
   try clear c35
   try clear c39
   try clear c40
   try clear c41
   try clear c42
   try clear c44
   try clear c45
   try clear c48
   try clear c49
   try clear c50
   try clear c52
   try clear c53
   try clear hcz14_0
   try clear hcz14_1
   try clear hcz16_0
   try clear hcz16_1
   try clear hcz22_0
   try clear hcz22_1
   try clear hcz24_0
   try clear hcz24_1
   try clear hcz29_0
   try clear hcz29_1
   try clear hcz36_0
   try clear hcz36_1
   try clear hcz43_0
   try clear hcz43_1
   try clear hcz46_0
   try clear hcz46_1
   try clear hcz51_0
   try clear hcz51_1
   try clear hcz54_0
   try clear hcz54_1
   try clear hcz6_0
   try clear hcz6_1
   try clear hfz14_0
   try clear hfz14_1
   try clear hfz16_0
   try clear hfz16_1
   try clear hfz22_0
   try clear hfz22_1
   try clear hfz24_0
   try clear hfz24_1
   try clear hfz29_0
   try clear hfz29_1
   try clear hfz36_0
   try clear hfz36_1
   try clear hfz43_0
   try clear hfz43_1
   try clear hfz46_0
   try clear hfz46_1
   try clear hfz51_0
   try clear hfz51_1
   try clear hfz54_0
   try clear hfz54_1
   try clear hfz6_0
   try clear hfz6_1
   obtain ⟨kq, x44_11, rfl, HA, HJ11, HO_711001, HO_716001, HO_722001, BK699, BK710, BK715, BK721, HB⟩ := hcut
   cases kq with
   | zero => exact absurd HA.out (by simp [laws_FnExactOpen.j0])
   | succ kj11 =>
    have H := HA.out
    clear HA
    simp only [laws_FnExactOpen.j0] at H
    by_cases c56 : x44_11 = true
    ·subst c56
     replace H := IP H
     exact absurd H (by simp)
    ·replace c56 := Bool.eq_false_iff.mpr c56
     subst c56
     replace H := IN H
     replace H := BS H
     obtain ⟨⟨t723, t724⟩, A570, H⟩ := H
     have A57 := Aside0.mk A570
     clear A570
     replace H := BS H
     obtain ⟨t727, A580, H⟩ := H
     have A58 := Aside0.mk A580
     clear A580
     by_cases c59 : t727 = true
     ·subst c59
      replace H := IP H
      replace H := BS H
      obtain ⟨⟨t728, t729⟩, A600, H⟩ := H
      have A60 := Aside0.mk A600
      clear A600
      have HC61 := Aside0.mk H
      clear H
      try go_wp2
      have n0_ := Aside0.mk (Kd.R_drew HO_711001.out)
      have n1_ := Aside0.mk (Kd.R_drew HO_716001.out)
      have n2_ := Aside0.mk (Kd.R_drew HO_722001.out)
      have n3_ := Aside0.mk (blk_drew BK699.out)
      have n4_ := Aside0.mk (blk_drew BK710.out)
      have n5_ := Aside0.mk (blk_drew BK715.out)
      have n6_ := Aside0.mk (blk_drew BK721.out)
      have n7_ := Aside0.mk (below_drew1 HB.out)
      clear HO_711001
      clear HO_716001
      clear HO_722001
      clear BK699
      clear BK710
      clear BK715
      clear BK721
      clear HB
      have HO_711001 := n0_
      have HO_716001 := n1_
      have HO_722001 := n2_
      have BK699 := n3_
      have BK710 := n4_
      have BK715 := n5_
      have BK721 := n6_
      have HB := n7_
      clear n0_ n1_ n2_ n3_ n4_ n5_ n6_ n7_
      refine start_ (n := 5) (S := fun w' => w'.cell? ⟨gb715, 0, none⟩ = some (.int .i64 t711) ∧ w'.cell? ⟨gb715, 1, none⟩ = some (.slice Ao30 t712.length co30) ∧ w'.cell? ⟨gb699, 0, none⟩ = some (.int .i64 a0_0) ∧ w'.cell? ⟨gb699, 1, none⟩ = some (.slice A0_1 l0_1.length c0_1)) (ds := []) #[false, false, false, false, false] (by kernel_rfl) rfl rfl ⟨(blk_cell BK715.out 0).trans rfl, (blk_cell BK715.out 1).trans rfl, (blk_cell BK699.out 0).trans rfl, (blk_cell BK699.out 1).trans rfl⟩ (fun hHeld => ?_)
      generalize wc.drew = w62 at HO_711001 HO_716001 HO_722001 BK699 BK710 BK715 BK721 HB hHeld ⊢
      refine PK (i := 0) (N := some 45) (tf 1 4) rfl rfl hHeld ?_
      refine PK (i := 1) (N := some 46) (tf 2 3) rfl rfl hHeld ?_
      refine one_ (i := 2) (N := some 47) (tf 3 2) rfl rfl (by kernel_rfl) (by decide) (fun K hK => ?_)
      refine goes_ Try.func13 (by kernel_rfl) rfl #[.agg #[.int .i64 a0_0, .slice A0_1 l0_1.length c0_1]] (by rfl) rfl rfl AQ ?_
      with_reducible refine (laws_toTable.calls kj11 a0_0 _ _ l0_1 t723 t724 _ ?side1 ?side2 A57.out).mono ?_
      (case side1 => exact SC HR0_1)
      (case side2 => exact HC0_1.out)
      rintro e w63 ⟨v725, rfl, ho0, hb⟩
      refine ⟨_, rfl, ?_⟩
      have n0_ := Aside0.mk (Kd.R_elder' (RD HO_711001) (Kd.R_base ho0) hb)
      have n1_ := Aside0.mk (Kd.R_elder' (RD HO_716001) (Kd.R_base ho0) hb)
      have n2_ := Aside0.mk (Kd.R_elder' (RD HO_722001) (Kd.R_base ho0) hb)
      have n3_ := Aside0.mk (Kd.R_lower (Kd.R_new' (Kd.R_new' (Kd.R_new' ho0 (Kd.R_lt (RD HO_711001))) (Kd.R_lt (RD HO_716001))) (Kd.R_lt (RD HO_722001))) (below_size BG))
      have n4_ := Aside0.mk (blk_below (BD BK699) hb)
      have n5_ := Aside0.mk (blk_below (BD BK710) hb)
      have n6_ := Aside0.mk (blk_below (BD BK715) hb)
      have n7_ := Aside0.mk (blk_below (BD BK721) hb)
      have n8_ := Aside0.mk (below_step BG hb)
      clear HO_711001
      clear HO_716001
      clear HO_722001
      clear BK699
      clear BK710
      clear BK715
      clear BK721
      clear HB
      have HO_711001 := n0_
      have HO_716001 := n1_
      have HO_722001 := n2_
      have HO726 := n3_
      have BK699 := n4_
      have BK710 := n5_
      have BK715 := n6_
      have BK721 := n7_
      have HB := n8_
      clear n0_ n1_ n2_ n3_ n4_ n5_ n6_ n7_ n8_
      (try clear hb)
      (try clear hb2)
      (try clear hk)
      (try clear hi)
      (try clear ho0)
      obtain ⟨Ao64, co64, eo64⟩ := Kd.R_slice HO726.out
      (first | subst eo64 | (injection eo64 with f1_ f2_ f3_; have f4_ := f1_.symm; have f5_ := f3_.symm; clear f1_ f2_ f3_; subst f4_; subst f5_))
      refine hK.out _ _ ⟨(blk_cell BK715.out 0).trans rfl, (blk_cell BK715.out 1).trans rfl, (blk_cell BK699.out 0).trans rfl, (blk_cell BK699.out 1).trans rfl⟩ (fun hHeld => ?_)
      clear hK K
      refine NM (some 47) ?_
      refine one_ (i := 3) (N := some 48) (tf 4 1) rfl rfl (by kernel_rfl) (by decide) (fun K hK => ?_)
      refine goes_ Try.func15 (by kernel_rfl) rfl #[.agg #[.int .i64 t711, .slice Ao30 t712.length co30], .agg #[.int .i64 t723, .slice Ao64 t724.length co64]] (by rfl) rfl rfl AQ ?_
      with_reducible refine (laws_eqTable.calls kj11 t711 _ _ t712 t723 _ _ t724 true _ ?side1 ?side2 ?side3 ?side4 A58.out).mono ?_
      (case side1 => exact SR HO_716001)
      (case side2 => exact (Kd.R_reads' HO_716001.out).2.1)
      (case side3 => exact SR HO726)
      (case side4 => exact (Kd.R_reads' HO726.out).2.1)
      rintro e w65 ⟨rfl, hb⟩
      refine ⟨_, rfl, ?_⟩
      have n0_ := Aside0.mk (Kd.R_below (RD HO_711001) hb)
      have n1_ := Aside0.mk (Kd.R_below (RD HO_716001) hb)
      have n2_ := Aside0.mk (Kd.R_below (RD HO_722001) hb)
      have n3_ := Aside0.mk (Kd.R_below (RD HO726) hb)
      have n4_ := Aside0.mk (blk_below (BD BK699) hb)
      have n5_ := Aside0.mk (blk_below (BD BK710) hb)
      have n6_ := Aside0.mk (blk_below (BD BK715) hb)
      have n7_ := Aside0.mk (blk_below (BD BK721) hb)
      have n8_ := Aside0.mk (below_step BG hb)
      clear HO_711001
      clear HO_716001
      clear HO_722001
      clear HO726
      clear BK699
      clear BK710
      clear BK715
      clear BK721
      clear HB
      have HO_711001 := n0_
      have HO_716001 := n1_
      have HO_722001 := n2_
      have HO726 := n3_
      have BK699 := n4_
      have BK710 := n5_
      have BK715 := n6_
      have BK721 := n7_
      have HB := n8_
      clear n0_ n1_ n2_ n3_ n4_ n5_ n6_ n7_ n8_
      (try clear hb)
      (try clear hb2)
      (try clear hk)
      (try clear hi)
      refine hK.out _ _ ⟨(blk_cell BK715.out 0).trans rfl, (blk_cell BK715.out 1).trans rfl, (blk_cell BK699.out 0).trans rfl, (blk_cell BK699.out 1).trans rfl⟩ (fun hHeld => ?_)
      clear hK K
      refine NM (some 48) ?_
      refine PV (i := 4) (N := some 49) (tf 5 0) rfl rfl ?_
      refine done_ (by kernel_rfl) ?_
      have hnb66 := NB715_699.out
      have hnc66 := NB699_715.out
      have hnb67 := NB715_710.out
      have hnc67 := NB710_715.out
      have hnb68 := NB715_721.out
      have hnc68 := NB721_715.out
      obtain ⟨hcz69_0, hcz69_1, hfz69_0, hfz69_1⟩ := bk2 BK715.out
      go_upto_region 14 with (first | ((with_reducible refine gate_callee (f := 20) rfl ?_); refine goesL_ (some 52) rfl rfl Try.func20 (by kernel_rfl) rfl #[.agg #[.int .i64 t711, .slice Ao30 t712.length co30], .int .i64 1] rfl AQ ?_; (with_reducible refine (laws_markTable.calls kj11 t711 (fun k_ => some k_ = (.slice Ao30 t712.length co30 : Value).ownBlock) (.slice Ao30 t712.length co30) t712 1 t728 t729 w _ ?side1 ?side2 A60.out).mono ?_); (case side1 => repeat (first | (with_reducible first | exact HB.out | apply below_alloc | apply pw_below_drewN | apply below_drew1 | refine below_set ?_ GE699.out | refine below_set ?_ GE710.out | refine below_set ?_ GE715.out | refine below_set ?_ GE721.out) | exact HB.out)); (case side2 => exact Kd.R_tight rfl HO_716001.out); rintro e w70 ⟨rfl, hy0, hb, hkp⟩; refine ⟨_, rfl, ?_⟩; have n0_ := Aside0.mk (Kd.R_mono (ok' := fun k_ => some k_ ≠ (.slice Ao30 t712.length co30 : Value).ownBlock ∧ some k_ ≠ (.slice Ao37 t717.length co37 : Value).ownBlock ∧ some k_ ≠ (.slice Ao64 t724.length co64 : Value).ownBlock) (Kd.R_keptB (HO_711001.out) hkp MK) MO); have n1_ := Aside0.mk (Kd.R_reok rfl hy0 (fun k_ e_ => HO_716001.out.1 k_ e_)); have n2_ := Aside0.mk (Kd.R_mono (ok' := fun k_ => some k_ ≠ (.slice Ao23 t706.length co23 : Value).ownBlock ∧ some k_ ≠ (.slice Ao30 t712.length co30 : Value).ownBlock ∧ some k_ ≠ (.slice Ao64 t724.length co64 : Value).ownBlock) (Kd.R_keptB (HO_722001.out) hkp MK) MO); have n3_ := Aside0.mk (blk_kept (by (with_reducible repeat (first | refine blk_drewN ?_ _ | refine blk_drew ?_ | refine blk_alloc ?_ _)); exact BK699.out) hkp (fun hs_ => (fun e_ => (Kd.R_ne HO_716001.out BK699.out (by decide)) e_) hs_)); have n4_ := Aside0.mk (blk_kept (by (with_reducible repeat (first | refine blk_drewN ?_ _ | refine blk_drew ?_ | refine blk_alloc ?_ _)); exact BK710.out) hkp (fun hs_ => (fun e_ => (Kd.R_ne HO_716001.out BK710.out (by decide)) e_) hs_)); have n5_ := Aside0.mk (blk_kept (by (with_reducible repeat (first | refine blk_drewN ?_ _ | refine blk_drew ?_ | refine blk_alloc ?_ _)); exact BK715.out) hkp (fun hs_ => (fun e_ => (Kd.R_ne HO_716001.out BK715.out (by decide)) e_) hs_)); have n6_ := Aside0.mk (blk_kept (by (with_reducible repeat (first | refine blk_drewN ?_ _ | refine blk_drew ?_ | refine blk_alloc ?_ _)); exact BK721.out) hkp (fun hs_ => (fun e_ => (Kd.R_ne HO_716001.out BK721.out (by decide)) e_) hs_)); have n7_ := Aside0.mk (Kd.R_mono (ok' := fun k_ => some k_ ≠ (.slice Ao23 t706.length co23 : Value).ownBlock ∧ some k_ ≠ (.slice Ao30 t712.length co30 : Value).ownBlock ∧ some k_ ≠ (.slice Ao37 t717.length co37 : Value).ownBlock) (Kd.R_keptB (HO726.out) hkp MK) MO); have n8_ := Aside0.mk (hb); clear HO_711001; clear HO_716001; clear HO_722001; clear BK699; clear BK710; clear BK715; clear BK721; clear HO726; clear HB; have HO_711001 := n0_; have HO_716001 := n1_; have HO_722001 := n2_; have BK699 := n3_; have BK710 := n4_; have BK715 := n5_; have BK721 := n6_; have HO726 := n7_; have HB := n8_; clear n0_ n1_ n2_ n3_ n4_ n5_ n6_ n7_ n8_; (try clear hb); (try clear hkp); (try clear hy0)))
      (try simp only [Act.put, List.setIfInBounds_toArray, List.set_cons_zero, List.set_cons_succ])
      go_cut [65] (fun v65 wc => ∃ (kq : Nat) (x65_60 : Bool), v65 = .bool x65_60 ∧ Aside0 (laws_FnExactOpen.j1 kq a1 t709 x65_60 a0_0 l0_1 t705 t706 t716 t717 = some r) ∧ Aside0 (kq ≤ kj11) ∧ Aside0 (Kd.R k50 50 wc w.heap.size (fun k_ => some k_ ≠ ((.slice Ao30 t712.length co30) : Value).ownBlock ∧ some k_ ≠ ((.slice Ao37 t717.length co37) : Value).ownBlock) (.slice Ao23 t706.length co23) t706) ∧ Aside0 (Kd.R k50 50 wc w.heap.size (fun k_ => some k_ ≠ ((.slice Ao23 t706.length co23) : Value).ownBlock ∧ some k_ ≠ ((.slice Ao37 t717.length co37) : Value).ownBlock) (.slice Ao30 t712.length co30) t729) ∧ Aside0 (Kd.R k50 50 wc w.heap.size (fun k_ => some k_ ≠ ((.slice Ao23 t706.length co23) : Value).ownBlock ∧ some k_ ≠ ((.slice Ao30 t712.length co30) : Value).ownBlock) (.slice Ao37 t717.length co37) t717) ∧ Aside0 (wc.heap[gb699]? = some (.cells #[.int .i64 a0_0, (.slice A0_1 l0_1.length c0_1)] 24 (0, 0))) ∧ Aside0 (wc.heap[gb710]? = some (.cells #[.int .i64 t705, (.slice Ao23 t706.length co23)] 29 (0, 0))) ∧ Aside0 (wc.heap[gb715]? = some (.cells #[.int .i64 t711, (.slice Ao30 t712.length co30)] 29 (0, 0))) ∧ Aside0 (wc.heap[gb721]? = some (.cells #[.int .i64 t716, (.slice Ao37 t717.length co37)] 29 (0, 0))) ∧ Aside0 (Below w.heap.size w wc))
      case first =>
       have H := HC61.out
       clear HC61
       by_cases c71 : t728 < 0
       ·rw [if_pos c71] at H
        have c71b0 : decide (t728 < 0) = true := decide_eq_true c71
        clear c71
        (first | rw [c71b0] | (simp only [i64_w, i32_w]; rw [c71b0]) | skip)
        have H' := Aside0.mk H
        clear H
        go_wp2
        go_meet
        case rel => exact ⟨_, (true), RS, H', ⟨by have := HJ11.out; first | omega | exact Nat.le_refl _⟩, ⟨by (with_reducible repeat (first | apply Kd.R_alloc | apply Kd.R_drewN | apply Kd.R_drew)); exact Kd.R_mono HO_711001.out (fun _ hk => ⟨hk.1, hk.2.1⟩)⟩, ⟨by (with_reducible repeat (first | apply Kd.R_alloc | apply Kd.R_drewN | apply Kd.R_drew)); exact Kd.R_mono HO_716001.out (fun _ hk => ⟨hk.1.1, hk.1.2⟩)⟩, ⟨by (with_reducible repeat (first | apply Kd.R_alloc | apply Kd.R_drewN | apply Kd.R_drew)); exact Kd.R_mono HO_722001.out (fun _ hk => ⟨hk.1, hk.2.1⟩)⟩, ⟨by (with_reducible repeat (first | refine blk_drewN ?_ _ | refine blk_drew ?_ | refine blk_alloc ?_ _)); exact BK699.out⟩, ⟨by (with_reducible repeat (first | refine blk_drewN ?_ _ | refine blk_drew ?_ | refine blk_alloc ?_ _)); exact BK710.out⟩, ⟨by (with_reducible repeat (first | refine blk_drewN ?_ _ | refine blk_drew ?_ | refine blk_alloc ?_ _)); exact BK715.out⟩, ⟨by (with_reducible repeat (first | refine blk_drewN ?_ _ | refine blk_drew ?_ | refine blk_alloc ?_ _)); exact BK721.out⟩, ⟨by repeat (first | (with_reducible first | exact HB.out | apply below_alloc | apply pw_below_drewN | apply below_drew1 | refine below_set ?_ GE699.out | refine below_set ?_ GE710.out | refine below_set ?_ GE715.out | refine below_set ?_ GE721.out) | exact HB.out)⟩⟩
       ·rw [if_neg c71] at H
        have c71b0 : decide (t728 < 0) = false := decide_eq_false c71
        clear c71
        (first | rw [c71b0] | (simp only [i64_w, i32_w]; rw [c71b0]) | skip)
        replace H := BS H
        obtain ⟨t730, A720, H⟩ := H
        have A72 := Aside0.mk A720
        clear A720
        by_cases c73 : t730 = true
        ·subst c73
         replace H := IP H
         have H' := Aside0.mk H
         clear H
         have hnb74 := NB721_699.out
         have hnc74 := NB699_721.out
         have hnb75 := NB721_710.out
         have hnc75 := NB710_721.out
         have hnb76 := NB721_715.out
         have hnc76 := NB715_721.out
         obtain ⟨hcz77_0, hcz77_1, hfz77_0, hfz77_1⟩ := bk2 BK721.out
         have hnb78 := NB710_699.out
         have hnc78 := NB699_710.out
         have hnb79 := NB710_715.out
         have hnc79 := NB715_710.out
         obtain ⟨hcz80_0, hcz80_1, hfz80_0, hfz80_1⟩ := bk2 BK710.out
         go_wp2_with (first | (go_at_call 15; (with_reducible refine (laws_eqTable.calls kj11 t716 _ _ t717 t705 _ _ t706 true _ ?side1 ?side2 ?side3 ?side4 A72.out).mono ?_); (case side1 => exact SR HO_722001); (case side2 => exact (Kd.R_reads' HO_722001.out).2.1); (case side3 => exact SR HO_711001); (case side4 => exact (Kd.R_reads' HO_711001.out).2.1); rintro e w81 ⟨rfl, hb⟩; have n0_ := Aside0.mk (Kd.R_below (RD HO_711001) hb); have n1_ := Aside0.mk (Kd.R_below (RD HO_716001) hb); have n2_ := Aside0.mk (Kd.R_below (RD HO_722001) hb); have n3_ := Aside0.mk (Kd.R_below (RD HO726) hb); have n4_ := Aside0.mk (blk_below (BD BK699) hb); have n5_ := Aside0.mk (blk_below (BD BK710) hb); have n6_ := Aside0.mk (blk_below (BD BK715) hb); have n7_ := Aside0.mk (blk_below (BD BK721) hb); have n8_ := Aside0.mk (below_step BG hb); clear HO_711001; clear HO_716001; clear HO_722001; clear HO726; clear BK699; clear BK710; clear BK715; clear BK721; clear HB; have HO_711001 := n0_; have HO_716001 := n1_; have HO_722001 := n2_; have HO726 := n3_; have BK699 := n4_; have BK710 := n5_; have BK715 := n6_; have BK721 := n7_; have HB := n8_; clear n0_ n1_ n2_ n3_ n4_ n5_ n6_ n7_ n8_; (try clear hb); (try clear hb2); (try clear hk); (try clear hi)))
         go_meet
         case rel => exact ⟨_, ((t720 != t709)), RS, H', ⟨by have := HJ11.out; first | omega | exact Nat.le_refl _⟩, ⟨by (with_reducible repeat (first | apply Kd.R_alloc | apply Kd.R_drewN | apply Kd.R_drew)); exact Kd.R_mono HO_711001.out (fun _ hk => ⟨hk.1, hk.2.1⟩)⟩, ⟨by (with_reducible repeat (first | apply Kd.R_alloc | apply Kd.R_drewN | apply Kd.R_drew)); exact Kd.R_mono HO_716001.out (fun _ hk => ⟨hk.1.1, hk.1.2⟩)⟩, ⟨by (with_reducible repeat (first | apply Kd.R_alloc | apply Kd.R_drewN | apply Kd.R_drew)); exact Kd.R_mono HO_722001.out (fun _ hk => ⟨hk.1, hk.2.1⟩)⟩, ⟨by (with_reducible repeat (first | refine blk_drewN ?_ _ | refine blk_drew ?_ | refine blk_alloc ?_ _)); exact BK699.out⟩, ⟨by (with_reducible repeat (first | refine blk_drewN ?_ _ | refine blk_drew ?_ | refine blk_alloc ?_ _)); exact BK710.out⟩, ⟨by (with_reducible repeat (first | refine blk_drewN ?_ _ | refine blk_drew ?_ | refine blk_alloc ?_ _)); exact BK715.out⟩, ⟨by (with_reducible repeat (first | refine blk_drewN ?_ _ | refine blk_drew ?_ | refine blk_alloc ?_ _)); exact BK721.out⟩, ⟨by repeat (first | (with_reducible first | exact HB.out | apply below_alloc | apply pw_below_drewN | apply below_drew1 | refine below_set ?_ GE699.out | refine below_set ?_ GE710.out | refine below_set ?_ GE715.out | refine below_set ?_ GE721.out) | exact HB.out)⟩⟩
        ·replace c73 := Bool.eq_false_iff.mpr c73
         subst c73
         replace H := IN H
         have H' := Aside0.mk H
         clear H
         have hnb82 := NB721_699.out
         have hnc82 := NB699_721.out
         have hnb83 := NB721_710.out
         have hnc83 := NB710_721.out
         have hnb84 := NB721_715.out
         have hnc84 := NB715_721.out
         obtain ⟨hcz85_0, hcz85_1, hfz85_0, hfz85_1⟩ := bk2 BK721.out
         have hnb86 := NB710_699.out
         have hnc86 := NB699_710.out
         have hnb87 := NB710_715.out
         have hnc87 := NB715_710.out
         obtain ⟨hcz88_0, hcz88_1, hfz88_0, hfz88_1⟩ := bk2 BK710.out
         go_wp2_with (first | (go_at_call 15; (with_reducible refine (laws_eqTable.calls kj11 t716 _ _ t717 t705 _ _ t706 false _ ?side1 ?side2 ?side3 ?side4 A72.out).mono ?_); (case side1 => exact SR HO_722001); (case side2 => exact (Kd.R_reads' HO_722001.out).2.1); (case side3 => exact SR HO_711001); (case side4 => exact (Kd.R_reads' HO_711001.out).2.1); rintro e w89 ⟨rfl, hb⟩; have n0_ := Aside0.mk (Kd.R_below (RD HO_711001) hb); have n1_ := Aside0.mk (Kd.R_below (RD HO_716001) hb); have n2_ := Aside0.mk (Kd.R_below (RD HO_722001) hb); have n3_ := Aside0.mk (Kd.R_below (RD HO726) hb); have n4_ := Aside0.mk (blk_below (BD BK699) hb); have n5_ := Aside0.mk (blk_below (BD BK710) hb); have n6_ := Aside0.mk (blk_below (BD BK715) hb); have n7_ := Aside0.mk (blk_below (BD BK721) hb); have n8_ := Aside0.mk (below_step BG hb); clear HO_711001; clear HO_716001; clear HO_722001; clear HO726; clear BK699; clear BK710; clear BK715; clear BK721; clear HB; have HO_711001 := n0_; have HO_716001 := n1_; have HO_722001 := n2_; have HO726 := n3_; have BK699 := n4_; have BK710 := n5_; have BK715 := n6_; have BK721 := n7_; have HB := n8_; clear n0_ n1_ n2_ n3_ n4_ n5_ n6_ n7_ n8_; (try clear hb); (try clear hb2); (try clear hk); (try clear hi)))
         go_meet
         case rel => exact ⟨_, (true), RS, H', ⟨by have := HJ11.out; first | omega | exact Nat.le_refl _⟩, ⟨by (with_reducible repeat (first | apply Kd.R_alloc | apply Kd.R_drewN | apply Kd.R_drew)); exact Kd.R_mono HO_711001.out (fun _ hk => ⟨hk.1, hk.2.1⟩)⟩, ⟨by (with_reducible repeat (first | apply Kd.R_alloc | apply Kd.R_drewN | apply Kd.R_drew)); exact Kd.R_mono HO_716001.out (fun _ hk => ⟨hk.1.1, hk.1.2⟩)⟩, ⟨by (with_reducible repeat (first | apply Kd.R_alloc | apply Kd.R_drewN | apply Kd.R_drew)); exact Kd.R_mono HO_722001.out (fun _ hk => ⟨hk.1, hk.2.1⟩)⟩, ⟨by (with_reducible repeat (first | refine blk_drewN ?_ _ | refine blk_drew ?_ | refine blk_alloc ?_ _)); exact BK699.out⟩, ⟨by (with_reducible repeat (first | refine blk_drewN ?_ _ | refine blk_drew ?_ | refine blk_alloc ?_ _)); exact BK710.out⟩, ⟨by (with_reducible repeat (first | refine blk_drewN ?_ _ | refine blk_drew ?_ | refine blk_alloc ?_ _)); exact BK715.out⟩, ⟨by (with_reducible repeat (first | refine blk_drewN ?_ _ | refine blk_drew ?_ | refine blk_alloc ?_ _)); exact BK721.out⟩, ⟨by repeat (first | (with_reducible first | exact HB.out | apply below_alloc | apply pw_below_drewN | apply below_drew1 | refine below_set ?_ GE699.out | refine below_set ?_ GE710.out | refine below_set ?_ GE715.out | refine below_set ?_ GE721.out) | exact HB.out)⟩⟩
      case rest =>
       clear HC61
       try clear c1
       try clear c2
       try clear p2
       try clear c3
       try clear c4
       try clear c4b0
       try clear c5
       try clear c6
       try clear c7
       try clear c8
       try clear c9
       try clear c11
       try clear c13
       try clear c15
       try clear c20
       try clear c21
       try clear c27
       try clear c28
       try clear c31
       try clear c32
       try clear c33
       try clear c34
       try clear c35
       try clear c39
       try clear c40
       try clear c41
       try clear c42
       try clear c44
       try clear c45
       try clear c48
       try clear c49
       try clear c50
       try clear c52
       try clear c53
       try clear c56
       try clear c59
       try clear c66
       try clear c67
       try clear c68
       try clear c71
       try clear c71b0
       try clear c73
       try clear c74
       try clear c75
       try clear c76
       try clear c78
       try clear c79
       try clear c82
       try clear c83
       try clear c84
       try clear c86
       try clear c87
       try clear hcz14_0
       try clear hcz14_1
       try clear hcz16_0
       try clear hcz16_1
       try clear hcz22_0
       try clear hcz22_1
       try clear hcz24_0
       try clear hcz24_1
       try clear hcz29_0
       try clear hcz29_1
       try clear hcz36_0
       try clear hcz36_1
       try clear hcz43_0
       try clear hcz43_1
       try clear hcz46_0
       try clear hcz46_1
       try clear hcz51_0
       try clear hcz51_1
       try clear hcz54_0
       try clear hcz54_1
       try clear hcz69_0
       try clear hcz69_1
       try clear hcz6_0
       try clear hcz6_1
       try clear hcz77_0
       try clear hcz77_1
       try clear hcz80_0
       try clear hcz80_1
       try clear hcz85_0
       try clear hcz85_1
       try clear hcz88_0
       try clear hcz88_1
       try clear hfz14_0
       try clear hfz14_1
       try clear hfz16_0
       try clear hfz16_1
       try clear hfz22_0
       try clear hfz22_1
       try clear hfz24_0
       try clear hfz24_1
       try clear hfz29_0
       try clear hfz29_1
       try clear hfz36_0
       try clear hfz36_1
       try clear hfz43_0
       try clear hfz43_1
       try clear hfz46_0
       try clear hfz46_1
       try clear hfz51_0
       try clear hfz51_1
       try clear hfz54_0
       try clear hfz54_1
       try clear hfz69_0
       try clear hfz69_1
       try clear hfz6_0
       try clear hfz6_1
       try clear hfz77_0
       try clear hfz77_1
       try clear hfz80_0
       try clear hfz80_1
       try clear hfz85_0
       try clear hfz85_1
       try clear hfz88_0
       try clear hfz88_1
       try clear p2
       obtain ⟨kq, x65_60, rfl, HA, HJ60, HO_711001, HO_716001, HO_722001, BK699, BK710, BK715, BK721, HB⟩ := hcut
       have hl716001_60 := (Kd.R_reads' HO_716001.out).1
       rw [hl716001_60] at HO_716001
       (try simp only [hl716001_60])
       (try simp only [hl716001_60] at BK699)
       (try simp only [hl716001_60] at BK710)
       (try simp only [hl716001_60] at BK715)
       (try simp only [hl716001_60] at BK721)
       (try simp only [hl716001_60] at HO_711001)
       (try simp only [hl716001_60] at HO_722001)
       cases kq with
       | zero => exact absurd HA.out (by simp [laws_FnExactOpen.j1])
       | succ kj60 =>
        have H := HA.out
        clear HA
        simp only [laws_FnExactOpen.j1] at H
        by_cases c90 : x65_60 = true
        ·subst c90
         replace H := IP H
         exact absurd H (by simp)
        ·replace c90 := Bool.eq_false_iff.mpr c90
         subst c90
         replace H := IN H
         replace H := BS H
         obtain ⟨⟨t731, t732⟩, A910, H⟩ := H
         have A91 := Aside0.mk A910
         clear A910
         replace H := BS H
         obtain ⟨t733, A920, H⟩ := H
         have A92 := Aside0.mk A920
         clear A920
         by_cases c93 : t733 < 0
         ·rw [if_pos c93] at H
          exact absurd H (by simp)
         ·rw [if_neg c93] at H
          have c93b0 : decide (t733 < 0) = false := decide_eq_false c93
          clear c93
          by_cases c94 : t733 = t731
          ·rw [if_pos c94] at H
           have c94b0 : (t733 == t731) = true := beq_iff_eq.mpr c94
           have c94b1 : (t733 != t731) = false := bne_eq_false_iff_eq.mpr c94
           clear c94
           replace H := BS H
           obtain ⟨⟨t734, t735⟩, A950, H⟩ := H
           have A95 := Aside0.mk A950
           clear A950
           replace H := BS H
           obtain ⟨⟨t738, t739, t742⟩, A960, H⟩ := H
           have A96 := Aside0.mk A960
           clear A960
           have HC97 := Aside0.mk H
           clear H
           have hnb98 := NB721_699.out
           have hnc98 := NB699_721.out
           have hnb99 := NB721_710.out
           have hnc99 := NB710_721.out
           have hnb100 := NB721_715.out
           have hnc100 := NB715_721.out
           obtain ⟨hcz101_0, hcz101_1, hfz101_0, hfz101_1⟩ := bk2 BK721.out
           go_upto_region 25 with (first | ((with_reducible refine gate_callee (f := 20) rfl ?_); refine goesL_ (some 68) rfl rfl Try.func20 (by kernel_rfl) rfl #[.agg #[.int .i64 t716, .slice Ao37 t717.length co37], .int .i64 1] rfl AQ ?_; (with_reducible refine (laws_markTable.calls kj60 t716 (fun k_ => some k_ = (.slice Ao37 t717.length co37 : Value).ownBlock) (.slice Ao37 t717.length co37) t717 1 t731 t732 w _ ?side1 ?side2 A91.out).mono ?_); (case side1 => repeat (first | (with_reducible first | exact HB.out | apply below_alloc | apply pw_below_drewN | apply below_drew1 | refine below_set ?_ GE699.out | refine below_set ?_ GE710.out | refine below_set ?_ GE715.out | refine below_set ?_ GE721.out) | exact HB.out)); (case side2 => exact Kd.R_tight rfl HO_722001.out); rintro e w102 ⟨rfl, hy0, hb, hkp⟩; refine ⟨_, rfl, ?_⟩; have n0_ := Aside0.mk (Kd.R_mono (ok' := fun k_ => some k_ ≠ (.slice Ao30 t729.length co30 : Value).ownBlock ∧ some k_ ≠ (.slice Ao37 t717.length co37 : Value).ownBlock) (Kd.R_keptB (HO_711001.out) hkp MK) MO); have n1_ := Aside0.mk (Kd.R_mono (ok' := fun k_ => some k_ ≠ (.slice Ao23 t706.length co23 : Value).ownBlock ∧ some k_ ≠ (.slice Ao37 t717.length co37 : Value).ownBlock) (Kd.R_keptB (HO_716001.out) hkp MK) MO); have n2_ := Aside0.mk (Kd.R_reok rfl hy0 (fun k_ e_ => HO_722001.out.1 k_ e_)); have n3_ := Aside0.mk (blk_kept (by (with_reducible repeat (first | refine blk_drewN ?_ _ | refine blk_drew ?_ | refine blk_alloc ?_ _)); exact BK699.out) hkp (fun hs_ => (fun e_ => (Kd.R_ne HO_722001.out BK699.out (by decide)) e_) hs_)); have n4_ := Aside0.mk (blk_kept (by (with_reducible repeat (first | refine blk_drewN ?_ _ | refine blk_drew ?_ | refine blk_alloc ?_ _)); exact BK710.out) hkp (fun hs_ => (fun e_ => (Kd.R_ne HO_722001.out BK710.out (by decide)) e_) hs_)); have n5_ := Aside0.mk (blk_kept (by (with_reducible repeat (first | refine blk_drewN ?_ _ | refine blk_drew ?_ | refine blk_alloc ?_ _)); exact BK715.out) hkp (fun hs_ => (fun e_ => (Kd.R_ne HO_722001.out BK715.out (by decide)) e_) hs_)); have n6_ := Aside0.mk (blk_kept (by (with_reducible repeat (first | refine blk_drewN ?_ _ | refine blk_drew ?_ | refine blk_alloc ?_ _)); exact BK721.out) hkp (fun hs_ => (fun e_ => (Kd.R_ne HO_722001.out BK721.out (by decide)) e_) hs_)); have n7_ := Aside0.mk (hb); clear HO_711001; clear HO_716001; clear HO_722001; clear BK699; clear BK710; clear BK715; clear BK721; clear HB; have HO_711001 := n0_; have HO_716001 := n1_; have HO_722001 := n2_; have BK699 := n3_; have BK710 := n4_; have BK715 := n5_; have BK721 := n6_; have HB := n7_; clear n0_ n1_ n2_ n3_ n4_ n5_ n6_ n7_; (try clear hb); (try clear hkp); (try clear hy0); obtain ⟨hcz103_0, hcz103_1, hfz103_0, hfz103_1⟩ := bk2 BK721.out) | ((with_reducible refine gate_callee (f := 21) rfl ?_); refine goesL_ (some 71) rfl rfl Try.func21 (by kernel_rfl) rfl #[.agg #[.int .i64 t716, .slice Ao37 t732.length co37], .int .i64 1] rfl (by (try simp only [List.map_toArray, List.map_cons, List.map_nil]); first | done | (rw [show t732.length = t717.length from (Kd.R_reads' HO_722001.out).1.symm] <;> rfl) | rfl | (simp only [List.length_drop, List.length_take]; rfl)) ?_; (with_reducible refine (laws_heldTable.calls kj60 t716 _ _ t732 1 t733 _ ?side1 ?side2 A92.out).mono ?_); (case side1 => exact SR HO_722001); (case side2 => rw [show t732.length = t717.length from (Kd.R_reads' HO_722001.out).1.symm]; exact (Kd.R_reads' HO_722001.out).2.1); rintro e w104 ⟨rfl, hb⟩; refine ⟨_, rfl, ?_⟩; have n0_ := Aside0.mk (Kd.R_below (RD HO_711001) hb); have n1_ := Aside0.mk (Kd.R_below (RD HO_716001) hb); have n2_ := Aside0.mk (Kd.R_below (RD HO_722001) hb); have n3_ := Aside0.mk (blk_below (BD BK699) hb); have n4_ := Aside0.mk (blk_below (BD BK710) hb); have n5_ := Aside0.mk (blk_below (BD BK715) hb); have n6_ := Aside0.mk (blk_below (BD BK721) hb); have n7_ := Aside0.mk (below_step BG hb); clear HO_711001; clear HO_716001; clear HO_722001; clear BK699; clear BK710; clear BK715; clear BK721; clear HB; have HO_711001 := n0_; have HO_716001 := n1_; have HO_722001 := n2_; have BK699 := n3_; have BK710 := n4_; have BK715 := n5_; have BK721 := n6_; have HB := n7_; clear n0_ n1_ n2_ n3_ n4_ n5_ n6_ n7_; (try clear hb); (try clear hb2); (try clear hk); (try clear hi); have hnb105 := NB699_710.out; have hnc105 := NB710_699.out; have hnb106 := NB699_715.out; have hnc106 := NB715_699.out; obtain ⟨hcz107_0, hcz107_1, hfz107_0, hfz107_1⟩ := bk2 BK699.out) | ((with_reducible refine gate_callee (f := 13) rfl ?_); refine goesL_ (some 79) rfl rfl Try.func13 (by kernel_rfl) rfl #[.agg #[.int .i64 a0_0, .slice A0_1 l0_1.length c0_1]] rfl AQ ?_; (with_reducible refine (laws_toTable.calls kj60 a0_0 _ _ l0_1 t734 t735 _ ?side1 ?side2 A95.out).mono ?_); (case side1 => exact SC HR0_1); (case side2 => exact HC0_1.out); rintro e w108 ⟨v736, rfl, ho0, hb⟩; refine ⟨_, rfl, ?_⟩; have n0_ := Aside0.mk (Kd.R_elder' (RD HO_711001) (Kd.R_base ho0) hb); have n1_ := Aside0.mk (Kd.R_elder' (RD HO_716001) (Kd.R_base ho0) hb); have n2_ := Aside0.mk (Kd.R_elder' (RD HO_722001) (Kd.R_base ho0) hb); have n3_ := Aside0.mk (Kd.R_lower (Kd.R_new' (Kd.R_new' (Kd.R_new' ho0 (Kd.R_lt (RD HO_711001))) (Kd.R_lt (RD HO_716001))) (Kd.R_lt (RD HO_722001))) (below_size BG)); have n4_ := Aside0.mk (blk_below (BD BK699) hb); have n5_ := Aside0.mk (blk_below (BD BK710) hb); have n6_ := Aside0.mk (blk_below (BD BK715) hb); have n7_ := Aside0.mk (blk_below (BD BK721) hb); have n8_ := Aside0.mk (below_step BG hb); clear HO_711001; clear HO_716001; clear HO_722001; clear BK699; clear BK710; clear BK715; clear BK721; clear HB; have HO_711001 := n0_; have HO_716001 := n1_; have HO_722001 := n2_; have HO737 := n3_; have BK699 := n4_; have BK710 := n5_; have BK715 := n6_; have BK721 := n7_; have HB := n8_; clear n0_ n1_ n2_ n3_ n4_ n5_ n6_ n7_ n8_; (try clear hb); (try clear hb2); (try clear hk); (try clear hi); (try clear ho0); obtain ⟨Ao109, co109, eo109⟩ := Kd.R_slice HO737.out; subst eo109) | ((with_reducible refine gate_callee (f := 32) rfl ?_); refine goesL_ (some 81) rfl rfl Try.func32 (by kernel_rfl) rfl #[.agg #[.int .i64 t734, .slice Ao109 t735.length co109], .int .i64 a1] rfl AQ ?_; (with_reducible refine (impl_Open.calls kj60 t734 _ _ t735 a1 t738 t739 t742 _ ?side1 ?side2 A96.out).mono ?_); (case side1 => exact SR HO737); (case side2 => exact (Kd.R_reads' HO737.out).2.1); rintro e w110 ⟨v740, rfl, ho0, hb⟩; refine ⟨_, rfl, ?_⟩; have n0_ := Aside0.mk (Kd.R_elder' (RD HO_711001) (Kd.R_base ho0) hb); have n1_ := Aside0.mk (Kd.R_elder' (RD HO_716001) (Kd.R_base ho0) hb); have n2_ := Aside0.mk (Kd.R_elder' (RD HO_722001) (Kd.R_base ho0) hb); have n3_ := Aside0.mk (Kd.R_elder' (RD HO737) (Kd.R_base ho0) hb); have n4_ := Aside0.mk (Kd.R_lower (Kd.R_new' (Kd.R_new' (Kd.R_new' (Kd.R_new' ho0 (Kd.R_lt (RD HO_711001))) (Kd.R_lt (RD HO_716001))) (Kd.R_lt (RD HO_722001))) (Kd.R_lt (RD HO737))) (below_size BG)); have n5_ := Aside0.mk (blk_below (BD BK699) hb); have n6_ := Aside0.mk (blk_below (BD BK710) hb); have n7_ := Aside0.mk (blk_below (BD BK715) hb); have n8_ := Aside0.mk (blk_below (BD BK721) hb); have n9_ := Aside0.mk (below_step BG hb); clear HO_711001; clear HO_716001; clear HO_722001; clear HO737; clear BK699; clear BK710; clear BK715; clear BK721; clear HB; have HO_711001 := n0_; have HO_716001 := n1_; have HO_722001 := n2_; have HO737 := n3_; have HO741 := n4_; have BK699 := n5_; have BK710 := n6_; have BK715 := n7_; have BK721 := n8_; have HB := n9_; clear n0_ n1_ n2_ n3_ n4_ n5_ n6_ n7_ n8_ n9_; (try clear hb); (try clear hb2); (try clear hk); (try clear hi); (try clear ho0)) | ((with_reducible refine gate_dst (N := 14) rfl ?_); refine box_event ?hg (N := 14) ?hd (cs := #[.int .i64 0, .slice none 0 0]) (t := 29) ?hr ?_; (case hd => rfl); (case hg => rfl); (case hr => first | (go_simp; done) | (go_simp; rfl)); intro gb743 hg w111 hbox hb; have n0_ := Aside0.mk (Kd.R_below (RD HO_711001) hb); have n1_ := Aside0.mk (Kd.R_below (RD HO_716001) hb); have n2_ := Aside0.mk (Kd.R_below (RD HO_722001) hb); have n3_ := Aside0.mk (Kd.R_below (RD HO737) hb); have n4_ := Aside0.mk (Kd.R_below (RD HO741) hb); have n5_ := Aside0.mk (blk_below (BD BK699) hb); have n6_ := Aside0.mk (blk_below (BD BK710) hb); have n7_ := Aside0.mk (blk_below (BD BK715) hb); have n8_ := Aside0.mk (blk_below (BD BK721) hb); have n9_ := Aside0.mk (below_step BG hb); have n10_ := Aside0.mk (hbox); have n11_ := Aside0.mk ((by rw [hg]; exact (below_size BG) : w.heap.size ≤ gb743)); have n12_ := Aside0.mk ((by rw [hg]; exact (below_size BG) : w.heap.size ≤ gb743)); have n13_ := Aside0.mk ((by rw [hg]; exact Nat.ne_of_lt (blk_lt (BD BK699)) : gb699 ≠ gb743)); have n14_ := Aside0.mk ((by rw [hg]; exact Nat.ne_of_gt (blk_lt (BD BK699)) : gb743 ≠ gb699)); have n15_ := Aside0.mk ((by rw [hg]; exact Nat.ne_of_lt (blk_lt (BD BK710)) : gb710 ≠ gb743)); have n16_ := Aside0.mk ((by rw [hg]; exact Nat.ne_of_gt (blk_lt (BD BK710)) : gb743 ≠ gb710)); have n17_ := Aside0.mk ((by rw [hg]; exact Nat.ne_of_lt (blk_lt (BD BK715)) : gb715 ≠ gb743)); have n18_ := Aside0.mk ((by rw [hg]; exact Nat.ne_of_gt (blk_lt (BD BK715)) : gb743 ≠ gb715)); have n19_ := Aside0.mk ((by rw [hg]; exact Nat.ne_of_lt (blk_lt (BD BK721)) : gb721 ≠ gb743)); have n20_ := Aside0.mk ((by rw [hg]; exact Nat.ne_of_gt (blk_lt (BD BK721)) : gb743 ≠ gb721)); clear HO_711001; clear HO_716001; clear HO_722001; clear HO737; clear HO741; clear BK699; clear BK710; clear BK715; clear BK721; clear HB; have HO_711001 := n0_; have HO_716001 := n1_; have HO_722001 := n2_; have HO737 := n3_; have HO741 := n4_; have BK699 := n5_; have BK710 := n6_; have BK715 := n7_; have BK721 := n8_; have HB := n9_; have BK743 := n10_; have GW743 := n11_; have GE743 := n12_; have NB699_743 := n13_; have NB743_699 := n14_; have NB710_743 := n15_; have NB743_710 := n16_; have NB715_743 := n17_; have NB743_715 := n18_; have NB721_743 := n19_; have NB743_721 := n20_; clear n0_ n1_ n2_ n3_ n4_ n5_ n6_ n7_ n8_ n9_ n10_ n11_ n12_ n13_ n14_ n15_ n16_ n17_ n18_ n19_ n20_; clear hb hbox hg; have hnb112 := NB743_699.out; have hnc112 := NB699_743.out; have hnb113 := NB743_710.out; have hnc113 := NB710_743.out; have hnb114 := NB743_715.out; have hnc114 := NB715_743.out; have hnb115 := NB743_721.out; have hnc115 := NB721_743.out; obtain ⟨hcz116_0, hcz116_1, hfz116_0, hfz116_1⟩ := bk2 BK743.out; obtain ⟨Ao117, co117, eo117⟩ := Kd.R_slice HO741.out; subst eo117))
           (try simp only [Act.put, List.setIfInBounds_toArray, List.set_cons_zero, List.set_cons_succ])
           go_cut [92] (fun v92 wc => ∃ (kq : Nat) (x92_96 : Bool), v92 = .bool x92_96 ∧ Aside0 (laws_FnExactOpen.j2 kq t731 x92_96 t716 t732 = some r) ∧ Aside0 (kq ≤ kj60) ∧ Aside0 (Kd.R k50 50 wc w.heap.size (fun k_ => some k_ ≠ ((.slice Ao30 t729.length co30) : Value).ownBlock ∧ some k_ ≠ ((.slice Ao37 t717.length co37) : Value).ownBlock ∧ some k_ ≠ ((.slice Ao117 t739.length co117) : Value).ownBlock) (.slice Ao23 t706.length co23) t706) ∧ Aside0 (Kd.R k50 50 wc w.heap.size (fun k_ => some k_ ≠ ((.slice Ao23 t706.length co23) : Value).ownBlock ∧ some k_ ≠ ((.slice Ao37 t717.length co37) : Value).ownBlock ∧ some k_ ≠ ((.slice Ao117 t739.length co117) : Value).ownBlock) (.slice Ao30 t729.length co30) t729) ∧ Aside0 (Kd.R k50 50 wc w.heap.size (fun k_ => some k_ ≠ ((.slice Ao23 t706.length co23) : Value).ownBlock ∧ some k_ ≠ ((.slice Ao30 t729.length co30) : Value).ownBlock ∧ some k_ ≠ ((.slice Ao117 t739.length co117) : Value).ownBlock) (.slice Ao37 t717.length co37) t732) ∧ Aside0 (Kd.R k50 50 wc w.heap.size (fun k_ => some k_ ≠ ((.slice Ao23 t706.length co23) : Value).ownBlock ∧ some k_ ≠ ((.slice Ao30 t729.length co30) : Value).ownBlock ∧ some k_ ≠ ((.slice Ao37 t717.length co37) : Value).ownBlock) (.slice Ao117 t739.length co117) t739) ∧ Aside0 (wc.heap[gb699]? = some (.cells #[.int .i64 a0_0, (.slice A0_1 l0_1.length c0_1)] 24 (0, 0))) ∧ Aside0 (wc.heap[gb710]? = some (.cells #[.int .i64 t705, (.slice Ao23 t706.length co23)] 29 (0, 0))) ∧ Aside0 (wc.heap[gb715]? = some (.cells #[.int .i64 t711, (.slice Ao30 t729.length co30)] 29 (0, 0))) ∧ Aside0 (wc.heap[gb721]? = some (.cells #[.int .i64 t716, (.slice Ao37 t717.length co37)] 29 (0, 0))) ∧ Aside0 (wc.heap[gb743]? = some (.cells #[.int .i64 t738, (.slice Ao117 t739.length co117)] 29 (0, 0))) ∧ Aside0 (Below w.heap.size w wc))
           case first =>
            have H := HC97.out
            clear HC97
            replace H := BS H
            obtain ⟨t744, A1180, H⟩ := H
            have A118 := Aside0.mk A1180
            clear A1180
            by_cases c119 : t744 = true
            ·subst c119
             replace H := IP H
             have H' := Aside0.mk H
             clear H
             have hnb120 := NB743_699.out
             have hnc120 := NB699_743.out
             have hnb121 := NB743_710.out
             have hnc121 := NB710_743.out
             have hnb122 := NB743_715.out
             have hnc122 := NB715_743.out
             have hnb123 := NB743_721.out
             have hnc123 := NB721_743.out
             obtain ⟨hcz124_0, hcz124_1, hfz124_0, hfz124_1⟩ := bk2 BK743.out
             have hnb125 := NB710_699.out
             have hnc125 := NB699_710.out
             have hnb126 := NB710_715.out
             have hnc126 := NB715_710.out
             have hnb127 := NB710_721.out
             have hnc127 := NB721_710.out
             obtain ⟨hcz128_0, hcz128_1, hfz128_0, hfz128_1⟩ := bk2 BK710.out
             go_wp2_with (first | ((with_reducible refine gate_callee (f := 15) rfl ?_); refine goesL_ (some 86) rfl rfl Try.func15 (by kernel_rfl) rfl #[.agg #[.int .i64 t738, .slice Ao117 t739.length co117], .agg #[.int .i64 t705, .slice Ao23 t706.length co23]] rfl AQ ?_; (with_reducible refine (laws_eqTable.calls kj60 t738 _ _ t739 t705 _ _ t706 true _ ?side1 ?side2 ?side3 ?side4 A118.out).mono ?_); (case side1 => refine (Kd.R_reads' (e := 50) (base := w.heap.size) (ok := fun k_ => ((((True ∧ some k_ ≠ (.slice Ao23 t706.length co23 : Value).ownBlock) ∧ some k_ ≠ (.slice Ao30 t729.length co30 : Value).ownBlock) ∧ some k_ ≠ (.slice Ao37 t717.length co37 : Value).ownBlock) ∧ some k_ ≠ (.slice Ao109 t735.length co109 : Value).ownBlock)) (n := t739.length) (c := co117) ?_).2.2; exact (by (with_reducible repeat (first | apply Kd.R_alloc | apply Kd.R_drewN | apply Kd.R_drew)); exact (FM (FR (FR (Kd.R_types HO741.out BK743.out (by decide))))))); (case side2 => exact (Kd.R_reads' HO741.out).2.1); (case side3 => refine (Kd.R_reads' (e := 50) (base := w.heap.size) (ok := fun k_ => (((some k_ ≠ (.slice Ao30 t729.length co30 : Value).ownBlock ∧ some k_ ≠ (.slice Ao37 t717.length co37 : Value).ownBlock) ∧ some k_ ≠ (.slice Ao109 t735.length co109 : Value).ownBlock) ∧ some k_ ≠ (.slice Ao117 t739.length co117 : Value).ownBlock)) (n := t706.length) (c := co23) ?_).2.2; exact (by (with_reducible repeat (first | apply Kd.R_alloc | apply Kd.R_drewN | apply Kd.R_drew)); exact (FM (FR (FR (Kd.R_types HO_711001.out BK743.out (by decide))))))); (case side4 => exact (Kd.R_reads' HO_711001.out).2.1); rintro e w129 ⟨rfl, hb⟩; refine ⟨_, rfl, ?_⟩; have n0_ := Aside0.mk (Kd.R_below (by (with_reducible repeat (first | apply Kd.R_alloc | apply Kd.R_drewN | apply Kd.R_drew)); exact (FM (FR (FR (Kd.R_types HO_711001.out BK743.out (by decide)))))) hb); have n1_ := Aside0.mk (Kd.R_below (by (with_reducible repeat (first | apply Kd.R_alloc | apply Kd.R_drewN | apply Kd.R_drew)); exact (FM (FR (FR (Kd.R_types HO_716001.out BK743.out (by decide)))))) hb); have n2_ := Aside0.mk (Kd.R_below (by (with_reducible repeat (first | apply Kd.R_alloc | apply Kd.R_drewN | apply Kd.R_drew)); exact (FM (FR (FR (Kd.R_types HO_722001.out BK743.out (by decide)))))) hb); have n3_ := Aside0.mk (Kd.R_below (by (with_reducible repeat (first | apply Kd.R_alloc | apply Kd.R_drewN | apply Kd.R_drew)); exact (FM (FR (FR (Kd.R_types HO737.out BK743.out (by decide)))))) hb); have n4_ := Aside0.mk (Kd.R_below (by (with_reducible repeat (first | apply Kd.R_alloc | apply Kd.R_drewN | apply Kd.R_drew)); exact (FM (FR (FR (Kd.R_types HO741.out BK743.out (by decide)))))) hb); have n5_ := Aside0.mk (blk_below (g := gb699) (o := .cells #[.int .i64 a0_0, .slice A0_1 l0_1.length c0_1] 24 (0, 0)) (by (with_reducible repeat (first | refine blk_drewN ?_ _ | refine blk_drew ?_ | refine blk_alloc ?_ _)); refine blk_far ?_ NB699_743.out _; (with_reducible repeat (first | refine blk_drewN ?_ _ | refine blk_drew ?_ | refine blk_alloc ?_ _)); refine blk_far ?_ NB699_743.out _; (with_reducible repeat (first | refine blk_drewN ?_ _ | refine blk_drew ?_ | refine blk_alloc ?_ _)); exact BK699.out) hb); have n6_ := Aside0.mk (blk_below (g := gb710) (o := .cells #[.int .i64 t705, .slice Ao23 t706.length co23] 29 (0, 0)) (by (with_reducible repeat (first | refine blk_drewN ?_ _ | refine blk_drew ?_ | refine blk_alloc ?_ _)); refine blk_far ?_ NB710_743.out _; (with_reducible repeat (first | refine blk_drewN ?_ _ | refine blk_drew ?_ | refine blk_alloc ?_ _)); refine blk_far ?_ NB710_743.out _; (with_reducible repeat (first | refine blk_drewN ?_ _ | refine blk_drew ?_ | refine blk_alloc ?_ _)); exact BK710.out) hb); have n7_ := Aside0.mk (blk_below (g := gb715) (o := .cells #[.int .i64 t711, .slice Ao30 t729.length co30] 29 (0, 0)) (by (with_reducible repeat (first | refine blk_drewN ?_ _ | refine blk_drew ?_ | refine blk_alloc ?_ _)); refine blk_far ?_ NB715_743.out _; (with_reducible repeat (first | refine blk_drewN ?_ _ | refine blk_drew ?_ | refine blk_alloc ?_ _)); refine blk_far ?_ NB715_743.out _; (with_reducible repeat (first | refine blk_drewN ?_ _ | refine blk_drew ?_ | refine blk_alloc ?_ _)); exact BK715.out) hb); have n8_ := Aside0.mk (blk_below (g := gb721) (o := .cells #[.int .i64 t716, .slice Ao37 t717.length co37] 29 (0, 0)) (by (with_reducible repeat (first | refine blk_drewN ?_ _ | refine blk_drew ?_ | refine blk_alloc ?_ _)); refine blk_far ?_ NB721_743.out _; (with_reducible repeat (first | refine blk_drewN ?_ _ | refine blk_drew ?_ | refine blk_alloc ?_ _)); refine blk_far ?_ NB721_743.out _; (with_reducible repeat (first | refine blk_drewN ?_ _ | refine blk_drew ?_ | refine blk_alloc ?_ _)); exact BK721.out) hb); have n9_ := Aside0.mk (blk_below (g := gb743) (o := .cells #[.int .i64 t738, .slice Ao117 t739.length co117] 29 (0, 0)) (by (with_reducible repeat (first | refine blk_drewN ?_ _ | refine blk_drew ?_ | refine blk_alloc ?_ _)); refine blk_put (cs := #[.int .i64 t738, .slice none 0 0]) ?_ 1 _ rfl; (with_reducible repeat (first | refine blk_drewN ?_ _ | refine blk_drew ?_ | refine blk_alloc ?_ _)); refine blk_put (cs := #[.int .i64 0, .slice none 0 0]) ?_ 0 _ rfl; (with_reducible repeat (first | refine blk_drewN ?_ _ | refine blk_drew ?_ | refine blk_alloc ?_ _)); exact BK743.out) hb); have n10_ := Aside0.mk (below_step BG hb); clear HO_711001; clear HO_716001; clear HO_722001; clear HO737; clear HO741; clear BK699; clear BK710; clear BK715; clear BK721; clear BK743; clear HB; have HO_711001 := n0_; have HO_716001 := n1_; have HO_722001 := n2_; have HO737 := n3_; have HO741 := n4_; have BK699 := n5_; have BK710 := n6_; have BK715 := n7_; have BK721 := n8_; have BK743 := n9_; have HB := n10_; clear n0_ n1_ n2_ n3_ n4_ n5_ n6_ n7_ n8_ n9_ n10_; (try clear hb); (try clear hb2); (try clear hk); (try clear hi)))
             go_meet
             case rel => exact ⟨_, ((t742 != t709)), RS, H', ⟨by have := HJ11.out; have := HJ60.out; first | omega | exact Nat.le_refl _⟩, ⟨by (try simp only [hl716001_60]); (with_reducible repeat (first | apply Kd.R_alloc | apply Kd.R_drewN | apply Kd.R_drew)); exact Kd.R_mono HO_711001.out (fun _ hk => ⟨hk.1.1.1, ⟨hk.1.1.2, hk.2⟩⟩)⟩, ⟨by (try simp only [hl716001_60]); (with_reducible repeat (first | apply Kd.R_alloc | apply Kd.R_drewN | apply Kd.R_drew)); exact Kd.R_mono HO_716001.out (fun _ hk => ⟨hk.1.1.1, ⟨hk.1.1.2, hk.2⟩⟩)⟩, ⟨by (try simp only [hl716001_60]); (with_reducible repeat (first | apply Kd.R_alloc | apply Kd.R_drewN | apply Kd.R_drew)); exact Kd.R_mono HO_722001.out (fun _ hk => ⟨hk.1.1.1, ⟨hk.1.1.2, hk.2⟩⟩)⟩, ⟨by (try simp only [hl716001_60]); (with_reducible repeat (first | apply Kd.R_alloc | apply Kd.R_drewN | apply Kd.R_drew)); exact Kd.R_mono HO741.out (fun _ hk => ⟨hk.1.1.1.2, ⟨hk.1.1.2, hk.1.2⟩⟩)⟩, ⟨by (try simp only [hl716001_60]); (with_reducible repeat (first | refine blk_drewN ?_ _ | refine blk_drew ?_ | refine blk_alloc ?_ _)); exact BK699.out⟩, ⟨by (try simp only [hl716001_60]); (with_reducible repeat (first | refine blk_drewN ?_ _ | refine blk_drew ?_ | refine blk_alloc ?_ _)); exact BK710.out⟩, ⟨by (try simp only [hl716001_60]); (with_reducible repeat (first | refine blk_drewN ?_ _ | refine blk_drew ?_ | refine blk_alloc ?_ _)); exact BK715.out⟩, ⟨by (try simp only [hl716001_60]); (with_reducible repeat (first | refine blk_drewN ?_ _ | refine blk_drew ?_ | refine blk_alloc ?_ _)); exact BK721.out⟩, ⟨by (try simp only [hl716001_60]); (with_reducible repeat (first | refine blk_drewN ?_ _ | refine blk_drew ?_ | refine blk_alloc ?_ _)); exact BK743.out⟩, ⟨by repeat (first | (with_reducible first | exact HB.out | apply below_alloc | apply pw_below_drewN | apply below_drew1 | refine below_set ?_ GE699.out | refine below_set ?_ GE710.out | refine below_set ?_ GE715.out | refine below_set ?_ GE721.out | refine below_set ?_ GE743.out) | exact HB.out)⟩⟩
            ·replace c119 := Bool.eq_false_iff.mpr c119
             subst c119
             replace H := IN H
             have H' := Aside0.mk H
             clear H
             have hnb130 := NB743_699.out
             have hnc130 := NB699_743.out
             have hnb131 := NB743_710.out
             have hnc131 := NB710_743.out
             have hnb132 := NB743_715.out
             have hnc132 := NB715_743.out
             have hnb133 := NB743_721.out
             have hnc133 := NB721_743.out
             obtain ⟨hcz134_0, hcz134_1, hfz134_0, hfz134_1⟩ := bk2 BK743.out
             have hnb135 := NB710_699.out
             have hnc135 := NB699_710.out
             have hnb136 := NB710_715.out
             have hnc136 := NB715_710.out
             have hnb137 := NB710_721.out
             have hnc137 := NB721_710.out
             obtain ⟨hcz138_0, hcz138_1, hfz138_0, hfz138_1⟩ := bk2 BK710.out
             go_wp2_with (first | ((with_reducible refine gate_callee (f := 15) rfl ?_); refine goesL_ (some 86) rfl rfl Try.func15 (by kernel_rfl) rfl #[.agg #[.int .i64 t738, .slice Ao117 t739.length co117], .agg #[.int .i64 t705, .slice Ao23 t706.length co23]] rfl AQ ?_; (with_reducible refine (laws_eqTable.calls kj60 t738 _ _ t739 t705 _ _ t706 false _ ?side1 ?side2 ?side3 ?side4 A118.out).mono ?_); (case side1 => refine (Kd.R_reads' (e := 50) (base := w.heap.size) (ok := fun k_ => ((((True ∧ some k_ ≠ (.slice Ao23 t706.length co23 : Value).ownBlock) ∧ some k_ ≠ (.slice Ao30 t729.length co30 : Value).ownBlock) ∧ some k_ ≠ (.slice Ao37 t717.length co37 : Value).ownBlock) ∧ some k_ ≠ (.slice Ao109 t735.length co109 : Value).ownBlock)) (n := t739.length) (c := co117) ?_).2.2; exact (by (with_reducible repeat (first | apply Kd.R_alloc | apply Kd.R_drewN | apply Kd.R_drew)); exact (FM (FR (FR (Kd.R_types HO741.out BK743.out (by decide))))))); (case side2 => exact (Kd.R_reads' HO741.out).2.1); (case side3 => refine (Kd.R_reads' (e := 50) (base := w.heap.size) (ok := fun k_ => (((some k_ ≠ (.slice Ao30 t729.length co30 : Value).ownBlock ∧ some k_ ≠ (.slice Ao37 t717.length co37 : Value).ownBlock) ∧ some k_ ≠ (.slice Ao109 t735.length co109 : Value).ownBlock) ∧ some k_ ≠ (.slice Ao117 t739.length co117 : Value).ownBlock)) (n := t706.length) (c := co23) ?_).2.2; exact (by (with_reducible repeat (first | apply Kd.R_alloc | apply Kd.R_drewN | apply Kd.R_drew)); exact (FM (FR (FR (Kd.R_types HO_711001.out BK743.out (by decide))))))); (case side4 => exact (Kd.R_reads' HO_711001.out).2.1); rintro e w139 ⟨rfl, hb⟩; refine ⟨_, rfl, ?_⟩; have n0_ := Aside0.mk (Kd.R_below (by (with_reducible repeat (first | apply Kd.R_alloc | apply Kd.R_drewN | apply Kd.R_drew)); exact (FM (FR (FR (Kd.R_types HO_711001.out BK743.out (by decide)))))) hb); have n1_ := Aside0.mk (Kd.R_below (by (with_reducible repeat (first | apply Kd.R_alloc | apply Kd.R_drewN | apply Kd.R_drew)); exact (FM (FR (FR (Kd.R_types HO_716001.out BK743.out (by decide)))))) hb); have n2_ := Aside0.mk (Kd.R_below (by (with_reducible repeat (first | apply Kd.R_alloc | apply Kd.R_drewN | apply Kd.R_drew)); exact (FM (FR (FR (Kd.R_types HO_722001.out BK743.out (by decide)))))) hb); have n3_ := Aside0.mk (Kd.R_below (by (with_reducible repeat (first | apply Kd.R_alloc | apply Kd.R_drewN | apply Kd.R_drew)); exact (FM (FR (FR (Kd.R_types HO737.out BK743.out (by decide)))))) hb); have n4_ := Aside0.mk (Kd.R_below (by (with_reducible repeat (first | apply Kd.R_alloc | apply Kd.R_drewN | apply Kd.R_drew)); exact (FM (FR (FR (Kd.R_types HO741.out BK743.out (by decide)))))) hb); have n5_ := Aside0.mk (blk_below (g := gb699) (o := .cells #[.int .i64 a0_0, .slice A0_1 l0_1.length c0_1] 24 (0, 0)) (by (with_reducible repeat (first | refine blk_drewN ?_ _ | refine blk_drew ?_ | refine blk_alloc ?_ _)); refine blk_far ?_ NB699_743.out _; (with_reducible repeat (first | refine blk_drewN ?_ _ | refine blk_drew ?_ | refine blk_alloc ?_ _)); refine blk_far ?_ NB699_743.out _; (with_reducible repeat (first | refine blk_drewN ?_ _ | refine blk_drew ?_ | refine blk_alloc ?_ _)); exact BK699.out) hb); have n6_ := Aside0.mk (blk_below (g := gb710) (o := .cells #[.int .i64 t705, .slice Ao23 t706.length co23] 29 (0, 0)) (by (with_reducible repeat (first | refine blk_drewN ?_ _ | refine blk_drew ?_ | refine blk_alloc ?_ _)); refine blk_far ?_ NB710_743.out _; (with_reducible repeat (first | refine blk_drewN ?_ _ | refine blk_drew ?_ | refine blk_alloc ?_ _)); refine blk_far ?_ NB710_743.out _; (with_reducible repeat (first | refine blk_drewN ?_ _ | refine blk_drew ?_ | refine blk_alloc ?_ _)); exact BK710.out) hb); have n7_ := Aside0.mk (blk_below (g := gb715) (o := .cells #[.int .i64 t711, .slice Ao30 t729.length co30] 29 (0, 0)) (by (with_reducible repeat (first | refine blk_drewN ?_ _ | refine blk_drew ?_ | refine blk_alloc ?_ _)); refine blk_far ?_ NB715_743.out _; (with_reducible repeat (first | refine blk_drewN ?_ _ | refine blk_drew ?_ | refine blk_alloc ?_ _)); refine blk_far ?_ NB715_743.out _; (with_reducible repeat (first | refine blk_drewN ?_ _ | refine blk_drew ?_ | refine blk_alloc ?_ _)); exact BK715.out) hb); have n8_ := Aside0.mk (blk_below (g := gb721) (o := .cells #[.int .i64 t716, .slice Ao37 t717.length co37] 29 (0, 0)) (by (with_reducible repeat (first | refine blk_drewN ?_ _ | refine blk_drew ?_ | refine blk_alloc ?_ _)); refine blk_far ?_ NB721_743.out _; (with_reducible repeat (first | refine blk_drewN ?_ _ | refine blk_drew ?_ | refine blk_alloc ?_ _)); refine blk_far ?_ NB721_743.out _; (with_reducible repeat (first | refine blk_drewN ?_ _ | refine blk_drew ?_ | refine blk_alloc ?_ _)); exact BK721.out) hb); have n9_ := Aside0.mk (blk_below (g := gb743) (o := .cells #[.int .i64 t738, .slice Ao117 t739.length co117] 29 (0, 0)) (by (with_reducible repeat (first | refine blk_drewN ?_ _ | refine blk_drew ?_ | refine blk_alloc ?_ _)); refine blk_put (cs := #[.int .i64 t738, .slice none 0 0]) ?_ 1 _ rfl; (with_reducible repeat (first | refine blk_drewN ?_ _ | refine blk_drew ?_ | refine blk_alloc ?_ _)); refine blk_put (cs := #[.int .i64 0, .slice none 0 0]) ?_ 0 _ rfl; (with_reducible repeat (first | refine blk_drewN ?_ _ | refine blk_drew ?_ | refine blk_alloc ?_ _)); exact BK743.out) hb); have n10_ := Aside0.mk (below_step BG hb); clear HO_711001; clear HO_716001; clear HO_722001; clear HO737; clear HO741; clear BK699; clear BK710; clear BK715; clear BK721; clear BK743; clear HB; have HO_711001 := n0_; have HO_716001 := n1_; have HO_722001 := n2_; have HO737 := n3_; have HO741 := n4_; have BK699 := n5_; have BK710 := n6_; have BK715 := n7_; have BK721 := n8_; have BK743 := n9_; have HB := n10_; clear n0_ n1_ n2_ n3_ n4_ n5_ n6_ n7_ n8_ n9_ n10_; (try clear hb); (try clear hb2); (try clear hk); (try clear hi)))
             go_meet
             case rel => exact ⟨_, (true), RS, H', ⟨by have := HJ11.out; have := HJ60.out; first | omega | exact Nat.le_refl _⟩, ⟨by (try simp only [hl716001_60]); (with_reducible repeat (first | apply Kd.R_alloc | apply Kd.R_drewN | apply Kd.R_drew)); exact Kd.R_mono HO_711001.out (fun _ hk => ⟨hk.1.1.1, ⟨hk.1.1.2, hk.2⟩⟩)⟩, ⟨by (try simp only [hl716001_60]); (with_reducible repeat (first | apply Kd.R_alloc | apply Kd.R_drewN | apply Kd.R_drew)); exact Kd.R_mono HO_716001.out (fun _ hk => ⟨hk.1.1.1, ⟨hk.1.1.2, hk.2⟩⟩)⟩, ⟨by (try simp only [hl716001_60]); (with_reducible repeat (first | apply Kd.R_alloc | apply Kd.R_drewN | apply Kd.R_drew)); exact Kd.R_mono HO_722001.out (fun _ hk => ⟨hk.1.1.1, ⟨hk.1.1.2, hk.2⟩⟩)⟩, ⟨by (try simp only [hl716001_60]); (with_reducible repeat (first | apply Kd.R_alloc | apply Kd.R_drewN | apply Kd.R_drew)); exact Kd.R_mono HO741.out (fun _ hk => ⟨hk.1.1.1.2, ⟨hk.1.1.2, hk.1.2⟩⟩)⟩, ⟨by (try simp only [hl716001_60]); (with_reducible repeat (first | refine blk_drewN ?_ _ | refine blk_drew ?_ | refine blk_alloc ?_ _)); exact BK699.out⟩, ⟨by (try simp only [hl716001_60]); (with_reducible repeat (first | refine blk_drewN ?_ _ | refine blk_drew ?_ | refine blk_alloc ?_ _)); exact BK710.out⟩, ⟨by (try simp only [hl716001_60]); (with_reducible repeat (first | refine blk_drewN ?_ _ | refine blk_drew ?_ | refine blk_alloc ?_ _)); exact BK715.out⟩, ⟨by (try simp only [hl716001_60]); (with_reducible repeat (first | refine blk_drewN ?_ _ | refine blk_drew ?_ | refine blk_alloc ?_ _)); exact BK721.out⟩, ⟨by (try simp only [hl716001_60]); (with_reducible repeat (first | refine blk_drewN ?_ _ | refine blk_drew ?_ | refine blk_alloc ?_ _)); exact BK743.out⟩, ⟨by repeat (first | (with_reducible first | exact HB.out | apply below_alloc | apply pw_below_drewN | apply below_drew1 | refine below_set ?_ GE699.out | refine below_set ?_ GE710.out | refine below_set ?_ GE715.out | refine below_set ?_ GE721.out | refine below_set ?_ GE743.out) | exact HB.out)⟩⟩
           case rest =>
            clear HC97
            try clear c1
            try clear c2
            try clear p2
            try clear c3
            try clear c4
            try clear c4b0
            try clear c5
            try clear c6
            try clear c7
            try clear c8
            try clear c9
            try clear c10
            try clear c11
            try clear c12
            try clear c13
            try clear c15
            try clear c20
            try clear c21
            try clear c27
            try clear c28
            try clear c31
            try clear c32
            try clear c33
            try clear c34
            try clear c35
            try clear c39
            try clear c40
            try clear c41
            try clear c42
            try clear c44
            try clear c45
            try clear c48
            try clear c49
            try clear c50
            try clear c52
            try clear c53
            try clear c56
            try clear c59
            try clear c66
            try clear c67
            try clear c68
            try clear c71
            try clear c71b0
            try clear c73
            try clear c74
            try clear c75
            try clear c76
            try clear c78
            try clear c79
            try clear c82
            try clear c83
            try clear c84
            try clear c86
            try clear c87
            try clear c90
            try clear c93
            try clear c93b0
            try clear c94
            try clear c94b0
            try clear c94b1
            try clear c98
            try clear c99
            try clear c100
            try clear c105
            try clear c106
            try clear c112
            try clear c113
            try clear c114
            try clear c115
            try clear c119
            try clear c120
            try clear c121
            try clear c122
            try clear c123
            try clear c125
            try clear c126
            try clear c127
            try clear c130
            try clear c131
            try clear c132
            try clear c133
            try clear c135
            try clear c136
            try clear c137
            try clear hcz101_0
            try clear hcz101_1
            try clear hcz103_0
            try clear hcz103_1
            try clear hcz107_0
            try clear hcz107_1
            try clear hcz116_0
            try clear hcz116_1
            try clear hcz124_0
            try clear hcz124_1
            try clear hcz128_0
            try clear hcz128_1
            try clear hcz134_0
            try clear hcz134_1
            try clear hcz138_0
            try clear hcz138_1
            try clear hcz14_0
            try clear hcz14_1
            try clear hcz16_0
            try clear hcz16_1
            try clear hcz22_0
            try clear hcz22_1
            try clear hcz24_0
            try clear hcz24_1
            try clear hcz29_0
            try clear hcz29_1
            try clear hcz36_0
            try clear hcz36_1
            try clear hcz43_0
            try clear hcz43_1
            try clear hcz46_0
            try clear hcz46_1
            try clear hcz51_0
            try clear hcz51_1
            try clear hcz54_0
            try clear hcz54_1
            try clear hcz69_0
            try clear hcz69_1
            try clear hcz6_0
            try clear hcz6_1
            try clear hcz77_0
            try clear hcz77_1
            try clear hcz80_0
            try clear hcz80_1
            try clear hcz85_0
            try clear hcz85_1
            try clear hcz88_0
            try clear hcz88_1
            try clear hfz101_0
            try clear hfz101_1
            try clear hfz103_0
            try clear hfz103_1
            try clear hfz107_0
            try clear hfz107_1
            try clear hfz116_0
            try clear hfz116_1
            try clear hfz124_0
            try clear hfz124_1
            try clear hfz128_0
            try clear hfz128_1
            try clear hfz134_0
            try clear hfz134_1
            try clear hfz138_0
            try clear hfz138_1
            try clear hfz14_0
            try clear hfz14_1
            try clear hfz16_0
            try clear hfz16_1
            try clear hfz22_0
            try clear hfz22_1
            try clear hfz24_0
            try clear hfz24_1
            try clear hfz29_0
            try clear hfz29_1
            try clear hfz36_0
            try clear hfz36_1
            try clear hfz43_0
            try clear hfz43_1
            try clear hfz46_0
            try clear hfz46_1
            try clear hfz51_0
            try clear hfz51_1
            try clear hfz54_0
            try clear hfz54_1
            try clear hfz69_0
            try clear hfz69_1
            try clear hfz6_0
            try clear hfz6_1
            try clear hfz77_0
            try clear hfz77_1
            try clear hfz80_0
            try clear hfz80_1
            try clear hfz85_0
            try clear hfz85_1
            try clear hfz88_0
            try clear hfz88_1
            try clear p2
            obtain ⟨kq, x92_96, rfl, HA, HJ96, HO_711001, HO_716001, HO_722001, HO_744001, BK699, BK710, BK715, BK721, BK743, HB⟩ := hcut
            have hl722001_96 := (Kd.R_reads' HO_722001.out).1
            rw [hl722001_96] at HO_722001
            (try simp only [hl722001_96])
            (try simp only [hl722001_96] at BK699)
            (try simp only [hl722001_96] at BK710)
            (try simp only [hl722001_96] at BK715)
            (try simp only [hl722001_96] at BK721)
            (try simp only [hl722001_96] at BK743)
            (try simp only [hl722001_96] at HO_711001)
            (try simp only [hl722001_96] at HO_716001)
            (try simp only [hl722001_96] at HO_744001)
            cases kq with
            | zero => exact absurd HA.out (by simp [laws_FnExactOpen.j2])
            | succ kj96 =>
             have H := HA.out
             clear HA
             simp only [laws_FnExactOpen.j2] at H
             by_cases c140 : x92_96 = true
             ·subst c140
              replace H := IP H
              exact absurd H (by simp)
             ·replace c140 := Bool.eq_false_iff.mpr c140
              subst c140
              replace H := IN H
              replace H := BS H
              obtain ⟨t745, A1410, H⟩ := H
              have A141 := Aside0.mk A1410
              clear A1410
              by_cases c142 : t745 < 0
              ·rw [if_pos c142] at H
               exact absurd H (by simp)
              ·rw [if_neg c142] at H
               have c142b0 : decide (t745 < 0) = false := decide_eq_false c142
               clear c142
               by_cases c143 : t745 = t731
               ·rw [if_pos c143] at H
                have c143b0 : (t745 == t731) = true := beq_iff_eq.mpr c143
                have c143b1 : (t745 != t731) = false := bne_eq_false_iff_eq.mpr c143
                clear c143
                obtain rfl := Option.some.inj H
                have hnb144 := NB721_699.out
                have hnc144 := NB699_721.out
                have hnb145 := NB721_710.out
                have hnc145 := NB710_721.out
                have hnb146 := NB721_715.out
                have hnc146 := NB715_721.out
                have hnb147 := NB721_743.out
                have hnc147 := NB743_721.out
                obtain ⟨hcz148_0, hcz148_1, hfz148_0, hfz148_1⟩ := bk2 BK721.out
                go_wp2_with (first | ((with_reducible refine gate_callee (f := 21) rfl ?_); refine goesL_ (some 95) rfl rfl Try.func21 (by kernel_rfl) rfl #[.agg #[.int .i64 t716, .slice Ao37 t732.length co37], .int .i64 1] rfl AQ ?_; (with_reducible refine (laws_heldTable.calls kj96 t716 _ _ t732 1 t745 _ ?side1 ?side2 A141.out).mono ?_); (case side1 => exact SR HO_722001); (case side2 => exact (Kd.R_reads' HO_722001.out).2.1); rintro e w149 ⟨rfl, hb⟩; refine ⟨_, rfl, ?_⟩; have n0_ := Aside0.mk (Kd.R_below (RD HO_711001) hb); have n1_ := Aside0.mk (Kd.R_below (RD HO_716001) hb); have n2_ := Aside0.mk (Kd.R_below (RD HO_722001) hb); have n3_ := Aside0.mk (Kd.R_below (RD HO_744001) hb); have n4_ := Aside0.mk (blk_below (BD BK699) hb); have n5_ := Aside0.mk (blk_below (BD BK710) hb); have n6_ := Aside0.mk (blk_below (BD BK715) hb); have n7_ := Aside0.mk (blk_below (BD BK721) hb); have n8_ := Aside0.mk (blk_below (BD BK743) hb); have n9_ := Aside0.mk (below_step BG hb); clear HO_711001; clear HO_716001; clear HO_722001; clear HO_744001; clear BK699; clear BK710; clear BK715; clear BK721; clear BK743; clear HB; have HO_711001 := n0_; have HO_716001 := n1_; have HO_722001 := n2_; have HO_744001 := n3_; have BK699 := n4_; have BK710 := n5_; have BK715 := n6_; have BK721 := n7_; have BK743 := n8_; have HB := n9_; clear n0_ n1_ n2_ n3_ n4_ n5_ n6_ n7_ n8_ n9_; (try clear hb); (try clear hb2); (try clear hk); (try clear hi)))
                go_ret
                exact ⟨by first | rfl | (simp [errW_none, errW_some] <;> rfl) | (simp [*, errW_none, errW_some] <;> rfl), BG⟩
               ·rw [if_neg c143] at H
                exact absurd H (by simp)
          ·rw [if_neg c94] at H
           exact absurd H (by simp)
     ·replace c59 := Bool.eq_false_iff.mpr c59
      subst c59
      replace H := IN H
      exact absurd H (by simp)
def spec_Has.f (k : Nat) (a0_0 : Int) (l0_1 : List (S50)) (a1 : ByteArray) : Option (Bool) := (spec_TableOk.f k a0_0 l0_1).bind fun t242 => (if t242 = true then (if a1.toList = ([] : List UInt8) then (some false) else ((spec_l19Key.f k a1).bind fun bt243 => ((spec_l19At.f k a0_0 l0_1 bt243.1 bt243.2).bind fun t245 => (some (decide (t245 ≥ 0)))))) else (some false))
theorem spec_Has.mono : ∀ a0 a1 a2 k, LeO (spec_Has.f k a0 a1 a2) (spec_Has.f (k + 1) a0 a1 a2) := by
 intro a0 a1 a2 k
 unfold spec_Has.f
 repeat' first | (with_reducible first | exact spec_TableOk.mono _ _ _ | exact spec_l19At.mono _ _ _ _ _ | exact spec_l19Key.mono _ _ | exact LeO.refl _ | exact LeO.none _ | refine LeO.ite ?_ ?_ | refine LeO.bind ?_ (fun _ => ?_)) | exact spec_TableOk.mono _ _ _ | exact spec_l19At.mono _ _ _ _ _ | exact spec_l19Key.mono _ _ | exact LeO.none _ | refine LeO.ite ?_ ?_ | refine LeO.bind ?_ (fun _ => ?_)
def spec_Has.T1 : Bool × List (List Nat × List Nat) := (true, [([], []), ([0], [0]), ([1, 1], [1]), ([2], [2]), ([3, 2], [2, 3]), ([2, 4], [2, 4]), ([5, 2], [5]), ([6], [6]), ([6], [6]), ([8, 6, 6], [6, 8]), ([7, 9, 9, 6], [6, 7, 9]), ([10, 6], [6, 10]), ([6, 11], [6, 11]), ([12, 10, 0, 1, 2, 3, 4, 5, 6, 7, 8, 9, 10, 11, 12], [12])])
def spec_Has.B1 : List Nat := [0, 1, 3, 7, 15, 31, 63, 127, 127, 383, 1023, 2047, 4095, 8191]
theorem spec_Has.tab1 : rtab .any (opsOf Try.f16 1) = spec_Has.T1 := by kernel_rfl
theorem spec_Has.bits1 : waitsOk spec_Has.T1.2 spec_Has.B1 = true := by kernel_rfl
set_option maxHeartbeats 8000000 in
set_option maxRecDepth 100000 in
theorem spec_Has.calls (k : Nat) (a0_0 : Int) (A0_1 : Option Addr) (c0_1 : Nat) (l0_1 : List (S50)) (a1 : ByteArray) (r : Bool) (w : World) (hr0_1 : Kd.C k50 w A0_1 l0_1.length l0_1) (hc0_1 : l0_1.length ≤ c0_1) (h : spec_Has.f k a0_0 l0_1 a1 = some r) :
  Calls Try.prog 16 #[.agg #[.int .i64 a0_0, .slice A0_1 l0_1.length c0_1], .string a1] w fun e w' => e = .returned (.bool r) ∧ Below w.heap.size w w' := by
 have hu29 := Try.underlying29
 have HR0_1 := Aside0.mk hr0_1
 have HC0_1 := Aside0.mk hc0_1
 clear hr0_1 hc0_1
 have HB := Aside0.mk (Below.refl w.heap.size w)
 have H : ((spec_TableOk.f k a0_0 l0_1).bind fun t242 => (if t242 = true then (if a1.toList = ([] : List UInt8) then (some false) else ((spec_l19Key.f k a1).bind fun bt243 => ((spec_l19At.f k a0_0 l0_1 bt243.1 bt243.2).bind fun t245 => (some (decide (t245 ≥ 0)))))) else (some false))) = some r := h
 clear h
 replace H := BS H
 obtain ⟨t242, A30, H⟩ := H
 have A3 := Aside0.mk A30
 clear A30
 by_cases c4 : t242 = true
 ·subst c4
  replace H := IP H
  by_cases c5 : a1.toList = ([] : List UInt8)
  ·rw [if_pos c5] at H
   have c5b0 : (a1.toList == ([] : List UInt8)) = true := beq_iff_eq.mpr c5
   have c5b1 : (a1.toList != ([] : List UInt8)) = false := bne_eq_false_iff_eq.mpr c5
   clear c5
   obtain rfl := Option.some.inj H
   go_enter Try.func16, Try.ntmps16
   try go_wp2_with (first | ((with_reducible refine gate_dst (N := 2) rfl ?_); refine box_event ?hg (N := 2) ?hd (cs := #[.int .i64 a0_0, .slice A0_1 l0_1.length c0_1]) (t := 29) ?hr ?_; (case hd => rfl); (case hg => rfl); (case hr => first | (go_simp; done) | (go_simp; rfl)); intro gb241 hg w6 hbox hb; have n0_ := Aside0.mk (below_step BL hb); have n1_ := Aside0.mk (hbox); have n2_ := Aside0.mk ((by rw [hg]; exact (below_size BL) : w.heap.size ≤ gb241)); have n3_ := Aside0.mk ((by rw [hg]; exact (below_size BL) : w.heap.size ≤ gb241)); clear HB; have HB := n0_; have BK241 := n1_; have GW241 := n2_; have GE241 := n3_; clear n0_ n1_ n2_ n3_; clear hb hbox hg))
   have n0_ := Aside0.mk (blk_drew BK241.out)
   have n1_ := Aside0.mk (below_drew1 HB.out)
   clear BK241
   clear HB
   have BK241 := n0_
   have HB := n1_
   clear n0_ n1_
   refine start_ (n := 14) (S := fun w' => w'.cell? ⟨gb241, 0, none⟩ = some (.int .i64 a0_0) ∧ w'.cell? ⟨gb241, 1, none⟩ = some (.slice A0_1 l0_1.length c0_1)) (ds := []) #[false, false, false, false, false, false, false, false, false, false, false, false, false, false] (by kernel_rfl) rfl rfl ⟨(blk_cell BK241.out 0).trans rfl, (blk_cell BK241.out 1).trans rfl⟩ (fun hHeld => ?_); refine with_tabW spec_Has.tab1 spec_Has.bits1 (fun HT_ HW_ => ?_)
   generalize w6.drew = w7 at BK241 HB hHeld ⊢
   refine PT (i := 0) (N := some 5) (tf 1 13) rfl rfl HT_ HW_ hHeld ?_
   refine one_ (i := 1) (N := some 6) (tf 2 12) rfl rfl (one_of HT_.out (by kernel_rfl)) (by decide) (fun K hK => ?_)
   refine goes_ Try.func12 (by kernel_rfl) rfl #[.agg #[.int .i64 a0_0, .slice A0_1 l0_1.length c0_1]] (by rfl) rfl rfl AQ ?_
   with_reducible refine (spec_TableOk.calls k a0_0 _ _ l0_1 true _ ?side1 ?side2 A3.out).mono ?_
   (case side1 => exact SC HR0_1)
   (case side2 => exact HC0_1.out)
   rintro e w8 ⟨rfl, hb⟩
   refine ⟨_, rfl, ?_⟩
   have n0_ := Aside0.mk (blk_below (BD BK241) hb)
   have n1_ := Aside0.mk (below_step BG hb)
   clear BK241
   clear HB
   have BK241 := n0_
   have HB := n1_
   clear n0_ n1_
   (try clear hb)
   (try clear hb2)
   (try clear hk)
   (try clear hi)
   refine hK.out _ _ ⟨(blk_cell BK241.out 0).trans rfl, (blk_cell BK241.out 1).trans rfl⟩ (fun hHeld => ?_)
   clear hK K
   refine NM (some 6) ?_
   refine PU (i := 2) (N := some 7) (tf 3 11) rfl rfl HT_ ?_
   refine PU (i := 3) (N := some 8) (tf 4 10) rfl rfl HT_ ?_
   refine PU (i := 4) (N := some 9) (tf 5 9) rfl rfl HT_ ?_
   refine PU (i := 5) (N := some 10) (tf 6 8) rfl rfl HT_ ?_
   refine PU (i := 6) (N := some 11) (tf 7 7) rfl rfl HT_ ?_
   refine PN (i := 7) (N := some 12) (tf 8 6) rfl rfl HT_ ?_
   refine PN (i := 8) (N := some 13) (tf 9 5) rfl rfl HT_ ?_
   refine PN (i := 9) (N := some 14) (tf 10 4) rfl rfl HT_ ?_
   refine PN (i := 10) (N := some 15) (tf 11 3) rfl rfl HT_ ?_
   refine PN (i := 11) (N := some 16) (tf 12 2) rfl rfl HT_ ?_
   refine PU (i := 12) (N := some 17) (tf 13 1) rfl rfl HT_ ?_
   refine PU (i := 13) (N := some 4) (tf 14 0) rfl rfl HT_ ?_
   refine done_ (done_of HT_.out (by kernel_rfl)) ?_
   try go_wp2
   go_ret
   exact ⟨by first | rfl | (simp [errW_none, errW_some] <;> rfl) | (simp [*, errW_none, errW_some] <;> rfl), BG⟩
  ·rw [if_neg c5] at H
   have c5b0 : (a1.toList == ([] : List UInt8)) = false := beq_eq_false_iff_ne.mpr c5
   have c5b1 : (a1.toList != ([] : List UInt8)) = true := bne_iff_ne.mpr c5
   replace H := BS H
   obtain ⟨⟨t243, t244⟩, A90, H⟩ := H
   have A9 := Aside0.mk A90
   clear A90
   replace H := BS H
   obtain ⟨t245, A100, H⟩ := H
   have A10 := Aside0.mk A100
   clear A100
   obtain rfl := Option.some.inj H
   go_enter Try.func16, Try.ntmps16
   try go_wp2_with (first | ((with_reducible refine gate_dst (N := 2) rfl ?_); refine box_event ?hg (N := 2) ?hd (cs := #[.int .i64 a0_0, .slice A0_1 l0_1.length c0_1]) (t := 29) ?hr ?_; (case hd => rfl); (case hg => rfl); (case hr => first | (go_simp; done) | (go_simp; rfl)); intro gb241 hg w11 hbox hb; have n0_ := Aside0.mk (below_step BL hb); have n1_ := Aside0.mk (hbox); have n2_ := Aside0.mk ((by rw [hg]; exact (below_size BL) : w.heap.size ≤ gb241)); have n3_ := Aside0.mk ((by rw [hg]; exact (below_size BL) : w.heap.size ≤ gb241)); clear HB; have HB := n0_; have BK241 := n1_; have GW241 := n2_; have GE241 := n3_; clear n0_ n1_ n2_ n3_; clear hb hbox hg))
   have n0_ := Aside0.mk (blk_drew BK241.out)
   have n1_ := Aside0.mk (below_drew1 HB.out)
   clear BK241
   clear HB
   have BK241 := n0_
   have HB := n1_
   clear n0_ n1_
   refine start_ (n := 14) (S := fun w' => w'.cell? ⟨gb241, 0, none⟩ = some (.int .i64 a0_0) ∧ w'.cell? ⟨gb241, 1, none⟩ = some (.slice A0_1 l0_1.length c0_1)) (ds := []) #[false, false, false, false, false, false, false, false, false, false, false, false, false, false] (by kernel_rfl) rfl rfl ⟨(blk_cell BK241.out 0).trans rfl, (blk_cell BK241.out 1).trans rfl⟩ (fun hHeld => ?_); refine with_tabW spec_Has.tab1 spec_Has.bits1 (fun HT_ HW_ => ?_)
   generalize w11.drew = w12 at BK241 HB hHeld ⊢
   refine PT (i := 0) (N := some 5) (tf 1 13) rfl rfl HT_ HW_ hHeld ?_
   refine one_ (i := 1) (N := some 6) (tf 2 12) rfl rfl (one_of HT_.out (by kernel_rfl)) (by decide) (fun K hK => ?_)
   refine goes_ Try.func12 (by kernel_rfl) rfl #[.agg #[.int .i64 a0_0, .slice A0_1 l0_1.length c0_1]] (by rfl) rfl rfl AQ ?_
   with_reducible refine (spec_TableOk.calls k a0_0 _ _ l0_1 true _ ?side1 ?side2 A3.out).mono ?_
   (case side1 => exact SC HR0_1)
   (case side2 => exact HC0_1.out)
   rintro e w13 ⟨rfl, hb⟩
   refine ⟨_, rfl, ?_⟩
   have n0_ := Aside0.mk (blk_below (BD BK241) hb)
   have n1_ := Aside0.mk (below_step BG hb)
   clear BK241
   clear HB
   have BK241 := n0_
   have HB := n1_
   clear n0_ n1_
   (try clear hb)
   (try clear hb2)
   (try clear hk)
   (try clear hi)
   refine hK.out _ _ ⟨(blk_cell BK241.out 0).trans rfl, (blk_cell BK241.out 1).trans rfl⟩ (fun hHeld => ?_)
   clear hK K
   refine NM (some 6) ?_
   refine PU (i := 2) (N := some 7) (tf 3 11) rfl rfl HT_ ?_
   refine PU (i := 3) (N := some 8) (tf 4 10) rfl rfl HT_ ?_
   refine PU (i := 4) (N := some 9) (tf 5 9) rfl rfl HT_ ?_
   refine PU (i := 5) (N := some 10) (tf 6 8) rfl rfl HT_ ?_
   refine PU (i := 6) (N := some 11) (tf 7 7) rfl rfl HT_ ?_
   refine PU (i := 8) (N := some 13) #[true, true, true, true, true, true, true, false, true, false, false, false, false, false] rfl rfl HT_ ?_
   refine PT (i := 7) (N := some 12) (tf 9 5) rfl rfl HT_ HW_ hHeld ?_
   refine one_ (i := 9) (N := some 14) (tf 10 4) rfl rfl (one_of HT_.out (by kernel_rfl)) (by decide) (fun K hK => ?_)
   refine goes_ Try.func42 (by kernel_rfl) rfl #[.string a1] (by rfl) rfl rfl AQ ?_
   with_reducible refine (spec_l19Key.calls k a1 t243 t244 _ A9.out).mono ?_
   rintro e w14 ⟨rfl, hb⟩
   refine ⟨_, rfl, ?_⟩
   have n0_ := Aside0.mk (blk_below (BD BK241) hb)
   have n1_ := Aside0.mk (below_step BG hb)
   clear BK241
   clear HB
   have BK241 := n0_
   have HB := n1_
   clear n0_ n1_
   (try clear hb)
   (try clear hb2)
   (try clear hk)
   (try clear hi)
   refine hK.out _ _ ⟨(blk_cell BK241.out 0).trans rfl, (blk_cell BK241.out 1).trans rfl⟩ (fun hHeld => ?_)
   clear hK K
   refine NM (some 14) ?_
   refine one_ (i := 10) (N := some 15) (tf 11 3) rfl rfl (one_of HT_.out (by kernel_rfl)) (by decide) (fun K hK => ?_)
   refine goes_ Try.func37 (by kernel_rfl) rfl #[.agg #[.int .i64 a0_0, .slice A0_1 l0_1.length c0_1], .agg #[.int .i64 t243, .string t244]] (by rfl) rfl rfl AQ ?_
   with_reducible refine (spec_l19At.calls k a0_0 _ _ l0_1 t243 t244 t245 _ ?side1 ?side2 A10.out).mono ?_
   (case side1 => exact SC HR0_1)
   (case side2 => exact HC0_1.out)
   rintro e w15 ⟨rfl, hb⟩
   refine ⟨_, rfl, ?_⟩
   have n0_ := Aside0.mk (blk_below (BD BK241) hb)
   have n1_ := Aside0.mk (below_step BG hb)
   clear BK241
   clear HB
   have BK241 := n0_
   have HB := n1_
   clear n0_ n1_
   (try clear hb)
   (try clear hb2)
   (try clear hk)
   (try clear hi)
   refine hK.out _ _ ⟨(blk_cell BK241.out 0).trans rfl, (blk_cell BK241.out 1).trans rfl⟩ (fun hHeld => ?_)
   clear hK K
   refine NM (some 15) ?_
   refine PU (i := 11) (N := some 16) (tf 12 2) rfl rfl HT_ ?_
   refine PU (i := 12) (N := some 17) (tf 13 1) rfl rfl HT_ ?_
   refine PU (i := 13) (N := some 4) (tf 14 0) rfl rfl HT_ ?_
   refine done_ (done_of HT_.out (by kernel_rfl)) ?_
   try go_wp2
   go_ret
   exact ⟨by first | rfl | (simp [errW_none, errW_some] <;> rfl) | (simp [*, errW_none, errW_some] <;> rfl), BG⟩
 ·replace c4 := Bool.eq_false_iff.mpr c4
  subst c4
  replace H := IN H
  obtain rfl := Option.some.inj H
  go_enter Try.func16, Try.ntmps16
  try go_wp2_with (first | ((with_reducible refine gate_dst (N := 2) rfl ?_); refine box_event ?hg (N := 2) ?hd (cs := #[.int .i64 a0_0, .slice A0_1 l0_1.length c0_1]) (t := 29) ?hr ?_; (case hd => rfl); (case hg => rfl); (case hr => first | (go_simp; done) | (go_simp; rfl)); intro gb241 hg w16 hbox hb; have n0_ := Aside0.mk (below_step BL hb); have n1_ := Aside0.mk (hbox); have n2_ := Aside0.mk ((by rw [hg]; exact (below_size BL) : w.heap.size ≤ gb241)); have n3_ := Aside0.mk ((by rw [hg]; exact (below_size BL) : w.heap.size ≤ gb241)); clear HB; have HB := n0_; have BK241 := n1_; have GW241 := n2_; have GE241 := n3_; clear n0_ n1_ n2_ n3_; clear hb hbox hg))
  have n0_ := Aside0.mk (blk_drew BK241.out)
  have n1_ := Aside0.mk (below_drew1 HB.out)
  clear BK241
  clear HB
  have BK241 := n0_
  have HB := n1_
  clear n0_ n1_
  refine start_ (n := 14) (S := fun w' => w'.cell? ⟨gb241, 0, none⟩ = some (.int .i64 a0_0) ∧ w'.cell? ⟨gb241, 1, none⟩ = some (.slice A0_1 l0_1.length c0_1)) (ds := []) #[false, false, false, false, false, false, false, false, false, false, false, false, false, false] (by kernel_rfl) rfl rfl ⟨(blk_cell BK241.out 0).trans rfl, (blk_cell BK241.out 1).trans rfl⟩ (fun hHeld => ?_); refine with_tabW spec_Has.tab1 spec_Has.bits1 (fun HT_ HW_ => ?_)
  generalize w16.drew = w17 at BK241 HB hHeld ⊢
  refine PT (i := 0) (N := some 5) (tf 1 13) rfl rfl HT_ HW_ hHeld ?_
  refine one_ (i := 1) (N := some 6) (tf 2 12) rfl rfl (one_of HT_.out (by kernel_rfl)) (by decide) (fun K hK => ?_)
  refine goes_ Try.func12 (by kernel_rfl) rfl #[.agg #[.int .i64 a0_0, .slice A0_1 l0_1.length c0_1]] (by rfl) rfl rfl AQ ?_
  with_reducible refine (spec_TableOk.calls k a0_0 _ _ l0_1 false _ ?side1 ?side2 A3.out).mono ?_
  (case side1 => exact SC HR0_1)
  (case side2 => exact HC0_1.out)
  rintro e w18 ⟨rfl, hb⟩
  refine ⟨_, rfl, ?_⟩
  have n0_ := Aside0.mk (blk_below (BD BK241) hb)
  have n1_ := Aside0.mk (below_step BG hb)
  clear BK241
  clear HB
  have BK241 := n0_
  have HB := n1_
  clear n0_ n1_
  (try clear hb)
  (try clear hb2)
  (try clear hk)
  (try clear hi)
  refine hK.out _ _ ⟨(blk_cell BK241.out 0).trans rfl, (blk_cell BK241.out 1).trans rfl⟩ (fun hHeld => ?_)
  clear hK K
  refine NM (some 6) ?_
  refine PU (i := 2) (N := some 7) (tf 3 11) rfl rfl HT_ ?_
  refine PN (i := 3) (N := some 8) (tf 4 10) rfl rfl HT_ ?_
  refine PN (i := 4) (N := some 9) (tf 5 9) rfl rfl HT_ ?_
  refine PU (i := 5) (N := some 10) (tf 6 8) rfl rfl HT_ ?_
  refine PU (i := 6) (N := some 11) (tf 7 7) rfl rfl HT_ ?_
  refine PN (i := 7) (N := some 12) (tf 8 6) rfl rfl HT_ ?_
  refine PN (i := 8) (N := some 13) (tf 9 5) rfl rfl HT_ ?_
  refine PN (i := 9) (N := some 14) (tf 10 4) rfl rfl HT_ ?_
  refine PN (i := 10) (N := some 15) (tf 11 3) rfl rfl HT_ ?_
  refine PN (i := 11) (N := some 16) (tf 12 2) rfl rfl HT_ ?_
  refine PU (i := 12) (N := some 17) (tf 13 1) rfl rfl HT_ ?_
  refine PU (i := 13) (N := some 4) (tf 14 0) rfl rfl HT_ ?_
  refine done_ (done_of HT_.out (by kernel_rfl)) ?_
  try go_wp2
  go_ret
  exact ⟨by first | rfl | (simp [errW_none, errW_some] <;> rfl) | (simp [*, errW_none, errW_some] <;> rfl), BG⟩
end Go.Proofs.Ytcdflbbohnjegaa.G

namespace Go.Proofs.Ytcdflbbohnjegaa.G
open Go.RowKit Go.Proofs.YtcdflbbohnjegaaW.PrintWords Go.Proofs.YtcdflbbohnjegaaW.PrintLast Go.Proofs.YtcdflbbohnjegaaW.PrintMore Go.Proofs.Ytcdflbbohnjegaa.Sh
attribute [local go_sem] max2_int min2_int max_two min_two max_three min_three max_four min_four
set_option linter.unusedVariables false
set_option linter.unusedSimpArgs false
attribute [local go_sem high] eqA50
def slices_Index_impl_Entry_impl_Entry.l0 : Nat → List (S50) → Int → Int → Int → ByteArray → Option (Int)
 | 0, _, _, _, _, _ => none
 | k + 1, x0, x7, x8, x247000, x247001 => if x8 < x7 then (if 0 ≤ x8 then (if x8 < (x0.length : Int) then (if (x247000 == ((rd_T50 x0 x8).f0) && (x247001.toList == (((rd_T50 x0 x8).f1).toList))) = true then (some x8) else (slices_Index_impl_Entry_impl_Entry.l0 k x0 x7 (wrap64 (x8 + 1)) x247000 x247001)) else (none)) else (none)) else (some (-1))
def slices_Index_impl_Entry_impl_Entry.f (k : Nat) (l0 : List (S50)) (a1_0 : Int) (a1_1 : ByteArray) : Option (Int) := slices_Index_impl_Entry_impl_Entry.l0 k l0 (l0.length : Int) 0 a1_0 a1_1
theorem slices_Index_impl_Entry_impl_Entry.mono_l : ∀ k, (∀ y0 y1 y2 y3 y4, LeO (slices_Index_impl_Entry_impl_Entry.l0 k y0 y1 y2 y3 y4) (slices_Index_impl_Entry_impl_Entry.l0 (k + 1) y0 y1 y2 y3 y4))
 | 0 => fun _ _ _ _ _ r h => by simp [slices_Index_impl_Entry_impl_Entry.l0] at h
 | k + 1 => by
  have ih0 := slices_Index_impl_Entry_impl_Entry.mono_l k
  ·intro y0 y1 y2 y3 y4
   unfold slices_Index_impl_Entry_impl_Entry.l0
   repeat' first | (with_reducible first | exact ih0 _ _ _ _ _ | exact LeO.refl _ | exact LeO.none _ | refine LeO.ite ?_ ?_ | refine LeO.bind ?_ (fun _ => ?_)) | exact ih0 _ _ _ _ _ | exact LeO.none _ | refine LeO.ite ?_ ?_ | refine LeO.bind ?_ (fun _ => ?_)
theorem slices_Index_impl_Entry_impl_Entry.mono : ∀ a0 a1 a2 k, LeO (slices_Index_impl_Entry_impl_Entry.f k a0 a1 a2) (slices_Index_impl_Entry_impl_Entry.f (k + 1) a0 a1 a2) := by
 intro a0 a1 a2 k
 have ih0 := slices_Index_impl_Entry_impl_Entry.mono_l k
 unfold slices_Index_impl_Entry_impl_Entry.f
 repeat' first | (with_reducible first | exact ih0 _ _ _ _ _ | exact LeO.refl _ | exact LeO.none _ | refine LeO.ite ?_ ?_ | refine LeO.bind ?_ (fun _ => ?_)) | exact ih0 _ _ _ _ _ | exact LeO.none _ | refine LeO.ite ?_ ?_ | refine LeO.bind ?_ (fun _ => ?_)
set_option maxHeartbeats 8000000 in
set_option maxRecDepth 100000 in
theorem slices_Index_impl_Entry_impl_Entry.calls (k : Nat) (A0 : Option Addr) (c0 : Nat) (l0 : List (S50)) (a1_0 : Int) (a1_1 : ByteArray) (r : Int) (w : World) (hr0 : Kd.C k50 w A0 l0.length l0) (hc0 : l0.length ≤ c0) (h : slices_Index_impl_Entry_impl_Entry.f k l0 a1_0 a1_1 = some r) :
  Calls Try.prog 81 #[.slice A0 l0.length c0, .agg #[.int .i64 a1_0, .string a1_1]] w fun e w' => e = .returned (.int .i64 r) ∧ Below w.heap.size w w' := by
 have hu50 := Try.underlying50
 have HR0 := Aside0.mk hr0
 have HC0 := Aside0.mk hc0
 clear hr0 hc0
 have HB := Aside0.mk (Below.refl w.heap.size w)
 have H : (slices_Index_impl_Entry_impl_Entry.l0 k l0 (l0.length : Int) 0 a1_0 a1_1) = some r := h
 clear h
 have H' := Aside0.mk H
 clear H
 go_enter Try.func81, Try.ntmps81
 go_wp2_with (first | ((with_reducible refine gate_dst (N := 3) rfl ?_); refine box_event ?hg (N := 3) ?hd (cs := #[.int .i64 a1_0, .string a1_1]) (t := 50) ?hr ?_; (case hd => rfl); (case hg => rfl); (case hr => first | (go_simp; done) | (go_simp; rfl)); intro gb246 hg w3 hbox hb; have n0_ := Aside0.mk (below_step BL hb); have n1_ := Aside0.mk (hbox); have n2_ := Aside0.mk ((by rw [hg]; exact (below_size BL) : w.heap.size ≤ gb246)); have n3_ := Aside0.mk ((by rw [hg]; exact (below_size BL) : w.heap.size ≤ gb246)); clear HB; have HB := n0_; have BK246 := n1_; have GW246 := n2_; have GE246 := n3_; clear n0_ n1_ n2_ n3_; clear hb hbox hg))
 repeat (go_quiet (first | ((with_reducible refine gate_dst (N := 3) rfl ?_); refine box_event ?hg (N := 3) ?hd (cs := #[.int .i64 a1_0, .string a1_1]) (t := 50) ?hr ?_; (case hd => rfl); (case hg => rfl); (case hr => first | (go_simp; done) | (go_simp; rfl)); intro gb246 hg w3 hbox hb; have n0_ := Aside0.mk (below_step BL hb); have n1_ := Aside0.mk (hbox); have n2_ := Aside0.mk ((by rw [hg]; exact (below_size BL) : w.heap.size ≤ gb246)); have n3_ := Aside0.mk ((by rw [hg]; exact (below_size BL) : w.heap.size ≤ gb246)); clear HB; have HB := n0_; have BK246 := n1_; have GW246 := n2_; have GE246 := n3_; clear n0_ n1_ n2_ n3_; clear hb hbox hg)); try go_wp2_with (first | ((with_reducible refine gate_dst (N := 3) rfl ?_); refine box_event ?hg (N := 3) ?hd (cs := #[.int .i64 a1_0, .string a1_1]) (t := 50) ?hr ?_; (case hd => rfl); (case hg => rfl); (case hr => first | (go_simp; done) | (go_simp; rfl)); intro gb246 hg w3 hbox hb; have n0_ := Aside0.mk (below_step BL hb); have n1_ := Aside0.mk (hbox); have n2_ := Aside0.mk ((by rw [hg]; exact (below_size BL) : w.heap.size ≤ gb246)); have n3_ := Aside0.mk ((by rw [hg]; exact (below_size BL) : w.heap.size ≤ gb246)); clear HB; have HB := n0_; have BK246 := n1_; have GW246 := n2_; have GE246 := n3_; clear n0_ n1_ n2_ n3_; clear hb hbox hg)))
 go_loopg [8] k (fun kq v8 w' => ∃ (x8_1 : Int), v8 = .int .i64 x8_1 ∧ Aside0 (slices_Index_impl_Entry_impl_Entry.l0 kq l0 (l0.length : Int) x8_1 a1_0 a1_1 = some r) ∧ Aside0 (kq ≤ k) ∧ Aside0 (w'.heap[gb246]? = some (.cells #[.int .i64 a1_0, .string a1_1] 50 (0, 0))) ∧ Aside0 (Below w.heap.size w w'))
 case atStart => exact ⟨(0), RS, H', ⟨Nat.le_refl _⟩, ⟨by (with_reducible repeat (first | refine blk_drewN ?_ _ | refine blk_drew ?_ | refine blk_alloc ?_ _)); exact BK246.out⟩, ⟨by repeat (first | (with_reducible first | exact HB.out | apply below_alloc | apply pw_below_drewN | apply below_drew1 | refine below_set ?_ GE246.out) | exact HB.out)⟩⟩
 case round =>
  clear H'
  try clear p2
  obtain ⟨x8_1, rfl, HA, HK1, BK246, HB⟩ := hrel
  cases gk with
  | zero => exact absurd HA.out (by simp [slices_Index_impl_Entry_impl_Entry.l0])
  | succ k1 =>
   have H := HA.out
   clear HA
   simp only [slices_Index_impl_Entry_impl_Entry.l0] at H
   by_cases c4 : x8_1 < (l0.length : Int)
   ·rw [if_pos c4] at H
    have c4b0 : decide (x8_1 < (l0.length : Int)) = true := decide_eq_true c4
    clear c4
    by_cases c5 : 0 ≤ x8_1
    ·rw [if_pos c5] at H
     have c5b0 : decide (0 ≤ x8_1) = true := decide_eq_true c5
     clear c5
     by_cases c6 : x8_1 < (l0.length : Int)
     ·rw [if_pos c6] at H
      have c6b0 : decide (x8_1 < (l0.length : Int)) = true := decide_eq_true c6
      clear c6
      by_cases c7 : (a1_0 == ((rd_T50 l0 x8_1).f0) && (a1_1.toList == (((rd_T50 l0 x8_1).f1).toList))) = true
      ·rw [if_pos c7] at H
       have c7b0 : (a1_0 == ((rd_T50 l0 x8_1).f0) && (a1_1.toList == (((rd_T50 l0 x8_1).f1).toList))) = true := c7
       (try (have c7b1 : decide (a1_0 = ((rd_T50 l0 x8_1).f0) && (a1_1.toList == (((rd_T50 l0 x8_1).f1).toList))) = true := by simpa using c7))
       (try (have c7b2 : (a1_0 == ((rd_T50 l0 x8_1).f0) && (a1_1.toList == (((rd_T50 l0 x8_1).f1).toList))) = true := by simpa using c7))
       clear c7
       obtain rfl := Option.some.inj H
       obtain ⟨hcz8_0, hcz8_1, hfz8_0, hfz8_1⟩ := bk2 BK246.out
       have p247 : 0 ≤ (x8_1 : Int) := of_decide_eq_true AS
       have q247 : x8_1 < (l0.length : Int) := of_decide_eq_true AS
       obtain ⟨ad247, e247, hx247_0, hx247_1⟩ := at_T50 HR0.out x8_1 p247 q247
       cases e247
       replace hx247_0 := (HB.out.cell (World.block_lt_of_cell? w _ hx247_0)).trans hx247_0
       replace hx247_1 := (HB.out.cell (World.block_lt_of_cell? w _ hx247_1)).trans hx247_1
       replace p247 := eq_true p247
       replace q247 := eq_true q247
       go_wp2
       repeat (go_quiet (fail); try go_wp2)
       go_ret
       exact ⟨by first | rfl | (simp [errW_none, errW_some] <;> rfl) | (simp [*, errW_none, errW_some] <;> rfl), BG⟩
      ·rw [if_neg c7] at H
       have c7b0 : (a1_0 == ((rd_T50 l0 x8_1).f0) && (a1_1.toList == (((rd_T50 l0 x8_1).f1).toList))) = false := by simpa using c7
       (try (have c7b1 : decide (a1_0 = ((rd_T50 l0 x8_1).f0) && (a1_1.toList == (((rd_T50 l0 x8_1).f1).toList))) = false := by simpa using c7))
       (try (have c7b2 : (a1_0 == ((rd_T50 l0 x8_1).f0) && (a1_1.toList == (((rd_T50 l0 x8_1).f1).toList))) = false := by simpa using c7))
       (try (have c7b3 : ¬ (a1_0 = ((rd_T50 l0 x8_1).f0) && (a1_1.toList == (((rd_T50 l0 x8_1).f1).toList))) := by simpa using c7))
       clear c7
       have H' := Aside0.mk H
       clear H
       obtain ⟨hcz9_0, hcz9_1, hfz9_0, hfz9_1⟩ := bk2 BK246.out
       have p247 : 0 ≤ (x8_1 : Int) := of_decide_eq_true AS
       have q247 : x8_1 < (l0.length : Int) := of_decide_eq_true AS
       obtain ⟨ad247, e247, hx247_0, hx247_1⟩ := at_T50 HR0.out x8_1 p247 q247
       cases e247
       replace hx247_0 := (HB.out.cell (World.block_lt_of_cell? w _ hx247_0)).trans hx247_0
       replace hx247_1 := (HB.out.cell (World.block_lt_of_cell? w _ hx247_1)).trans hx247_1
       replace p247 := eq_true p247
       replace q247 := eq_true q247
       go_wp2
       repeat (go_quiet (fail); try go_wp2)
       go_roundg k1
       case measure => have := HK1.out; omega
       case rel => exact ⟨(wrap64 (x8_1 + 1)), RS, H', ⟨by have := HK1.out; omega⟩, ⟨by (with_reducible repeat (first | refine blk_drewN ?_ _ | refine blk_drew ?_ | refine blk_alloc ?_ _)); exact BK246.out⟩, ⟨by repeat (first | (with_reducible first | exact HB.out | apply below_alloc | apply pw_below_drewN | apply below_drew1 | refine below_set ?_ GE246.out) | exact HB.out)⟩⟩
     ·rw [if_neg c6] at H
      exact absurd H (by simp)
    ·rw [if_neg c5] at H
     exact absurd H (by simp)
   ·rw [if_neg c4] at H
    have c4b0 : decide (x8_1 < (l0.length : Int)) = false := decide_eq_false c4
    clear c4
    obtain rfl := Option.some.inj H
    go_wp2
    repeat (go_quiet (fail); try go_wp2)
    go_ret
    exact ⟨by first | rfl | (simp [errW_none, errW_some] <;> rfl) | (simp [*, errW_none, errW_some] <;> rfl), BG⟩
end Go.Proofs.Ytcdflbbohnjegaa.G

namespace Go.Proofs.Ytcdflbbohnjegaa.G
open Go.RowKit Go.Proofs.YtcdflbbohnjegaaW.PrintWords Go.Proofs.YtcdflbbohnjegaaW.PrintLast Go.Proofs.YtcdflbbohnjegaaW.PrintMore Go.Proofs.Ytcdflbbohnjegaa.Sh
attribute [local go_sem] max2_int min2_int max_two min_two max_three min_three max_four min_four
set_option linter.unusedVariables false
set_option linter.unusedSimpArgs false
def slices_Contains_impl_Entry_impl_Entry.f (k : Nat) (l0 : List (S50)) (a1_0 : Int) (a1_1 : ByteArray) : Option (Bool) := (slices_Index_impl_Entry_impl_Entry.f k l0 a1_0 a1_1).bind fun t249 => (some (decide (t249 ≥ 0)))
theorem slices_Contains_impl_Entry_impl_Entry.mono : ∀ a0 a1 a2 k, LeO (slices_Contains_impl_Entry_impl_Entry.f k a0 a1 a2) (slices_Contains_impl_Entry_impl_Entry.f (k + 1) a0 a1 a2) := by
 intro a0 a1 a2 k
 unfold slices_Contains_impl_Entry_impl_Entry.f
 repeat' first | (with_reducible first | exact slices_Index_impl_Entry_impl_Entry.mono _ _ _ _ | exact LeO.refl _ | exact LeO.none _ | refine LeO.ite ?_ ?_ | refine LeO.bind ?_ (fun _ => ?_)) | exact slices_Index_impl_Entry_impl_Entry.mono _ _ _ _ | exact LeO.none _ | refine LeO.ite ?_ ?_ | refine LeO.bind ?_ (fun _ => ?_)
set_option maxHeartbeats 8000000 in
set_option maxRecDepth 100000 in
theorem slices_Contains_impl_Entry_impl_Entry.calls (k : Nat) (A0 : Option Addr) (c0 : Nat) (l0 : List (S50)) (a1_0 : Int) (a1_1 : ByteArray) (r : Bool) (w : World) (hr0 : Kd.C k50 w A0 l0.length l0) (hc0 : l0.length ≤ c0) (h : slices_Contains_impl_Entry_impl_Entry.f k l0 a1_0 a1_1 = some r) :
  Calls Try.prog 52 #[.slice A0 l0.length c0, .agg #[.int .i64 a1_0, .string a1_1]] w fun e w' => e = .returned (.bool r) ∧ Below w.heap.size w w' := by
 have hu50 := Try.underlying50
 have HR0 := Aside0.mk hr0
 have HC0 := Aside0.mk hc0
 clear hr0 hc0
 have HB := Aside0.mk (Below.refl w.heap.size w)
 have H : ((slices_Index_impl_Entry_impl_Entry.f k l0 a1_0 a1_1).bind fun t249 => (some (decide (t249 ≥ 0)))) = some r := h
 clear h
 replace H := BS H
 obtain ⟨t249, A30, H⟩ := H
 have A3 := Aside0.mk A30
 clear A30
 obtain rfl := Option.some.inj H
 go_enter Try.func52, Try.ntmps52
 go_wp2_with (first | ((with_reducible refine gate_dst (N := 3) rfl ?_); refine box_event ?hg (N := 3) ?hd (cs := #[.int .i64 a1_0, .string a1_1]) (t := 50) ?hr ?_; (case hd => rfl); (case hg => rfl); (case hr => first | (go_simp; done) | (go_simp; rfl)); intro gb248 hg w4 hbox hb; have n0_ := Aside0.mk (below_step BL hb); have n1_ := Aside0.mk (hbox); have n2_ := Aside0.mk ((by rw [hg]; exact (below_size BL) : w.heap.size ≤ gb248)); have n3_ := Aside0.mk ((by rw [hg]; exact (below_size BL) : w.heap.size ≤ gb248)); clear HB; have HB := n0_; have BK248 := n1_; have GW248 := n2_; have GE248 := n3_; clear n0_ n1_ n2_ n3_; clear hb hbox hg; obtain ⟨hcz5_0, hcz5_1, hfz5_0, hfz5_1⟩ := bk2 BK248.out) | ((with_reducible refine gate_callee (f := 81) rfl ?_); refine goesL_ (some 7) rfl rfl Try.func81 (by kernel_rfl) rfl #[.slice A0 l0.length c0, .agg #[.int .i64 a1_0, .string a1_1]] rfl AQ ?_; (with_reducible refine (slices_Index_impl_Entry_impl_Entry.calls k _ _ l0 a1_0 a1_1 t249 _ ?side1 ?side2 A3.out).mono ?_); (case side1 => exact SC HR0); (case side2 => exact HC0.out); rintro e w6 ⟨rfl, hb⟩; refine ⟨_, rfl, ?_⟩; have n0_ := Aside0.mk (blk_below (BD BK248) hb); have n1_ := Aside0.mk (below_step BG hb); clear BK248; clear HB; have BK248 := n0_; have HB := n1_; clear n0_ n1_; (try clear hb); (try clear hb2); (try clear hk); (try clear hi)))
 go_ret
 exact ⟨by first | rfl | (simp [errW_none, errW_some] <;> rfl) | (simp [*, errW_none, errW_some] <;> rfl), BG⟩
def impl_Has.f (k : Nat) (a0_0 : Int) (l0_1 : List (S50)) (a1 : ByteArray) : Option (Bool) := if a1.toList = ([] : List UInt8) then (some false) else ((impl_TableOk.f k a0_0 l0_1).bind fun t251 => (if t251 = true then ((impl_entryOf.f k a1).bind fun bt252 => ((slices_Contains_impl_Entry_impl_Entry.f k l0_1 bt252.1 bt252.2).bind fun t254 => (some t254))) else (some false)))
theorem impl_Has.mono : ∀ a0 a1 a2 k, LeO (impl_Has.f k a0 a1 a2) (impl_Has.f (k + 1) a0 a1 a2) := by
 intro a0 a1 a2 k
 unfold impl_Has.f
 repeat' first | (with_reducible first | exact impl_TableOk.mono _ _ _ | exact impl_entryOf.mono _ _ | exact slices_Contains_impl_Entry_impl_Entry.mono _ _ _ _ | exact LeO.refl _ | exact LeO.none _ | refine LeO.ite ?_ ?_ | refine LeO.bind ?_ (fun _ => ?_)) | exact impl_TableOk.mono _ _ _ | exact impl_entryOf.mono _ _ | exact slices_Contains_impl_Entry_impl_Entry.mono _ _ _ _ | exact LeO.none _ | refine LeO.ite ?_ ?_ | refine LeO.bind ?_ (fun _ => ?_)
def impl_Has.T1 : Bool × List (List Nat × List Nat) := (true, [([], []), ([0], [0]), ([1], [1]), ([2], [2]), ([3, 2, 2], [2, 3]), ([2, 4], [2, 4]), ([5, 4], [5]), ([6], [6]), ([7, 6], [6, 7]), ([6], [6]), ([9, 6, 6], [6, 9]), ([8, 10, 10, 6], [6, 8, 10]), ([6, 11], [6, 11]), ([12, 11, 0, 1, 2, 3, 4, 5, 6, 7, 8, 9, 10, 11, 12], [12])])
def impl_Has.B1 : List Nat := [0, 1, 3, 7, 15, 31, 63, 127, 255, 127, 639, 2047, 4095, 8191]
theorem impl_Has.tab1 : rtab .any (opsOf Try.f17 1) = impl_Has.T1 := by kernel_rfl
theorem impl_Has.bits1 : waitsOk impl_Has.T1.2 impl_Has.B1 = true := by kernel_rfl
set_option maxHeartbeats 8000000 in
set_option maxRecDepth 100000 in
theorem impl_Has.calls (k : Nat) (a0_0 : Int) (A0_1 : Option Addr) (c0_1 : Nat) (l0_1 : List (S50)) (a1 : ByteArray) (r : Bool) (w : World) (hr0_1 : Kd.C k50 w A0_1 l0_1.length l0_1) (hc0_1 : l0_1.length ≤ c0_1) (h : impl_Has.f k a0_0 l0_1 a1 = some r) :
  Calls Try.prog 17 #[.agg #[.int .i64 a0_0, .slice A0_1 l0_1.length c0_1], .string a1] w fun e w' => e = .returned (.bool r) ∧ Below w.heap.size w w' := by
 have hu29 := Try.underlying29
 have HR0_1 := Aside0.mk hr0_1
 have HC0_1 := Aside0.mk hc0_1
 clear hr0_1 hc0_1
 have HB := Aside0.mk (Below.refl w.heap.size w)
 have H : (if a1.toList = ([] : List UInt8) then (some false) else ((impl_TableOk.f k a0_0 l0_1).bind fun t251 => (if t251 = true then ((impl_entryOf.f k a1).bind fun bt252 => ((slices_Contains_impl_Entry_impl_Entry.f k l0_1 bt252.1 bt252.2).bind fun t254 => (some t254))) else (some false)))) = some r := h
 clear h
 by_cases c3 : a1.toList = ([] : List UInt8)
 ·rw [if_pos c3] at H
  have c3b0 : (a1.toList == ([] : List UInt8)) = true := beq_iff_eq.mpr c3
  have c3b1 : (a1.toList != ([] : List UInt8)) = false := bne_eq_false_iff_eq.mpr c3
  clear c3
  obtain rfl := Option.some.inj H
  go_enter Try.func17, Try.ntmps17
  try go_wp2_with (first | ((with_reducible refine gate_dst (N := 2) rfl ?_); refine box_event ?hg (N := 2) ?hd (cs := #[.int .i64 a0_0, .slice A0_1 l0_1.length c0_1]) (t := 29) ?hr ?_; (case hd => rfl); (case hg => rfl); (case hr => first | (go_simp; done) | (go_simp; rfl)); intro gb250 hg w4 hbox hb; have n0_ := Aside0.mk (below_step BL hb); have n1_ := Aside0.mk (hbox); have n2_ := Aside0.mk ((by rw [hg]; exact (below_size BL) : w.heap.size ≤ gb250)); have n3_ := Aside0.mk ((by rw [hg]; exact (below_size BL) : w.heap.size ≤ gb250)); clear HB; have HB := n0_; have BK250 := n1_; have GW250 := n2_; have GE250 := n3_; clear n0_ n1_ n2_ n3_; clear hb hbox hg))
  have n0_ := Aside0.mk (blk_drew BK250.out)
  have n1_ := Aside0.mk (below_drew1 HB.out)
  clear BK250
  clear HB
  have BK250 := n0_
  have HB := n1_
  clear n0_ n1_
  refine start_ (n := 14) (S := fun w' => True) (ds := []) #[false, false, false, false, false, false, false, false, false, false, false, false, false, false] (by kernel_rfl) rfl rfl trivial (fun hHeld => ?_); refine with_tabW impl_Has.tab1 impl_Has.bits1 (fun HT_ HW_ => ?_)
  generalize w4.drew = w5 at BK250 HB hHeld ⊢
  refine PU (i := 0) (N := some 5) (tf 1 13) rfl rfl HT_ ?_
  refine PU (i := 1) (N := some 6) (tf 2 12) rfl rfl HT_ ?_
  refine PU (i := 2) (N := some 7) (tf 3 11) rfl rfl HT_ ?_
  refine PN (i := 3) (N := some 8) (tf 4 10) rfl rfl HT_ ?_
  refine PN (i := 4) (N := some 9) (tf 5 9) rfl rfl HT_ ?_
  refine PU (i := 5) (N := some 10) (tf 6 8) rfl rfl HT_ ?_
  refine PU (i := 6) (N := some 11) (tf 7 7) rfl rfl HT_ ?_
  refine PN (i := 7) (N := some 12) (tf 8 6) rfl rfl HT_ ?_
  refine PN (i := 8) (N := some 13) (tf 9 5) rfl rfl HT_ ?_
  refine PN (i := 9) (N := some 14) (tf 10 4) rfl rfl HT_ ?_
  refine PN (i := 10) (N := some 15) (tf 11 3) rfl rfl HT_ ?_
  refine PN (i := 11) (N := some 16) (tf 12 2) rfl rfl HT_ ?_
  refine PU (i := 12) (N := some 17) (tf 13 1) rfl rfl HT_ ?_
  refine PU (i := 13) (N := some 4) (tf 14 0) rfl rfl HT_ ?_
  refine done_ (done_of HT_.out (by kernel_rfl)) ?_
  try go_wp2
  go_ret
  exact ⟨by first | rfl | (simp [errW_none, errW_some] <;> rfl) | (simp [*, errW_none, errW_some] <;> rfl), BG⟩
 ·rw [if_neg c3] at H
  have c3b0 : (a1.toList == ([] : List UInt8)) = false := beq_eq_false_iff_ne.mpr c3
  have c3b1 : (a1.toList != ([] : List UInt8)) = true := bne_iff_ne.mpr c3
  replace H := BS H
  obtain ⟨t251, A60, H⟩ := H
  have A6 := Aside0.mk A60
  clear A60
  by_cases c7 : t251 = true
  ·subst c7
   replace H := IP H
   replace H := BS H
   obtain ⟨⟨t252, t253⟩, A80, H⟩ := H
   have A8 := Aside0.mk A80
   clear A80
   replace H := BS H
   obtain ⟨t254, A90, H⟩ := H
   have A9 := Aside0.mk A90
   clear A90
   obtain rfl := Option.some.inj H
   go_enter Try.func17, Try.ntmps17
   try go_wp2_with (first | ((with_reducible refine gate_dst (N := 2) rfl ?_); refine box_event ?hg (N := 2) ?hd (cs := #[.int .i64 a0_0, .slice A0_1 l0_1.length c0_1]) (t := 29) ?hr ?_; (case hd => rfl); (case hg => rfl); (case hr => first | (go_simp; done) | (go_simp; rfl)); intro gb250 hg w10 hbox hb; have n0_ := Aside0.mk (below_step BL hb); have n1_ := Aside0.mk (hbox); have n2_ := Aside0.mk ((by rw [hg]; exact (below_size BL) : w.heap.size ≤ gb250)); have n3_ := Aside0.mk ((by rw [hg]; exact (below_size BL) : w.heap.size ≤ gb250)); clear HB; have HB := n0_; have BK250 := n1_; have GW250 := n2_; have GE250 := n3_; clear n0_ n1_ n2_ n3_; clear hb hbox hg))
   have n0_ := Aside0.mk (blk_drew BK250.out)
   have n1_ := Aside0.mk (below_drew1 HB.out)
   clear BK250
   clear HB
   have BK250 := n0_
   have HB := n1_
   clear n0_ n1_
   refine start_ (n := 14) (S := fun w' => w'.cell? ⟨gb250, 0, none⟩ = some (.int .i64 a0_0) ∧ w'.cell? ⟨gb250, 1, none⟩ = some (.slice A0_1 l0_1.length c0_1)) (ds := []) #[false, false, false, false, false, false, false, false, false, false, false, false, false, false] (by kernel_rfl) rfl rfl ⟨(blk_cell BK250.out 0).trans rfl, (blk_cell BK250.out 1).trans rfl⟩ (fun hHeld => ?_); refine with_tabW impl_Has.tab1 impl_Has.bits1 (fun HT_ HW_ => ?_)
   generalize w10.drew = w11 at BK250 HB hHeld ⊢
   refine PU (i := 0) (N := some 5) (tf 1 13) rfl rfl HT_ ?_
   refine PU (i := 1) (N := some 6) (tf 2 12) rfl rfl HT_ ?_
   refine PU (i := 2) (N := some 7) (tf 3 11) rfl rfl HT_ ?_
   refine PT (i := 3) (N := some 8) (tf 4 10) rfl rfl HT_ HW_ hHeld ?_
   refine one_ (i := 4) (N := some 9) (tf 5 9) rfl rfl (one_of HT_.out (by kernel_rfl)) (by decide) (fun K hK => ?_)
   refine goes_ Try.func14 (by kernel_rfl) rfl #[.agg #[.int .i64 a0_0, .slice A0_1 l0_1.length c0_1]] (by rfl) rfl rfl AQ ?_
   with_reducible refine (impl_TableOk.calls k a0_0 _ _ l0_1 true _ ?side1 ?side2 A6.out).mono ?_
   (case side1 => exact SC HR0_1)
   (case side2 => exact HC0_1.out)
   rintro e w12 ⟨rfl, hb⟩
   refine ⟨_, rfl, ?_⟩
   have n0_ := Aside0.mk (blk_below (BD BK250) hb)
   have n1_ := Aside0.mk (below_step BG hb)
   clear BK250
   clear HB
   have BK250 := n0_
   have HB := n1_
   clear n0_ n1_
   (try clear hb)
   (try clear hb2)
   (try clear hk)
   (try clear hi)
   refine hK.out _ _ ⟨(blk_cell BK250.out 0).trans rfl, (blk_cell BK250.out 1).trans rfl⟩ (fun hHeld => ?_)
   clear hK K
   refine NM (some 9) ?_
   refine PU (i := 5) (N := some 10) (tf 6 8) rfl rfl HT_ ?_
   refine PU (i := 6) (N := some 11) (tf 7 7) rfl rfl HT_ ?_
   refine PU (i := 7) (N := some 12) (tf 8 6) rfl rfl HT_ ?_
   refine PU (i := 9) (N := some 14) #[true, true, true, true, true, true, true, true, false, true, false, false, false, false] rfl rfl HT_ ?_
   refine PT (i := 8) (N := some 13) (tf 10 4) rfl rfl HT_ HW_ hHeld ?_
   refine one_ (i := 10) (N := some 15) (tf 11 3) rfl rfl (one_of HT_.out (by kernel_rfl)) (by decide) (fun K hK => ?_)
   refine goes_ Try.func48 (by kernel_rfl) rfl #[.string a1] (by rfl) rfl rfl AQ ?_
   with_reducible refine (impl_entryOf.calls k a1 t252 t253 _ A8.out).mono ?_
   rintro e w13 ⟨rfl, hb⟩
   refine ⟨_, rfl, ?_⟩
   have n0_ := Aside0.mk (blk_below (BD BK250) hb)
   have n1_ := Aside0.mk (below_step BG hb)
   clear BK250
   clear HB
   have BK250 := n0_
   have HB := n1_
   clear n0_ n1_
   (try clear hb)
   (try clear hb2)
   (try clear hk)
   (try clear hi)
   refine hK.out _ _ ⟨(blk_cell BK250.out 0).trans rfl, (blk_cell BK250.out 1).trans rfl⟩ (fun hHeld => ?_)
   clear hK K
   refine NM (some 15) ?_
   refine one_ (i := 11) (N := some 16) (tf 12 2) rfl rfl (one_of HT_.out (by kernel_rfl)) (by decide) (fun K hK => ?_)
   refine goes_ Try.func52 (by kernel_rfl) rfl #[.slice A0_1 l0_1.length c0_1, .agg #[.int .i64 t252, .string t253]] (by rfl) rfl rfl AQ ?_
   with_reducible refine (slices_Contains_impl_Entry_impl_Entry.calls k _ _ l0_1 t252 t253 t254 _ ?side1 ?side2 A9.out).mono ?_
   (case side1 => exact SC HR0_1)
   (case side2 => exact HC0_1.out)
   rintro e w14 ⟨rfl, hb⟩
   refine ⟨_, rfl, ?_⟩
   have n0_ := Aside0.mk (blk_below (BD BK250) hb)
   have n1_ := Aside0.mk (below_step BG hb)
   clear BK250
   clear HB
   have BK250 := n0_
   have HB := n1_
   clear n0_ n1_
   (try clear hb)
   (try clear hb2)
   (try clear hk)
   (try clear hi)
   refine hK.out _ _ ⟨(blk_cell BK250.out 0).trans rfl, (blk_cell BK250.out 1).trans rfl⟩ (fun hHeld => ?_)
   clear hK K
   refine NM (some 16) ?_
   refine PU (i := 12) (N := some 17) (tf 13 1) rfl rfl HT_ ?_
   refine PU (i := 13) (N := some 4) (tf 14 0) rfl rfl HT_ ?_
   refine done_ (done_of HT_.out (by kernel_rfl)) ?_
   try go_wp2
   go_ret
   exact ⟨by first | rfl | (simp [errW_none, errW_some] <;> rfl) | (simp [*, errW_none, errW_some] <;> rfl), BG⟩
  ·replace c7 := Bool.eq_false_iff.mpr c7
   subst c7
   replace H := IN H
   obtain rfl := Option.some.inj H
   go_enter Try.func17, Try.ntmps17
   try go_wp2_with (first | ((with_reducible refine gate_dst (N := 2) rfl ?_); refine box_event ?hg (N := 2) ?hd (cs := #[.int .i64 a0_0, .slice A0_1 l0_1.length c0_1]) (t := 29) ?hr ?_; (case hd => rfl); (case hg => rfl); (case hr => first | (go_simp; done) | (go_simp; rfl)); intro gb250 hg w15 hbox hb; have n0_ := Aside0.mk (below_step BL hb); have n1_ := Aside0.mk (hbox); have n2_ := Aside0.mk ((by rw [hg]; exact (below_size BL) : w.heap.size ≤ gb250)); have n3_ := Aside0.mk ((by rw [hg]; exact (below_size BL) : w.heap.size ≤ gb250)); clear HB; have HB := n0_; have BK250 := n1_; have GW250 := n2_; have GE250 := n3_; clear n0_ n1_ n2_ n3_; clear hb hbox hg))
   have n0_ := Aside0.mk (blk_drew BK250.out)
   have n1_ := Aside0.mk (below_drew1 HB.out)
   clear BK250
   clear HB
   have BK250 := n0_
   have HB := n1_
   clear n0_ n1_
   refine start_ (n := 14) (S := fun w' => w'.cell? ⟨gb250, 0, none⟩ = some (.int .i64 a0_0) ∧ w'.cell? ⟨gb250, 1, none⟩ = some (.slice A0_1 l0_1.length c0_1)) (ds := []) #[false, false, false, false, false, false, false, false, false, false, false, false, false, false] (by kernel_rfl) rfl rfl ⟨(blk_cell BK250.out 0).trans rfl, (blk_cell BK250.out 1).trans rfl⟩ (fun hHeld => ?_); refine with_tabW impl_Has.tab1 impl_Has.bits1 (fun HT_ HW_ => ?_)
   generalize w15.drew = w16 at BK250 HB hHeld ⊢
   refine PU (i := 0) (N := some 5) (tf 1 13) rfl rfl HT_ ?_
   refine PU (i := 1) (N := some 6) (tf 2 12) rfl rfl HT_ ?_
   refine PU (i := 2) (N := some 7) (tf 3 11) rfl rfl HT_ ?_
   refine PT (i := 3) (N := some 8) (tf 4 10) rfl rfl HT_ HW_ hHeld ?_
   refine one_ (i := 4) (N := some 9) (tf 5 9) rfl rfl (one_of HT_.out (by kernel_rfl)) (by decide) (fun K hK => ?_)
   refine goes_ Try.func14 (by kernel_rfl) rfl #[.agg #[.int .i64 a0_0, .slice A0_1 l0_1.length c0_1]] (by rfl) rfl rfl AQ ?_
   with_reducible refine (impl_TableOk.calls k a0_0 _ _ l0_1 false _ ?side1 ?side2 A6.out).mono ?_
   (case side1 => exact SC HR0_1)
   (case side2 => exact HC0_1.out)
   rintro e w17 ⟨rfl, hb⟩
   refine ⟨_, rfl, ?_⟩
   have n0_ := Aside0.mk (blk_below (BD BK250) hb)
   have n1_ := Aside0.mk (below_step BG hb)
   clear BK250
   clear HB
   have BK250 := n0_
   have HB := n1_
   clear n0_ n1_
   (try clear hb)
   (try clear hb2)
   (try clear hk)
   (try clear hi)
   refine hK.out _ _ ⟨(blk_cell BK250.out 0).trans rfl, (blk_cell BK250.out 1).trans rfl⟩ (fun hHeld => ?_)
   clear hK K
   refine NM (some 9) ?_
   refine PU (i := 5) (N := some 10) (tf 6 8) rfl rfl HT_ ?_
   refine PU (i := 6) (N := some 11) (tf 7 7) rfl rfl HT_ ?_
   refine PN (i := 7) (N := some 12) (tf 8 6) rfl rfl HT_ ?_
   refine PN (i := 8) (N := some 13) (tf 9 5) rfl rfl HT_ ?_
   refine PN (i := 9) (N := some 14) (tf 10 4) rfl rfl HT_ ?_
   refine PN (i := 10) (N := some 15) (tf 11 3) rfl rfl HT_ ?_
   refine PN (i := 11) (N := some 16) (tf 12 2) rfl rfl HT_ ?_
   refine PU (i := 12) (N := some 17) (tf 13 1) rfl rfl HT_ ?_
   refine PU (i := 13) (N := some 4) (tf 14 0) rfl rfl HT_ ?_
   refine done_ (done_of HT_.out (by kernel_rfl)) ?_
   try go_wp2
   go_ret
   exact ⟨by first | rfl | (simp [errW_none, errW_some] <;> rfl) | (simp [*, errW_none, errW_some] <;> rfl), BG⟩
end Go.Proofs.Ytcdflbbohnjegaa.G
