/- Part 3 of the claim FnExactAlike, merged by pack.py (this session's program) out of: texts that gen.py printed (it runs the kit's print in place) and texts of this session. -/
import Derived.Test.YtlmpbngndcagbaaWWords
import Derived.Test.YtlmpbngndcagbaaRows
import Derived.WalkKit
import Derived.ProofKit
import Derived.OpenShut
import Derived.ShutString
import Derived.ChangeOld
import Derived.Below
import Derived.SizedLaws
import Derived.Test.YtlmpbngndcagbaaKFnExactAlike0
import Derived.Test.YtlmpbngndcagbaaKFnExactAlike1
import Derived.Test.YtlmpbngndcagbaaKFnExactAlike2
-- written by gen.py (this session's program), which runs the kit's print.py in place
namespace Go.Proofs.Ytlmpbngndcagbaa.G
open Go.RowKit Go.Proofs.YtlmpbngndcagbaaW.PrintWords Go.Proofs.YtlmpbngndcagbaaW.PrintLast Go.Proofs.YtlmpbngndcagbaaW.PrintMore
attribute [local go_sem] max2_int min2_int max_two min_two max_three min_three max_four min_four   -- for this text's walks alone
set_option linter.unusedVariables false
set_option linter.unusedSimpArgs false

/-! ### laws_heldThree: function 78 -/
def laws_heldThree.f (k : Nat) (a0_0 : Int) (a0_1 : Int) (l0_2 : List (S57)) (l0_3 : List (S57)) (l0_4 : List Int) (a1 : Int) : Option (Int) := (laws_heldItemS.f k l0_2 a1).bind fun t516 => (if t516 < 0 then (some (-1)) else ((laws_heldItemS.f k l0_3 t516).bind fun t517 => (if t517 < 0 then (some (-1)) else ((laws_heldIntS.f k l0_4 t517).bind fun t518 => (if t518 < 0 then (some (-1)) else (some t518))))))
theorem laws_heldThree.mono : ∀ a0 a1 a2 a3 a4 a5 k, LeO (laws_heldThree.f k a0 a1 a2 a3 a4 a5) (laws_heldThree.f (k + 1) a0 a1 a2 a3 a4 a5) := by
  intro a0 a1 a2 a3 a4 a5 k
  unfold laws_heldThree.f
  repeat' first
      | (with_reducible exact laws_heldIntS.mono _ _ _)
      | (with_reducible exact laws_heldItemS.mono _ _ _)
      | (with_reducible exact LeO.refl _)
      | (with_reducible exact LeO.none _)
      | (with_reducible refine LeO.ite ?_ ?_)
      | (with_reducible refine LeO.bind ?_ (fun _ => ?_))
      | exact laws_heldIntS.mono _ _ _
      | exact laws_heldItemS.mono _ _ _
      | exact LeO.none _
      | refine LeO.ite ?_ ?_
      | refine LeO.bind ?_ (fun _ => ?_)
set_option maxHeartbeats 8000000 in
set_option maxRecDepth 100000 in
theorem laws_heldThree.calls (k : Nat) (a0_0 : Int) (a0_1 : Int) (A0_2 : Option Addr) (c0_2 : Nat) (l0_2 : List (S57)) (A0_3 : Option Addr) (c0_3 : Nat) (l0_3 : List (S57)) (A0_4 : Option Addr) (c0_4 : Nat) (l0_4 : List Int) (a1 : Int) (r : Int) (w : World) (hr0_2 : Kd.C k57 w A0_2 l0_2.length l0_2) (hc0_2 : l0_2.length ≤ c0_2) (hr0_3 : Kd.C k57 w A0_3 l0_3.length l0_3) (hc0_3 : l0_3.length ≤ c0_3) (hr0_4 : Kd.C (Kd.int .i64) w A0_4 l0_4.length l0_4) (hc0_4 : l0_4.length ≤ c0_4) (h : laws_heldThree.f k a0_0 a0_1 l0_2 l0_3 l0_4 a1 = some r) :
    Calls Try.prog 78 #[.agg #[.int .i64 a0_0, .int .i64 a0_1, .slice A0_2 l0_2.length c0_2, .slice A0_3 l0_3.length c0_3, .slice A0_4 l0_4.length c0_4], .int .i64 a1] w fun e w' => e = .returned (.int .i64 r) ∧ Below w.heap.size w w' := by
  have hu50 := Try.underlying50
  have HR0_2 := Aside0.mk hr0_2
  have HC0_2 := Aside0.mk hc0_2
  clear hr0_2 hc0_2
  have HR0_3 := Aside0.mk hr0_3
  have HC0_3 := Aside0.mk hc0_3
  clear hr0_3 hc0_3
  have HR0_4 := Aside0.mk hr0_4
  have HC0_4 := Aside0.mk hc0_4
  clear hr0_4 hc0_4
  have HB := Aside0.mk (Below.refl w.heap.size w)
  have H : ((laws_heldItemS.f k l0_2 a1).bind fun t516 => (if t516 < 0 then (some (-1)) else ((laws_heldItemS.f k l0_3 t516).bind fun t517 => (if t517 < 0 then (some (-1)) else ((laws_heldIntS.f k l0_4 t517).bind fun t518 => (if t518 < 0 then (some (-1)) else (some t518))))))) = some r := h
  clear h
  replace H := Option.bind_eq_some_iff.mp H
  obtain ⟨t516, A30, H⟩ := H
  replace H : (if t516 < 0 then (some (-1)) else ((laws_heldItemS.f k l0_3 t516).bind fun t517 => (if t517 < 0 then (some (-1)) else ((laws_heldIntS.f k l0_4 t517).bind fun t518 => (if t518 < 0 then (some (-1)) else (some t518)))))) = some r := H
  have A3 := Aside0.mk A30
  clear A30
  by_cases c4 : t516 < 0
  · rw [if_pos c4] at H
    have c4b0 : decide (t516 < 0) = true := decide_eq_true c4
    clear c4
    obtain rfl := Option.some.inj H
    go_enter Try.func78, Try.ntmps78
    go_wp2_with (first | ((with_reducible refine gate_dst (N := 2) rfl ?_); refine box_event ?hg (N := 2) ?hd (cs := #[.int .i64 a0_0, .int .i64 a0_1, .slice A0_2 l0_2.length c0_2, .slice A0_3 l0_3.length c0_3, .slice A0_4 l0_4.length c0_4]) (t := 50) ?hr ?_; (case hd => rfl); (case hg => rfl); (case hr => first | (go_simp; done) | (go_simp; rfl)); intro gb515 hg w5 hbox hb; have n0_ := Aside0.mk (below_step (by repeat (first | (with_reducible first | exact HB.out | apply below_alloc | apply pw_below_drewN | apply below_drew1) | exact HB.out)) hb); have n1_ := Aside0.mk (hbox); have n2_ := Aside0.mk ((by rw [hg]; exact (below_size (by repeat (first | (with_reducible first | exact HB.out | apply below_alloc | apply pw_below_drewN | apply below_drew1) | exact HB.out))) : w.heap.size ≤ gb515)); have n3_ := Aside0.mk ((by rw [hg]; exact (below_size (by repeat (first | (with_reducible first | exact HB.out | apply below_alloc | apply pw_below_drewN | apply below_drew1) | exact HB.out))) : w.heap.size ≤ gb515)); clear HB; have HB := n0_; have BK515 := n1_; have GW515 := n2_; have GE515 := n3_; clear n0_ n1_ n2_ n3_; clear hb hbox hg; have hcz6_0 : w5.cell? ⟨gb515, 0, none⟩ = some (.int .i64 a0_0) := (blk_cell BK515.out 0).trans rfl; have hcz6_1 : w5.cell? ⟨gb515, 1, none⟩ = some (.int .i64 a0_1) := (blk_cell BK515.out 1).trans rfl; have hcz6_2 : w5.cell? ⟨gb515, 2, none⟩ = some (.slice A0_2 l0_2.length c0_2) := (blk_cell BK515.out 2).trans rfl; have hcz6_3 : w5.cell? ⟨gb515, 3, none⟩ = some (.slice A0_3 l0_3.length c0_3) := (blk_cell BK515.out 3).trans rfl; have hcz6_4 : w5.cell? ⟨gb515, 4, none⟩ = some (.slice A0_4 l0_4.length c0_4) := (blk_cell BK515.out 4).trans rfl; have hfz6_0 := blk_frozen BK515.out 0; have hfz6_1 := blk_frozen BK515.out 1; have hfz6_2 := blk_frozen BK515.out 2; have hfz6_3 := blk_frozen BK515.out 3; have hfz6_4 := blk_frozen BK515.out 4) | ((with_reducible refine gate_callee (f := 104) rfl ?_); refine goesL_ (some 8) rfl rfl Try.func104 (by kernel_rfl) rfl #[.slice A0_2 l0_2.length c0_2, .int .i64 a1] rfl (by (try simp only [List.map_toArray, List.map_cons, List.map_nil]); first | done | rfl | (simp only [List.length_drop, List.length_take]; rfl)) ?_; (with_reducible refine (laws_heldItemS.calls k _ _ l0_2 a1 t516 _ ?side1 ?side2 A3.out).mono ?_); (case side1 => repeat (first | exact (Kd.C_below HR0_2.out HB.out) | (with_reducible refine Kd.C_alloc ?_ _) | (with_reducible refine Kd.C_drewN ?_ _) | (with_reducible refine Kd.C_drew ?_))); (case side2 => exact HC0_2.out); rintro e w7 ⟨rfl, hb⟩; refine ⟨_, rfl, ?_⟩; have n0_ := Aside0.mk (blk_below (g := gb515) (o := .cells #[.int .i64 a0_0, .int .i64 a0_1, .slice A0_2 l0_2.length c0_2, .slice A0_3 l0_3.length c0_3, .slice A0_4 l0_4.length c0_4] 50 (0, 0)) (by (with_reducible repeat (first | refine blk_drewN ?_ _ | refine blk_drew ?_ | refine blk_alloc ?_ _)); exact BK515.out) hb); have n1_ := Aside0.mk (below_step (by repeat (first | (with_reducible first | exact HB.out | apply below_alloc | apply pw_below_drewN | apply below_drew1 | refine below_set ?_ GE515.out) | exact HB.out)) hb); clear BK515; clear HB; have BK515 := n0_; have HB := n1_; clear n0_ n1_; (try clear hb); (try clear hb2); (try clear hk); (try clear hi)))
    go_ret
    exact ⟨by first | rfl | (simp [errW_none, errW_some] <;> rfl) | (simp [*, errW_none, errW_some] <;> rfl), by repeat (first | (with_reducible first | exact HB.out | apply below_alloc | apply pw_below_drewN | apply below_drew1 | refine below_set ?_ GE515.out) | exact HB.out)⟩
  · rw [if_neg c4] at H
    have c4b0 : decide (t516 < 0) = false := decide_eq_false c4
    clear c4
    replace H := Option.bind_eq_some_iff.mp H
    obtain ⟨t517, A80, H⟩ := H
    replace H : (if t517 < 0 then (some (-1)) else ((laws_heldIntS.f k l0_4 t517).bind fun t518 => (if t518 < 0 then (some (-1)) else (some t518)))) = some r := H
    have A8 := Aside0.mk A80
    clear A80
    by_cases c9 : t517 < 0
    · rw [if_pos c9] at H
      have c9b0 : decide (t517 < 0) = true := decide_eq_true c9
      clear c9
      obtain rfl := Option.some.inj H
      go_enter Try.func78, Try.ntmps78
      go_wp2_with (first | ((with_reducible refine gate_dst (N := 2) rfl ?_); refine box_event ?hg (N := 2) ?hd (cs := #[.int .i64 a0_0, .int .i64 a0_1, .slice A0_2 l0_2.length c0_2, .slice A0_3 l0_3.length c0_3, .slice A0_4 l0_4.length c0_4]) (t := 50) ?hr ?_; (case hd => rfl); (case hg => rfl); (case hr => first | (go_simp; done) | (go_simp; rfl)); intro gb515 hg w10 hbox hb; have n0_ := Aside0.mk (below_step (by repeat (first | (with_reducible first | exact HB.out | apply below_alloc | apply pw_below_drewN | apply below_drew1) | exact HB.out)) hb); have n1_ := Aside0.mk (hbox); have n2_ := Aside0.mk ((by rw [hg]; exact (below_size (by repeat (first | (with_reducible first | exact HB.out | apply below_alloc | apply pw_below_drewN | apply below_drew1) | exact HB.out))) : w.heap.size ≤ gb515)); have n3_ := Aside0.mk ((by rw [hg]; exact (below_size (by repeat (first | (with_reducible first | exact HB.out | apply below_alloc | apply pw_below_drewN | apply below_drew1) | exact HB.out))) : w.heap.size ≤ gb515)); clear HB; have HB := n0_; have BK515 := n1_; have GW515 := n2_; have GE515 := n3_; clear n0_ n1_ n2_ n3_; clear hb hbox hg; have hcz11_0 : w10.cell? ⟨gb515, 0, none⟩ = some (.int .i64 a0_0) := (blk_cell BK515.out 0).trans rfl; have hcz11_1 : w10.cell? ⟨gb515, 1, none⟩ = some (.int .i64 a0_1) := (blk_cell BK515.out 1).trans rfl; have hcz11_2 : w10.cell? ⟨gb515, 2, none⟩ = some (.slice A0_2 l0_2.length c0_2) := (blk_cell BK515.out 2).trans rfl; have hcz11_3 : w10.cell? ⟨gb515, 3, none⟩ = some (.slice A0_3 l0_3.length c0_3) := (blk_cell BK515.out 3).trans rfl; have hcz11_4 : w10.cell? ⟨gb515, 4, none⟩ = some (.slice A0_4 l0_4.length c0_4) := (blk_cell BK515.out 4).trans rfl; have hfz11_0 := blk_frozen BK515.out 0; have hfz11_1 := blk_frozen BK515.out 1; have hfz11_2 := blk_frozen BK515.out 2; have hfz11_3 := blk_frozen BK515.out 3; have hfz11_4 := blk_frozen BK515.out 4) | ((with_reducible refine gate_callee (f := 104) rfl ?_); refine goesL_ (some 8) rfl rfl Try.func104 (by kernel_rfl) rfl #[.slice A0_2 l0_2.length c0_2, .int .i64 a1] rfl (by (try simp only [List.map_toArray, List.map_cons, List.map_nil]); first | done | rfl | (simp only [List.length_drop, List.length_take]; rfl)) ?_; (with_reducible refine (laws_heldItemS.calls k _ _ l0_2 a1 t516 _ ?side1 ?side2 A3.out).mono ?_); (case side1 => repeat (first | exact (Kd.C_below HR0_2.out HB.out) | (with_reducible refine Kd.C_alloc ?_ _) | (with_reducible refine Kd.C_drewN ?_ _) | (with_reducible refine Kd.C_drew ?_))); (case side2 => exact HC0_2.out); rintro e w12 ⟨rfl, hb⟩; refine ⟨_, rfl, ?_⟩; have n0_ := Aside0.mk (blk_below (g := gb515) (o := .cells #[.int .i64 a0_0, .int .i64 a0_1, .slice A0_2 l0_2.length c0_2, .slice A0_3 l0_3.length c0_3, .slice A0_4 l0_4.length c0_4] 50 (0, 0)) (by (with_reducible repeat (first | refine blk_drewN ?_ _ | refine blk_drew ?_ | refine blk_alloc ?_ _)); exact BK515.out) hb); have n1_ := Aside0.mk (below_step (by repeat (first | (with_reducible first | exact HB.out | apply below_alloc | apply pw_below_drewN | apply below_drew1 | refine below_set ?_ GE515.out) | exact HB.out)) hb); clear BK515; clear HB; have BK515 := n0_; have HB := n1_; clear n0_ n1_; (try clear hb); (try clear hb2); (try clear hk); (try clear hi); have hcz13_0 : w12.cell? ⟨gb515, 0, none⟩ = some (.int .i64 a0_0) := (blk_cell BK515.out 0).trans rfl; have hcz13_1 : w12.cell? ⟨gb515, 1, none⟩ = some (.int .i64 a0_1) := (blk_cell BK515.out 1).trans rfl; have hcz13_2 : w12.cell? ⟨gb515, 2, none⟩ = some (.slice A0_2 l0_2.length c0_2) := (blk_cell BK515.out 2).trans rfl; have hcz13_3 : w12.cell? ⟨gb515, 3, none⟩ = some (.slice A0_3 l0_3.length c0_3) := (blk_cell BK515.out 3).trans rfl; have hcz13_4 : w12.cell? ⟨gb515, 4, none⟩ = some (.slice A0_4 l0_4.length c0_4) := (blk_cell BK515.out 4).trans rfl; have hfz13_0 := blk_frozen BK515.out 0; have hfz13_1 := blk_frozen BK515.out 1; have hfz13_2 := blk_frozen BK515.out 2; have hfz13_3 := blk_frozen BK515.out 3; have hfz13_4 := blk_frozen BK515.out 4) | ((with_reducible refine gate_callee (f := 104) rfl ?_); refine goesL_ (some 14) rfl rfl Try.func104 (by kernel_rfl) rfl #[.slice A0_3 l0_3.length c0_3, .int .i64 t516] rfl (by (try simp only [List.map_toArray, List.map_cons, List.map_nil]); first | done | rfl | (simp only [List.length_drop, List.length_take]; rfl)) ?_; (with_reducible refine (laws_heldItemS.calls k _ _ l0_3 t516 t517 _ ?side1 ?side2 A8.out).mono ?_); (case side1 => repeat (first | exact (Kd.C_below HR0_3.out HB.out) | (with_reducible refine Kd.C_alloc ?_ _) | (with_reducible refine Kd.C_drewN ?_ _) | (with_reducible refine Kd.C_drew ?_))); (case side2 => exact HC0_3.out); rintro e w14 ⟨rfl, hb⟩; refine ⟨_, rfl, ?_⟩; have n0_ := Aside0.mk (blk_below (g := gb515) (o := .cells #[.int .i64 a0_0, .int .i64 a0_1, .slice A0_2 l0_2.length c0_2, .slice A0_3 l0_3.length c0_3, .slice A0_4 l0_4.length c0_4] 50 (0, 0)) (by (with_reducible repeat (first | refine blk_drewN ?_ _ | refine blk_drew ?_ | refine blk_alloc ?_ _)); exact BK515.out) hb); have n1_ := Aside0.mk (below_step (by repeat (first | (with_reducible first | exact HB.out | apply below_alloc | apply pw_below_drewN | apply below_drew1 | refine below_set ?_ GE515.out) | exact HB.out)) hb); clear BK515; clear HB; have BK515 := n0_; have HB := n1_; clear n0_ n1_; (try clear hb); (try clear hb2); (try clear hk); (try clear hi)))
      go_ret
      exact ⟨by first | rfl | (simp [errW_none, errW_some] <;> rfl) | (simp [*, errW_none, errW_some] <;> rfl), by repeat (first | (with_reducible first | exact HB.out | apply below_alloc | apply pw_below_drewN | apply below_drew1 | refine below_set ?_ GE515.out) | exact HB.out)⟩
    · rw [if_neg c9] at H
      have c9b0 : decide (t517 < 0) = false := decide_eq_false c9
      clear c9
      replace H := Option.bind_eq_some_iff.mp H
      obtain ⟨t518, A150, H⟩ := H
      replace H : (if t518 < 0 then (some (-1)) else (some t518)) = some r := H
      have A15 := Aside0.mk A150
      clear A150
      by_cases c16 : t518 < 0
      · rw [if_pos c16] at H
        have c16b0 : decide (t518 < 0) = true := decide_eq_true c16
        clear c16
        obtain rfl := Option.some.inj H
        go_enter Try.func78, Try.ntmps78
        go_wp2_with (first | ((with_reducible refine gate_dst (N := 2) rfl ?_); refine box_event ?hg (N := 2) ?hd (cs := #[.int .i64 a0_0, .int .i64 a0_1, .slice A0_2 l0_2.length c0_2, .slice A0_3 l0_3.length c0_3, .slice A0_4 l0_4.length c0_4]) (t := 50) ?hr ?_; (case hd => rfl); (case hg => rfl); (case hr => first | (go_simp; done) | (go_simp; rfl)); intro gb515 hg w17 hbox hb; have n0_ := Aside0.mk (below_step (by repeat (first | (with_reducible first | exact HB.out | apply below_alloc | apply pw_below_drewN | apply below_drew1) | exact HB.out)) hb); have n1_ := Aside0.mk (hbox); have n2_ := Aside0.mk ((by rw [hg]; exact (below_size (by repeat (first | (with_reducible first | exact HB.out | apply below_alloc | apply pw_below_drewN | apply below_drew1) | exact HB.out))) : w.heap.size ≤ gb515)); have n3_ := Aside0.mk ((by rw [hg]; exact (below_size (by repeat (first | (with_reducible first | exact HB.out | apply below_alloc | apply pw_below_drewN | apply below_drew1) | exact HB.out))) : w.heap.size ≤ gb515)); clear HB; have HB := n0_; have BK515 := n1_; have GW515 := n2_; have GE515 := n3_; clear n0_ n1_ n2_ n3_; clear hb hbox hg; have hcz18_0 : w17.cell? ⟨gb515, 0, none⟩ = some (.int .i64 a0_0) := (blk_cell BK515.out 0).trans rfl; have hcz18_1 : w17.cell? ⟨gb515, 1, none⟩ = some (.int .i64 a0_1) := (blk_cell BK515.out 1).trans rfl; have hcz18_2 : w17.cell? ⟨gb515, 2, none⟩ = some (.slice A0_2 l0_2.length c0_2) := (blk_cell BK515.out 2).trans rfl; have hcz18_3 : w17.cell? ⟨gb515, 3, none⟩ = some (.slice A0_3 l0_3.length c0_3) := (blk_cell BK515.out 3).trans rfl; have hcz18_4 : w17.cell? ⟨gb515, 4, none⟩ = some (.slice A0_4 l0_4.length c0_4) := (blk_cell BK515.out 4).trans rfl; have hfz18_0 := blk_frozen BK515.out 0; have hfz18_1 := blk_frozen BK515.out 1; have hfz18_2 := blk_frozen BK515.out 2; have hfz18_3 := blk_frozen BK515.out 3; have hfz18_4 := blk_frozen BK515.out 4) | ((with_reducible refine gate_callee (f := 104) rfl ?_); refine goesL_ (some 8) rfl rfl Try.func104 (by kernel_rfl) rfl #[.slice A0_2 l0_2.length c0_2, .int .i64 a1] rfl (by (try simp only [List.map_toArray, List.map_cons, List.map_nil]); first | done | rfl | (simp only [List.length_drop, List.length_take]; rfl)) ?_; (with_reducible refine (laws_heldItemS.calls k _ _ l0_2 a1 t516 _ ?side1 ?side2 A3.out).mono ?_); (case side1 => repeat (first | exact (Kd.C_below HR0_2.out HB.out) | (with_reducible refine Kd.C_alloc ?_ _) | (with_reducible refine Kd.C_drewN ?_ _) | (with_reducible refine Kd.C_drew ?_))); (case side2 => exact HC0_2.out); rintro e w19 ⟨rfl, hb⟩; refine ⟨_, rfl, ?_⟩; have n0_ := Aside0.mk (blk_below (g := gb515) (o := .cells #[.int .i64 a0_0, .int .i64 a0_1, .slice A0_2 l0_2.length c0_2, .slice A0_3 l0_3.length c0_3, .slice A0_4 l0_4.length c0_4] 50 (0, 0)) (by (with_reducible repeat (first | refine blk_drewN ?_ _ | refine blk_drew ?_ | refine blk_alloc ?_ _)); exact BK515.out) hb); have n1_ := Aside0.mk (below_step (by repeat (first | (with_reducible first | exact HB.out | apply below_alloc | apply pw_below_drewN | apply below_drew1 | refine below_set ?_ GE515.out) | exact HB.out)) hb); clear BK515; clear HB; have BK515 := n0_; have HB := n1_; clear n0_ n1_; (try clear hb); (try clear hb2); (try clear hk); (try clear hi); have hcz20_0 : w19.cell? ⟨gb515, 0, none⟩ = some (.int .i64 a0_0) := (blk_cell BK515.out 0).trans rfl; have hcz20_1 : w19.cell? ⟨gb515, 1, none⟩ = some (.int .i64 a0_1) := (blk_cell BK515.out 1).trans rfl; have hcz20_2 : w19.cell? ⟨gb515, 2, none⟩ = some (.slice A0_2 l0_2.length c0_2) := (blk_cell BK515.out 2).trans rfl; have hcz20_3 : w19.cell? ⟨gb515, 3, none⟩ = some (.slice A0_3 l0_3.length c0_3) := (blk_cell BK515.out 3).trans rfl; have hcz20_4 : w19.cell? ⟨gb515, 4, none⟩ = some (.slice A0_4 l0_4.length c0_4) := (blk_cell BK515.out 4).trans rfl; have hfz20_0 := blk_frozen BK515.out 0; have hfz20_1 := blk_frozen BK515.out 1; have hfz20_2 := blk_frozen BK515.out 2; have hfz20_3 := blk_frozen BK515.out 3; have hfz20_4 := blk_frozen BK515.out 4) | ((with_reducible refine gate_callee (f := 104) rfl ?_); refine goesL_ (some 14) rfl rfl Try.func104 (by kernel_rfl) rfl #[.slice A0_3 l0_3.length c0_3, .int .i64 t516] rfl (by (try simp only [List.map_toArray, List.map_cons, List.map_nil]); first | done | rfl | (simp only [List.length_drop, List.length_take]; rfl)) ?_; (with_reducible refine (laws_heldItemS.calls k _ _ l0_3 t516 t517 _ ?side1 ?side2 A8.out).mono ?_); (case side1 => repeat (first | exact (Kd.C_below HR0_3.out HB.out) | (with_reducible refine Kd.C_alloc ?_ _) | (with_reducible refine Kd.C_drewN ?_ _) | (with_reducible refine Kd.C_drew ?_))); (case side2 => exact HC0_3.out); rintro e w21 ⟨rfl, hb⟩; refine ⟨_, rfl, ?_⟩; have n0_ := Aside0.mk (blk_below (g := gb515) (o := .cells #[.int .i64 a0_0, .int .i64 a0_1, .slice A0_2 l0_2.length c0_2, .slice A0_3 l0_3.length c0_3, .slice A0_4 l0_4.length c0_4] 50 (0, 0)) (by (with_reducible repeat (first | refine blk_drewN ?_ _ | refine blk_drew ?_ | refine blk_alloc ?_ _)); exact BK515.out) hb); have n1_ := Aside0.mk (below_step (by repeat (first | (with_reducible first | exact HB.out | apply below_alloc | apply pw_below_drewN | apply below_drew1 | refine below_set ?_ GE515.out) | exact HB.out)) hb); clear BK515; clear HB; have BK515 := n0_; have HB := n1_; clear n0_ n1_; (try clear hb); (try clear hb2); (try clear hk); (try clear hi); have hcz22_0 : w21.cell? ⟨gb515, 0, none⟩ = some (.int .i64 a0_0) := (blk_cell BK515.out 0).trans rfl; have hcz22_1 : w21.cell? ⟨gb515, 1, none⟩ = some (.int .i64 a0_1) := (blk_cell BK515.out 1).trans rfl; have hcz22_2 : w21.cell? ⟨gb515, 2, none⟩ = some (.slice A0_2 l0_2.length c0_2) := (blk_cell BK515.out 2).trans rfl; have hcz22_3 : w21.cell? ⟨gb515, 3, none⟩ = some (.slice A0_3 l0_3.length c0_3) := (blk_cell BK515.out 3).trans rfl; have hcz22_4 : w21.cell? ⟨gb515, 4, none⟩ = some (.slice A0_4 l0_4.length c0_4) := (blk_cell BK515.out 4).trans rfl; have hfz22_0 := blk_frozen BK515.out 0; have hfz22_1 := blk_frozen BK515.out 1; have hfz22_2 := blk_frozen BK515.out 2; have hfz22_3 := blk_frozen BK515.out 3; have hfz22_4 := blk_frozen BK515.out 4) | ((with_reducible refine gate_callee (f := 105) rfl ?_); refine goesL_ (some 20) rfl rfl Try.func105 (by kernel_rfl) rfl #[.slice A0_4 l0_4.length c0_4, .int .i64 t517] rfl (by (try simp only [List.map_toArray, List.map_cons, List.map_nil]); first | done | rfl | (simp only [List.length_drop, List.length_take]; rfl)) ?_; (with_reducible refine (laws_heldIntS.calls k _ _ l0_4 t517 t518 _ ?side1 ?side2 A15.out).mono ?_); (case side1 => repeat (first | exact (Kd.C_below HR0_4.out HB.out) | (with_reducible refine Kd.C_alloc ?_ _) | (with_reducible refine Kd.C_drewN ?_ _) | (with_reducible refine Kd.C_drew ?_))); (case side2 => exact HC0_4.out); rintro e w' ⟨rfl, ⟨nd, rfl⟩⟩; refine ⟨_, rfl, ?_⟩))
        go_ret
        exact ⟨by first | rfl | (simp [errW_none, errW_some] <;> rfl) | (simp [*, errW_none, errW_some] <;> rfl), by repeat (first | (with_reducible first | exact HB.out | apply below_alloc | apply pw_below_drewN | apply below_drew1 | refine below_set ?_ GE515.out) | exact HB.out)⟩
      · rw [if_neg c16] at H
        have c16b0 : decide (t518 < 0) = false := decide_eq_false c16
        clear c16
        obtain rfl := Option.some.inj H
        go_enter Try.func78, Try.ntmps78
        go_wp2_with (first | ((with_reducible refine gate_dst (N := 2) rfl ?_); refine box_event ?hg (N := 2) ?hd (cs := #[.int .i64 a0_0, .int .i64 a0_1, .slice A0_2 l0_2.length c0_2, .slice A0_3 l0_3.length c0_3, .slice A0_4 l0_4.length c0_4]) (t := 50) ?hr ?_; (case hd => rfl); (case hg => rfl); (case hr => first | (go_simp; done) | (go_simp; rfl)); intro gb515 hg w23 hbox hb; have n0_ := Aside0.mk (below_step (by repeat (first | (with_reducible first | exact HB.out | apply below_alloc | apply pw_below_drewN | apply below_drew1) | exact HB.out)) hb); have n1_ := Aside0.mk (hbox); have n2_ := Aside0.mk ((by rw [hg]; exact (below_size (by repeat (first | (with_reducible first | exact HB.out | apply below_alloc | apply pw_below_drewN | apply below_drew1) | exact HB.out))) : w.heap.size ≤ gb515)); have n3_ := Aside0.mk ((by rw [hg]; exact (below_size (by repeat (first | (with_reducible first | exact HB.out | apply below_alloc | apply pw_below_drewN | apply below_drew1) | exact HB.out))) : w.heap.size ≤ gb515)); clear HB; have HB := n0_; have BK515 := n1_; have GW515 := n2_; have GE515 := n3_; clear n0_ n1_ n2_ n3_; clear hb hbox hg; have hcz24_0 : w23.cell? ⟨gb515, 0, none⟩ = some (.int .i64 a0_0) := (blk_cell BK515.out 0).trans rfl; have hcz24_1 : w23.cell? ⟨gb515, 1, none⟩ = some (.int .i64 a0_1) := (blk_cell BK515.out 1).trans rfl; have hcz24_2 : w23.cell? ⟨gb515, 2, none⟩ = some (.slice A0_2 l0_2.length c0_2) := (blk_cell BK515.out 2).trans rfl; have hcz24_3 : w23.cell? ⟨gb515, 3, none⟩ = some (.slice A0_3 l0_3.length c0_3) := (blk_cell BK515.out 3).trans rfl; have hcz24_4 : w23.cell? ⟨gb515, 4, none⟩ = some (.slice A0_4 l0_4.length c0_4) := (blk_cell BK515.out 4).trans rfl; have hfz24_0 := blk_frozen BK515.out 0; have hfz24_1 := blk_frozen BK515.out 1; have hfz24_2 := blk_frozen BK515.out 2; have hfz24_3 := blk_frozen BK515.out 3; have hfz24_4 := blk_frozen BK515.out 4) | ((with_reducible refine gate_callee (f := 104) rfl ?_); refine goesL_ (some 8) rfl rfl Try.func104 (by kernel_rfl) rfl #[.slice A0_2 l0_2.length c0_2, .int .i64 a1] rfl (by (try simp only [List.map_toArray, List.map_cons, List.map_nil]); first | done | rfl | (simp only [List.length_drop, List.length_take]; rfl)) ?_; (with_reducible refine (laws_heldItemS.calls k _ _ l0_2 a1 t516 _ ?side1 ?side2 A3.out).mono ?_); (case side1 => repeat (first | exact (Kd.C_below HR0_2.out HB.out) | (with_reducible refine Kd.C_alloc ?_ _) | (with_reducible refine Kd.C_drewN ?_ _) | (with_reducible refine Kd.C_drew ?_))); (case side2 => exact HC0_2.out); rintro e w25 ⟨rfl, hb⟩; refine ⟨_, rfl, ?_⟩; have n0_ := Aside0.mk (blk_below (g := gb515) (o := .cells #[.int .i64 a0_0, .int .i64 a0_1, .slice A0_2 l0_2.length c0_2, .slice A0_3 l0_3.length c0_3, .slice A0_4 l0_4.length c0_4] 50 (0, 0)) (by (with_reducible repeat (first | refine blk_drewN ?_ _ | refine blk_drew ?_ | refine blk_alloc ?_ _)); exact BK515.out) hb); have n1_ := Aside0.mk (below_step (by repeat (first | (with_reducible first | exact HB.out | apply below_alloc | apply pw_below_drewN | apply below_drew1 | refine below_set ?_ GE515.out) | exact HB.out)) hb); clear BK515; clear HB; have BK515 := n0_; have HB := n1_; clear n0_ n1_; (try clear hb); (try clear hb2); (try clear hk); (try clear hi); have hcz26_0 : w25.cell? ⟨gb515, 0, none⟩ = some (.int .i64 a0_0) := (blk_cell BK515.out 0).trans rfl; have hcz26_1 : w25.cell? ⟨gb515, 1, none⟩ = some (.int .i64 a0_1) := (blk_cell BK515.out 1).trans rfl; have hcz26_2 : w25.cell? ⟨gb515, 2, none⟩ = some (.slice A0_2 l0_2.length c0_2) := (blk_cell BK515.out 2).trans rfl; have hcz26_3 : w25.cell? ⟨gb515, 3, none⟩ = some (.slice A0_3 l0_3.length c0_3) := (blk_cell BK515.out 3).trans rfl; have hcz26_4 : w25.cell? ⟨gb515, 4, none⟩ = some (.slice A0_4 l0_4.length c0_4) := (blk_cell BK515.out 4).trans rfl; have hfz26_0 := blk_frozen BK515.out 0; have hfz26_1 := blk_frozen BK515.out 1; have hfz26_2 := blk_frozen BK515.out 2; have hfz26_3 := blk_frozen BK515.out 3; have hfz26_4 := blk_frozen BK515.out 4) | ((with_reducible refine gate_callee (f := 104) rfl ?_); refine goesL_ (some 14) rfl rfl Try.func104 (by kernel_rfl) rfl #[.slice A0_3 l0_3.length c0_3, .int .i64 t516] rfl (by (try simp only [List.map_toArray, List.map_cons, List.map_nil]); first | done | rfl | (simp only [List.length_drop, List.length_take]; rfl)) ?_; (with_reducible refine (laws_heldItemS.calls k _ _ l0_3 t516 t517 _ ?side1 ?side2 A8.out).mono ?_); (case side1 => repeat (first | exact (Kd.C_below HR0_3.out HB.out) | (with_reducible refine Kd.C_alloc ?_ _) | (with_reducible refine Kd.C_drewN ?_ _) | (with_reducible refine Kd.C_drew ?_))); (case side2 => exact HC0_3.out); rintro e w27 ⟨rfl, hb⟩; refine ⟨_, rfl, ?_⟩; have n0_ := Aside0.mk (blk_below (g := gb515) (o := .cells #[.int .i64 a0_0, .int .i64 a0_1, .slice A0_2 l0_2.length c0_2, .slice A0_3 l0_3.length c0_3, .slice A0_4 l0_4.length c0_4] 50 (0, 0)) (by (with_reducible repeat (first | refine blk_drewN ?_ _ | refine blk_drew ?_ | refine blk_alloc ?_ _)); exact BK515.out) hb); have n1_ := Aside0.mk (below_step (by repeat (first | (with_reducible first | exact HB.out | apply below_alloc | apply pw_below_drewN | apply below_drew1 | refine below_set ?_ GE515.out) | exact HB.out)) hb); clear BK515; clear HB; have BK515 := n0_; have HB := n1_; clear n0_ n1_; (try clear hb); (try clear hb2); (try clear hk); (try clear hi); have hcz28_0 : w27.cell? ⟨gb515, 0, none⟩ = some (.int .i64 a0_0) := (blk_cell BK515.out 0).trans rfl; have hcz28_1 : w27.cell? ⟨gb515, 1, none⟩ = some (.int .i64 a0_1) := (blk_cell BK515.out 1).trans rfl; have hcz28_2 : w27.cell? ⟨gb515, 2, none⟩ = some (.slice A0_2 l0_2.length c0_2) := (blk_cell BK515.out 2).trans rfl; have hcz28_3 : w27.cell? ⟨gb515, 3, none⟩ = some (.slice A0_3 l0_3.length c0_3) := (blk_cell BK515.out 3).trans rfl; have hcz28_4 : w27.cell? ⟨gb515, 4, none⟩ = some (.slice A0_4 l0_4.length c0_4) := (blk_cell BK515.out 4).trans rfl; have hfz28_0 := blk_frozen BK515.out 0; have hfz28_1 := blk_frozen BK515.out 1; have hfz28_2 := blk_frozen BK515.out 2; have hfz28_3 := blk_frozen BK515.out 3; have hfz28_4 := blk_frozen BK515.out 4) | ((with_reducible refine gate_callee (f := 105) rfl ?_); refine goesL_ (some 20) rfl rfl Try.func105 (by kernel_rfl) rfl #[.slice A0_4 l0_4.length c0_4, .int .i64 t517] rfl (by (try simp only [List.map_toArray, List.map_cons, List.map_nil]); first | done | rfl | (simp only [List.length_drop, List.length_take]; rfl)) ?_; (with_reducible refine (laws_heldIntS.calls k _ _ l0_4 t517 t518 _ ?side1 ?side2 A15.out).mono ?_); (case side1 => repeat (first | exact (Kd.C_below HR0_4.out HB.out) | (with_reducible refine Kd.C_alloc ?_ _) | (with_reducible refine Kd.C_drewN ?_ _) | (with_reducible refine Kd.C_drew ?_))); (case side2 => exact HC0_4.out); rintro e w' ⟨rfl, ⟨nd, rfl⟩⟩; refine ⟨_, rfl, ?_⟩))
        go_ret
        exact ⟨by first | rfl | (simp [errW_none, errW_some] <;> rfl) | (simp [*, errW_none, errW_some] <;> rfl), by repeat (first | (with_reducible first | exact HB.out | apply below_alloc | apply pw_below_drewN | apply below_drew1 | refine below_set ?_ GE515.out) | exact HB.out)⟩

end Go.Proofs.Ytlmpbngndcagbaa.G

-- written by gen.py (this session's program), which runs the kit's print.py in place
namespace Go.Proofs.Ytlmpbngndcagbaa.G
open Go.RowKit Go.Proofs.YtlmpbngndcagbaaW.PrintWords Go.Proofs.YtlmpbngndcagbaaW.PrintLast Go.Proofs.YtlmpbngndcagbaaW.PrintMore
attribute [local go_sem] max2_int min2_int max_two min_two max_three min_three max_four min_four   -- for this text's walks alone
set_option linter.unusedVariables false
set_option linter.unusedSimpArgs false

/-! ### laws_markItemS: function 102 -/
def laws_markItemS.l0 : Nat → List (S57) → Int → Int → Option (Int × (List (S57)))
  | 0, _, _, _ => none
  | k + 1, x0, x1, x5 => if x5 < (x0.length : Int) then ((laws_markText.f k x1).bind fun t487 => (if 0 ≤ x5 then ((some (x0.set (x5 : Int).toNat (⟨t487, (rd_T57 x0 x5).f1, (rd_T57 x0 x5).f2⟩ : S57) : List (S57))).bind fun y488 => ((laws_markText.f k (wrap64 (x1 + 1))).bind fun t489 => ((some (y488.set (x5 : Int).toNat (⟨(rd_T57 y488 x5).f0, t489, (rd_T57 y488 x5).f2⟩ : S57) : List (S57))).bind fun y490 => (laws_markItemS.l0 k (y490.set (x5 : Int).toNat (⟨(rd_T57 y490 x5).f0, (rd_T57 y490 x5).f1, wrap64 ((wrap64 (x1 + 1)) + 1)⟩ : S57)) (wrap64 ((wrap64 ((wrap64 (x1 + 1)) + 1)) + 1)) (wrap64 (x5 + 1)))))) else (none))) else (some (x1, x0))
def laws_markItemS.f (k : Nat) (l0 : List (S57)) (a1 : Int) : Option (Int × (List (S57))) := laws_markItemS.l0 k l0 a1 0
theorem laws_markItemS.mono_l : ∀ k, (∀ y0 y1 y2, LeO (laws_markItemS.l0 k y0 y1 y2) (laws_markItemS.l0 (k + 1) y0 y1 y2))
  | 0 => fun _ _ _ r h => by simp [laws_markItemS.l0] at h
  | k + 1 => by
    have ih0 := laws_markItemS.mono_l k
    · intro y0 y1 y2
      unfold laws_markItemS.l0
      repeat' first
      | (with_reducible exact ih0 _ _ _)
      | (with_reducible exact laws_markText.mono _ _)
      | (with_reducible exact LeO.refl _)
      | (with_reducible exact LeO.none _)
      | (with_reducible refine LeO.ite ?_ ?_)
      | (with_reducible refine LeO.bind ?_ (fun _ => ?_))
      | exact ih0 _ _ _
      | exact laws_markText.mono _ _
      | exact LeO.none _
      | refine LeO.ite ?_ ?_
      | refine LeO.bind ?_ (fun _ => ?_)
theorem laws_markItemS.mono : ∀ a0 a1 k, LeO (laws_markItemS.f k a0 a1) (laws_markItemS.f (k + 1) a0 a1) := by
  intro a0 a1 k
  have ih0 := laws_markItemS.mono_l k
  unfold laws_markItemS.f
  repeat' first
      | (with_reducible exact ih0 _ _ _)
      | (with_reducible exact laws_markText.mono _ _)
      | (with_reducible exact LeO.refl _)
      | (with_reducible exact LeO.none _)
      | (with_reducible refine LeO.ite ?_ ?_)
      | (with_reducible refine LeO.bind ?_ (fun _ => ?_))
      | exact ih0 _ _ _
      | exact laws_markText.mono _ _
      | exact LeO.none _
      | refine LeO.ite ?_ ?_
      | refine LeO.bind ?_ (fun _ => ?_)
set_option maxHeartbeats 8000000 in
set_option maxRecDepth 100000 in
theorem laws_markItemS.calls (k : Nat) (P0_ : Nat → Prop) (u9000_ : Value) (l0 : List (S57)) (a1 : Int) (r1 : Int) (r2 : List (S57)) (w0 w : World) (hB : Below w0.heap.size w0 w) (ho0 : Kd.R k57 57 w w0.heap.size P0_ u9000_ l0) (h : laws_markItemS.f k l0 a1 = some (r1, r2)) :
    Calls Try.prog 102 #[u9000_, .int .i64 a1] w fun e w' => e = .returned (.int .i64 r1) ∧ Kd.R k57 57 w' w0.heap.size (fun k_ => (P0_ k_ ∨ w.heap.size ≤ k_)) u9000_ r2 ∧ Below w0.heap.size w0 w' ∧ Kept w w' (fun k_ => P0_ k_) := by
  have HO0 := Aside0.mk (show Kd.R k57 57 w w0.heap.size (fun k_ => (P0_ k_ ∨ w.heap.size ≤ k_)) u9000_ l0 from Kd.R_mono ho0 (fun k_ hk => (.inl hk)))
  have HK := Aside0.mk (Kept.refl w (fun k_ => P0_ k_))
  have HW0 := Aside0.mk hB.size
  have HB := Aside0.mk hB
  clear hB
  have H : (laws_markItemS.l0 k l0 a1 0) = some (r1, r2) := h
  clear h
  have H' := Aside0.mk H
  clear H
  go_enter Try.func102, Try.ntmps102
  go_wp2
  go_loopg [1, 5] k (fun kq v1 v5 w' => ∃ (x0_1 : List (S57)) (x1_1 : Int) (x5_1 : Int), v1 = .int .i64 x1_1 ∧ v5 = .int .i64 x5_1 ∧ Aside0 (laws_markItemS.l0 kq x0_1 x1_1 x5_1 = some (r1, r2)) ∧ Aside0 (kq ≤ k) ∧ Aside0 (Kd.R k57 57 w' w0.heap.size (fun k_ => (P0_ k_ ∨ w.heap.size ≤ k_)) u9000_ x0_1) ∧ Aside0 (Kept w w' (fun k_ => P0_ k_)) ∧ Aside0 (Below w0.heap.size w0 w'))
  case atStart => exact ⟨(l0), (a1), (0), (by first | rfl | (simp; done) | (simp [*]; done)), (by first | rfl | (simp; done) | (simp [*]; done)), H', ⟨Nat.le_refl _⟩, ⟨by (with_reducible repeat (first | apply Kd.R_alloc | apply Kd.R_drewN | apply Kd.R_drew)); exact HO0.out⟩, ⟨by repeat (first | (with_reducible first | exact HK.out | apply Kept.alloc | apply Kept.drewN | apply Kept.drew) | exact HK.out)⟩, ⟨by repeat (first | (with_reducible first | exact HB.out | apply below_alloc | apply pw_below_drewN | apply below_drew1) | exact HB.out)⟩⟩
  case round =>
    clear H'
    try clear c1
    try clear p2
    obtain ⟨x0_1, x1_1, x5_1, rfl, rfl, HA, HK1, HO_0, HK, HB⟩ := hrel
    cases gk with
    | zero => exact absurd HA.out (by simp [laws_markItemS.l0])
    | succ k1 =>
      have H := HA.out
      clear HA
      simp only [laws_markItemS.l0] at H
      by_cases c3 : x5_1 < (x0_1.length : Int)
      · rw [if_pos c3] at H
        have c3b0 : decide (x5_1 < (x0_1.length : Int)) = true := decide_eq_true c3
        clear c3
        replace H := Option.bind_eq_some_iff.mp H
        obtain ⟨t487, A40, H⟩ := H
        replace H : (if 0 ≤ x5_1 then ((some (x0_1.set (x5_1 : Int).toNat (⟨t487, (rd_T57 x0_1 x5_1).f1, (rd_T57 x0_1 x5_1).f2⟩ : S57) : List (S57))).bind fun y488 => ((laws_markText.f k1 (wrap64 (x1_1 + 1))).bind fun t489 => ((some (y488.set (x5_1 : Int).toNat (⟨(rd_T57 y488 x5_1).f0, t489, (rd_T57 y488 x5_1).f2⟩ : S57) : List (S57))).bind fun y490 => (laws_markItemS.l0 k1 (y490.set (x5_1 : Int).toNat (⟨(rd_T57 y490 x5_1).f0, (rd_T57 y490 x5_1).f1, wrap64 ((wrap64 (x1_1 + 1)) + 1)⟩ : S57)) (wrap64 ((wrap64 ((wrap64 (x1_1 + 1)) + 1)) + 1)) (wrap64 (x5_1 + 1)))))) else (none)) = some (r1, r2) := H
        have A4 := Aside0.mk A40
        clear A40
        by_cases c5 : 0 ≤ x5_1
        · rw [if_pos c5] at H
          have c5b0 : decide (0 ≤ x5_1) = true := decide_eq_true c5
          clear c5
          obtain ⟨y488, hy488⟩ : ∃ y_ : List (S57), y_ = (x0_1.set (x5_1 : Int).toNat (⟨t487, (rd_T57 x0_1 x5_1).f1, (rd_T57 x0_1 x5_1).f2⟩ : S57)) := ⟨_, rfl⟩
          replace H : ((laws_markText.f k1 (wrap64 (x1_1 + 1))).bind fun t489 => ((some (y488.set (x5_1 : Int).toNat (⟨(rd_T57 y488 x5_1).f0, t489, (rd_T57 y488 x5_1).f2⟩ : S57) : List (S57))).bind fun y490 => (laws_markItemS.l0 k1 (y490.set (x5_1 : Int).toNat (⟨(rd_T57 y490 x5_1).f0, (rd_T57 y490 x5_1).f1, wrap64 ((wrap64 (x1_1 + 1)) + 1)⟩ : S57)) (wrap64 ((wrap64 ((wrap64 (x1_1 + 1)) + 1)) + 1)) (wrap64 (x5_1 + 1))))) = some (r1, r2) := by first | (rw [hy488]; with_reducible exact H) | (have H2_ := (Option.bind_some _ _).symm.trans H; rw [hy488]; with_reducible exact H2_) | (have H2_ := (Option.bind_some _ _).symm.trans H; with_reducible exact H2_) | with_reducible exact H | (rw [hy488]; exact H) | exact H
          have Ny488 := Aside0.mk hy488
          clear hy488
          replace H := Option.bind_eq_some_iff.mp H
          obtain ⟨t489, A70, H⟩ := H
          replace H : ((some (y488.set (x5_1 : Int).toNat (⟨(rd_T57 y488 x5_1).f0, t489, (rd_T57 y488 x5_1).f2⟩ : S57) : List (S57))).bind fun y490 => (laws_markItemS.l0 k1 (y490.set (x5_1 : Int).toNat (⟨(rd_T57 y490 x5_1).f0, (rd_T57 y490 x5_1).f1, wrap64 ((wrap64 (x1_1 + 1)) + 1)⟩ : S57)) (wrap64 ((wrap64 ((wrap64 (x1_1 + 1)) + 1)) + 1)) (wrap64 (x5_1 + 1)))) = some (r1, r2) := H
          have A7 := Aside0.mk A70
          clear A70
          obtain ⟨y490, hy490⟩ : ∃ y_ : List (S57), y_ = (y488.set (x5_1 : Int).toNat (⟨(rd_T57 y488 x5_1).f0, t489, (rd_T57 y488 x5_1).f2⟩ : S57)) := ⟨_, rfl⟩
          replace H : (laws_markItemS.l0 k1 (y490.set (x5_1 : Int).toNat (⟨(rd_T57 y490 x5_1).f0, (rd_T57 y490 x5_1).f1, wrap64 ((wrap64 (x1_1 + 1)) + 1)⟩ : S57)) (wrap64 ((wrap64 ((wrap64 (x1_1 + 1)) + 1)) + 1)) (wrap64 (x5_1 + 1))) = some (r1, r2) := by first | (rw [hy490]; with_reducible exact H) | (have H2_ := (Option.bind_some _ _).symm.trans H; rw [hy490]; with_reducible exact H2_) | (have H2_ := (Option.bind_some _ _).symm.trans H; with_reducible exact H2_) | with_reducible exact H | (rw [hy490]; exact H) | exact H
          have Ny490 := Aside0.mk hy490
          clear hy490
          obtain ⟨y491, hy491⟩ : ∃ y_ : List (S57), y_ = (y490.set (x5_1 : Int).toNat (⟨(rd_T57 y490 x5_1).f0, (rd_T57 y490 x5_1).f1, wrap64 ((wrap64 (x1_1 + 1)) + 1)⟩ : S57)) := ⟨_, rfl⟩
          replace H : (laws_markItemS.l0 k1 y491 (wrap64 ((wrap64 ((wrap64 (x1_1 + 1)) + 1)) + 1)) (wrap64 (x5_1 + 1))) = some (r1, r2) := by first | (rw [hy491]; with_reducible exact H) | (have H2_ := (Option.bind_some _ _).symm.trans H; rw [hy491]; with_reducible exact H2_) | (have H2_ := (Option.bind_some _ _).symm.trans H; with_reducible exact H2_) | with_reducible exact H | (rw [hy491]; exact H) | exact H
          have Ny491 := Aside0.mk hy491
          clear hy491
          have H' := Aside0.mk H
          clear H
          obtain ⟨Ao10, co10, eo10⟩ := Kd.R_slice HO_0.out
          subst eo10
          go_wp2_with (first | ((with_reducible refine gate_callee (f := 92) rfl ?_); refine goesL_ (some 15) rfl rfl Try.func92 (by kernel_rfl) rfl #[.int .i64 x1_1] rfl (by (try simp only [List.map_toArray, List.map_cons, List.map_nil]); first | done | rfl | (simp only [List.length_drop, List.length_take]; rfl)) ?_; (with_reducible refine (laws_markText.calls k1 x1_1 t487 _ A4.out).mono ?_); rintro e w11 ⟨rfl, hb⟩; refine ⟨_, rfl, ?_⟩; have n0_ := Aside0.mk (Kd.R_below (by (with_reducible repeat (first | apply Kd.R_alloc | apply Kd.R_drewN | apply Kd.R_drew)); exact HO_0.out) hb); have n1_ := Aside0.mk (Kept.below (S := (fun k_ => P0_ k_)) (by repeat (first | (with_reducible first | exact HK.out | apply Kept.alloc | apply Kept.drewN | apply Kept.drew) | exact HK.out)) hb); have n2_ := Aside0.mk (below_step (by repeat (first | (with_reducible first | exact HB.out | apply below_alloc | apply pw_below_drewN | apply below_drew1) | exact HB.out)) hb); clear HO_0; clear HK; clear HB; have HO_0 := n0_; have HK := n1_; have HB := n2_; clear n0_ n1_ n2_; (try clear hb); (try clear hb2); (try clear hk); (try clear hi); have p6 : 0 ≤ (x5_1 : Int) := of_decide_eq_true (by first | (with_reducible assumption) | assumption); have q6 : (x5_1 : Int) < ((x0_1.length : Int) : Int) := of_decide_eq_true (by first | (with_reducible assumption) | assumption); obtain ⟨go6, co6, eo6, gb6, gl6, cl6, HG6⟩ := Kd.R_form HO_0.out (by omega); (first | cases eo6 | (injection eo6 with ea_ en_ ec_; (first | subst ea_ | (injection ea_ with ea_; subst ea_)); subst ec_; clear en_)); have GB6 := Aside0.mk gb6; have GG6 := Aside0.mk HG6; clear gb6 gl6 HG6; have HMgo6 := Aside0.mk (show (P0_ go6 ∨ w.heap.size ≤ go6) from (HO_0.out.1 _ rfl)); obtain ⟨ce6, hcl6, hM6, hcc6, hfr6⟩ := Kd.R_elem HO_0.out z57 (x5_1 : Int) p6 q6; obtain rfl := k57_openM hM6; have hx6_0 : w11.cell? ⟨go6, (x5_1 : Int).toNat * 3, none⟩ = some (.string ((rd_T57 x0_1 x5_1).f0)) := hcc6 0 _ rfl; have hx6_1 : w11.cell? ⟨go6, (x5_1 : Int).toNat * 3 + 1, none⟩ = some (.string ((rd_T57 x0_1 x5_1).f1)) := hcc6 1 _ rfl; have hx6_2 : w11.cell? ⟨go6, (x5_1 : Int).toNat * 3 + 2, none⟩ = some (.int .i64 ((rd_T57 x0_1 x5_1).f2)) := hcc6 2 _ rfl; have hf6_0 : w11.frozen? ⟨go6, (x5_1 : Int).toNat * 3, none⟩ = false := hfr6 0; have hf6_1 : w11.frozen? ⟨go6, (x5_1 : Int).toNat * 3 + 1, none⟩ = false := hfr6 1; have hf6_2 : w11.frozen? ⟨go6, (x5_1 : Int).toNat * 3 + 2, none⟩ = false := hfr6 2; clear hcl6 hcc6 hfr6 hM6; replace p6 := eq_true p6; replace q6 := eq_true q6; have HX12 := Aside0.mk (show Kd.R k57 57 w11 w0.heap.size (fun k_ => (P0_ k_ ∨ w.heap.size ≤ k_)) (.slice (some ⟨go6, 0, none⟩) x0_1.length co10) x0_1 from (by (with_reducible repeat (first | apply Kd.R_alloc | apply Kd.R_drewN | apply Kd.R_drew)); exact HO_0.out)); obtain ⟨ce12, hcl12, hM12, hcc12, hfr12⟩ := Kd.R_elem HX12.out z57 (x5_1 : Int) (of_decide_eq_true (by first | (with_reducible assumption) | assumption)) (by have h_ : (x5_1 : Int) < ((x0_1.length : Int) : Int) := of_decide_eq_true (by first | (with_reducible assumption) | assumption); first | exact h_ | (have e_ := (Kd.R_reads' HO_0.out).1; omega) | simpa using h_); obtain rfl := k57_openM hM12; have HP12 := Kd.R_seg HX12.out (x5_1 : Int) (of_decide_eq_true (by first | (with_reducible assumption) | assumption)) (by have h_ : (x5_1 : Int) < ((x0_1.length : Int) : Int) := of_decide_eq_true (by first | (with_reducible assumption) | assumption); first | exact h_ | (have e_ := (Kd.R_reads' HO_0.out).1; omega) | simpa using h_) (seg := [.string t487]) (j := 0) hcl12 hcc12 (show 1 ≤ 3 from by decide) (x' := (⟨t487, (rd_T57 x0_1 x5_1).f1, (rd_T57 x0_1 x5_1).f2⟩ : S57)) (k57_mkM _ _ _ (⟨t487, (rd_T57 x0_1 x5_1).f1, (rd_T57 x0_1 x5_1).f2⟩ : S57) ) (fun _ hk => hk); have hx12_0 := hcc12 0 _ rfl; (try simp only [show (k57).sz = 3 from rfl, Nat.mul_one, Nat.add_zero] at hx12_0); have hf12_0 := hfr12 0; (try simp only [show (k57).sz = 3 from rfl, Nat.mul_one, Nat.add_zero] at hf12_0); clear hcl12 hcc12 hfr12 hM12) | ((with_reducible refine gate_store (t := 9) (p := 17) rfl ?_); refine store_event (t := 9) (p := 17) (v := ?vo_w13) (w1 := (w11.setCell ⟨go6, (x5_1 : Int).toNat * 3, none⟩ (.string t487))) ?hg ?ho ?hn ?hr ?_; (case ho => rfl); (case hg => rfl); (case hn => rfl); (case hr => first | (go_simp; done) | (go_simp; rfl)); intro w13 hw; have hg : w11.grownBy w13 (some go6) := (by rw [hw]; exact HP12.2); have hp_ : Kd.R k57 57 w13 w0.heap.size (fun k_ => (P0_ k_ ∨ w.heap.size ≤ k_)) (.slice (some ⟨go6, 0, none⟩) x0_1.length co10) y488 := (by rw [hw, Ny488.out]; exact HP12.1); clear HP12; have n0_ := Aside0.mk (hp_); have n1_ := Aside0.mk ((by rw [hw]; exact below_set (HB.out) GB6.out : Below w0.heap.size w0 w13)); have n2_ := Aside0.mk (Kept.of_grown (S := (fun k_ => P0_ k_)) hg (by repeat (first | (with_reducible first | exact HK.out | apply Kept.alloc | apply Kept.drewN | apply Kept.drew) | exact HK.out)) (fun k_ e_ => (HO_0.out.1 k_ e_))); clear HO_0; clear HB; clear HK; have HO_0 := n0_; have HB := n1_; have HK := n2_; clear n0_ n1_ n2_; clear hg hw hp_) | ((with_reducible refine gate_callee (f := 92) rfl ?_); refine goesL_ (some 23) rfl rfl Try.func92 (by kernel_rfl) rfl #[.int .i64 (wrap64 (x1_1 + 1))] rfl (by (try simp only [List.map_toArray, List.map_cons, List.map_nil]); first | done | rfl | (simp only [List.length_drop, List.length_take]; rfl)) ?_; (with_reducible refine (laws_markText.calls k1 (wrap64 (x1_1 + 1)) t489 _ A7.out).mono ?_); rintro e w14 ⟨rfl, hb⟩; refine ⟨_, rfl, ?_⟩; have n0_ := Aside0.mk (Kd.R_below (by (with_reducible repeat (first | apply Kd.R_alloc | apply Kd.R_drewN | apply Kd.R_drew)); exact HO_0.out) hb); have n1_ := Aside0.mk (Kept.below (S := (fun k_ => P0_ k_)) (by repeat (first | (with_reducible first | exact HK.out | apply Kept.alloc | apply Kept.drewN | apply Kept.drew) | exact HK.out)) hb); have n2_ := Aside0.mk (below_step (by repeat (first | (with_reducible first | exact HB.out | apply below_alloc | apply pw_below_drewN | apply below_drew1) | exact HB.out)) hb); clear HO_0; clear HK; clear HB; have HO_0 := n0_; have HK := n1_; have HB := n2_; clear n0_ n1_ n2_; (try clear hb); (try clear hb2); (try clear hk); (try clear hi); have p8 : 0 ≤ (x5_1 : Int) := of_decide_eq_true (by first | (with_reducible assumption) | assumption); have q8 : (x5_1 : Int) < ((x0_1.length : Int) : Int) := of_decide_eq_true (by first | (with_reducible assumption) | assumption); obtain ⟨ce8, hcl8, hM8, hcc8, hfr8⟩ := Kd.R_elem HO_0.out z57 (x5_1 : Int) p8 q8; obtain rfl := k57_openM hM8; have hx8_0 : w14.cell? ⟨go6, (x5_1 : Int).toNat * 3, none⟩ = some (.string ((rd_T57 y488 x5_1).f0)) := hcc8 0 _ rfl; have hx8_1 : w14.cell? ⟨go6, (x5_1 : Int).toNat * 3 + 1, none⟩ = some (.string ((rd_T57 y488 x5_1).f1)) := hcc8 1 _ rfl; have hx8_2 : w14.cell? ⟨go6, (x5_1 : Int).toNat * 3 + 2, none⟩ = some (.int .i64 ((rd_T57 y488 x5_1).f2)) := hcc8 2 _ rfl; have hf8_0 : w14.frozen? ⟨go6, (x5_1 : Int).toNat * 3, none⟩ = false := hfr8 0; have hf8_1 : w14.frozen? ⟨go6, (x5_1 : Int).toNat * 3 + 1, none⟩ = false := hfr8 1; have hf8_2 : w14.frozen? ⟨go6, (x5_1 : Int).toNat * 3 + 2, none⟩ = false := hfr8 2; clear hcl8 hcc8 hfr8 hM8; replace p8 := eq_true p8; replace q8 := eq_true q8; have HX15 := Aside0.mk (show Kd.R k57 57 w14 w0.heap.size (fun k_ => (P0_ k_ ∨ w.heap.size ≤ k_)) (.slice (some ⟨go6, 0, none⟩) x0_1.length co10) y488 from (by (with_reducible repeat (first | apply Kd.R_alloc | apply Kd.R_drewN | apply Kd.R_drew)); exact HO_0.out)); obtain ⟨ce15, hcl15, hM15, hcc15, hfr15⟩ := Kd.R_elem HX15.out z57 (x5_1 : Int) (of_decide_eq_true (by first | (with_reducible assumption) | assumption)) (by have h_ : (x5_1 : Int) < ((x0_1.length : Int) : Int) := of_decide_eq_true (by first | (with_reducible assumption) | assumption); first | exact h_ | (have e_ := (Kd.R_reads' HO_0.out).1; omega) | simpa using h_); obtain rfl := k57_openM hM15; have HP15 := Kd.R_seg HX15.out (x5_1 : Int) (of_decide_eq_true (by first | (with_reducible assumption) | assumption)) (by have h_ : (x5_1 : Int) < ((x0_1.length : Int) : Int) := of_decide_eq_true (by first | (with_reducible assumption) | assumption); first | exact h_ | (have e_ := (Kd.R_reads' HO_0.out).1; omega) | simpa using h_) (seg := [.string t489]) (j := 1) hcl15 hcc15 (show 2 ≤ 3 from by decide) (x' := (⟨(rd_T57 y488 x5_1).f0, t489, (rd_T57 y488 x5_1).f2⟩ : S57)) (k57_mkM _ _ _ (⟨(rd_T57 y488 x5_1).f0, t489, (rd_T57 y488 x5_1).f2⟩ : S57) ) (fun _ hk => hk); have hx15_1 := hcc15 1 _ rfl; (try simp only [show (k57).sz = 3 from rfl, Nat.mul_one, Nat.add_zero] at hx15_1); have hf15_1 := hfr15 1; (try simp only [show (k57).sz = 3 from rfl, Nat.mul_one, Nat.add_zero] at hf15_1); clear hcl15 hcc15 hfr15 hM15) | ((with_reducible refine gate_store (t := 9) (p := 25) rfl ?_); refine store_event (t := 9) (p := 25) (v := ?vo_w16) (w1 := (w14.setCell ⟨go6, (x5_1 : Int).toNat * 3 + 1, none⟩ (.string t489))) ?hg ?ho ?hn ?hr ?_; (case ho => rfl); (case hg => rfl); (case hn => rfl); (case hr => first | (go_simp; done) | (go_simp; rfl)); intro w16 hw; have hg : w14.grownBy w16 (some go6) := (by rw [hw]; exact HP15.2); have hp_ : Kd.R k57 57 w16 w0.heap.size (fun k_ => (P0_ k_ ∨ w.heap.size ≤ k_)) (.slice (some ⟨go6, 0, none⟩) x0_1.length co10) y490 := (by rw [hw, Ny490.out]; exact HP15.1); clear HP15; have n0_ := Aside0.mk (hp_); have n1_ := Aside0.mk ((by rw [hw]; exact below_set (HB.out) GB6.out : Below w0.heap.size w0 w16)); have n2_ := Aside0.mk (Kept.of_grown (S := (fun k_ => P0_ k_)) hg (by repeat (first | (with_reducible first | exact HK.out | apply Kept.alloc | apply Kept.drewN | apply Kept.drew) | exact HK.out)) (fun k_ e_ => (HO_0.out.1 k_ e_))); clear HO_0; clear HB; clear HK; have HO_0 := n0_; have HB := n1_; have HK := n2_; clear n0_ n1_ n2_; clear hg hw hp_; have p9 : 0 ≤ (x5_1 : Int) := of_decide_eq_true (by first | (with_reducible assumption) | assumption); have q9 : (x5_1 : Int) < ((x0_1.length : Int) : Int) := of_decide_eq_true (by first | (with_reducible assumption) | assumption); obtain ⟨ce9, hcl9, hM9, hcc9, hfr9⟩ := Kd.R_elem HO_0.out z57 (x5_1 : Int) p9 q9; obtain rfl := k57_openM hM9; have hx9_0 : w16.cell? ⟨go6, (x5_1 : Int).toNat * 3, none⟩ = some (.string ((rd_T57 y490 x5_1).f0)) := hcc9 0 _ rfl; have hx9_1 : w16.cell? ⟨go6, (x5_1 : Int).toNat * 3 + 1, none⟩ = some (.string ((rd_T57 y490 x5_1).f1)) := hcc9 1 _ rfl; have hx9_2 : w16.cell? ⟨go6, (x5_1 : Int).toNat * 3 + 2, none⟩ = some (.int .i64 ((rd_T57 y490 x5_1).f2)) := hcc9 2 _ rfl; have hf9_0 : w16.frozen? ⟨go6, (x5_1 : Int).toNat * 3, none⟩ = false := hfr9 0; have hf9_1 : w16.frozen? ⟨go6, (x5_1 : Int).toNat * 3 + 1, none⟩ = false := hfr9 1; have hf9_2 : w16.frozen? ⟨go6, (x5_1 : Int).toNat * 3 + 2, none⟩ = false := hfr9 2; clear hcl9 hcc9 hfr9 hM9; replace p9 := eq_true p9; replace q9 := eq_true q9; have HX17 := Aside0.mk (show Kd.R k57 57 w16 w0.heap.size (fun k_ => (P0_ k_ ∨ w.heap.size ≤ k_)) (.slice (some ⟨go6, 0, none⟩) x0_1.length co10) y490 from (by (with_reducible repeat (first | apply Kd.R_alloc | apply Kd.R_drewN | apply Kd.R_drew)); exact HO_0.out)); obtain ⟨ce17, hcl17, hM17, hcc17, hfr17⟩ := Kd.R_elem HX17.out z57 (x5_1 : Int) (of_decide_eq_true (by first | (with_reducible assumption) | assumption)) (by have h_ : (x5_1 : Int) < ((x0_1.length : Int) : Int) := of_decide_eq_true (by first | (with_reducible assumption) | assumption); first | exact h_ | (have e_ := (Kd.R_reads' HO_0.out).1; omega) | simpa using h_); obtain rfl := k57_openM hM17; have HP17 := Kd.R_seg HX17.out (x5_1 : Int) (of_decide_eq_true (by first | (with_reducible assumption) | assumption)) (by have h_ : (x5_1 : Int) < ((x0_1.length : Int) : Int) := of_decide_eq_true (by first | (with_reducible assumption) | assumption); first | exact h_ | (have e_ := (Kd.R_reads' HO_0.out).1; omega) | simpa using h_) (seg := [.int .i64 (wrap64 ((wrap64 (x1_1 + 1)) + 1))]) (j := 2) hcl17 hcc17 (show 3 ≤ 3 from by decide) (x' := (⟨(rd_T57 y490 x5_1).f0, (rd_T57 y490 x5_1).f1, wrap64 ((wrap64 (x1_1 + 1)) + 1)⟩ : S57)) (k57_mkM _ _ _ (⟨(rd_T57 y490 x5_1).f0, (rd_T57 y490 x5_1).f1, wrap64 ((wrap64 (x1_1 + 1)) + 1)⟩ : S57) ) (fun _ hk => hk); have hx17_2 := hcc17 2 _ rfl; (try simp only [show (k57).sz = 3 from rfl, Nat.mul_one, Nat.add_zero] at hx17_2); have hf17_2 := hfr17 2; (try simp only [show (k57).sz = 3 from rfl, Nat.mul_one, Nat.add_zero] at hf17_2); clear hcl17 hcc17 hfr17 hM17) | ((with_reducible refine gate_store (t := 3) (p := 32) rfl ?_); refine store_event (t := 3) (p := 32) (v := ?vo_w18) (w1 := (w16.setCell ⟨go6, (x5_1 : Int).toNat * 3 + 2, none⟩ (.int .i64 (wrap64 ((wrap64 (x1_1 + 1)) + 1))))) ?hg ?ho ?hn ?hr ?_; (case ho => rfl); (case hg => rfl); (case hn => rfl); (case hr => first | (go_simp; done) | (go_simp; rfl)); intro w18 hw; have hg : w16.grownBy w18 (some go6) := (by rw [hw]; exact HP17.2); have hp_ : Kd.R k57 57 w18 w0.heap.size (fun k_ => (P0_ k_ ∨ w.heap.size ≤ k_)) (.slice (some ⟨go6, 0, none⟩) x0_1.length co10) y491 := (by rw [hw, Ny491.out]; exact HP17.1); clear HP17; have n0_ := Aside0.mk (hp_); have n1_ := Aside0.mk ((by rw [hw]; exact below_set (HB.out) GB6.out : Below w0.heap.size w0 w18)); have n2_ := Aside0.mk (Kept.of_grown (S := (fun k_ => P0_ k_)) hg (by repeat (first | (with_reducible first | exact HK.out | apply Kept.alloc | apply Kept.drewN | apply Kept.drew) | exact HK.out)) (fun k_ e_ => (HO_0.out.1 k_ e_))); clear HO_0; clear HB; clear HK; have HO_0 := n0_; have HB := n1_; have HK := n2_; clear n0_ n1_ n2_; clear hg hw hp_))
          go_roundg k1
          case measure => have := HK1.out; omega
          case rel => exact ⟨(y491), (wrap64 ((wrap64 ((wrap64 (x1_1 + 1)) + 1)) + 1)), (wrap64 (x5_1 + 1)), (by first | rfl | (simp; done) | (simp [*]; done)), (by first | rfl | (simp; done) | (simp [*]; done)), H', ⟨by have := HK1.out; omega⟩, ⟨by (with_reducible repeat (first | apply Kd.R_alloc | apply Kd.R_drewN | apply Kd.R_drew)); exact HO_0.out⟩, ⟨by repeat (first | (with_reducible first | exact HK.out | apply Kept.alloc | apply Kept.drewN | apply Kept.drew) | exact HK.out)⟩, ⟨by repeat (first | (with_reducible first | exact HB.out | apply below_alloc | apply pw_below_drewN | apply below_drew1) | exact HB.out)⟩⟩
        · rw [if_neg c5] at H
          exact absurd H (by simp)
      · rw [if_neg c3] at H
        have c3b0 : decide (x5_1 < (x0_1.length : Int)) = false := decide_eq_false c3
        clear c3
        simp only [Option.some.injEq, Prod.mk.injEq] at H
        obtain ⟨rfl, rfl⟩ := H
        obtain ⟨Ao19, co19, eo19⟩ := Kd.R_slice HO_0.out
        subst eo19
        go_wp2
        go_ret
        exact ⟨by first | rfl | (simp [errW_none, errW_some] <;> rfl) | (simp [*, errW_none, errW_some] <;> rfl), by (with_reducible repeat (first | apply Kd.R_alloc | apply Kd.R_drewN | apply Kd.R_drew)); exact HO_0.out, by repeat (first | (with_reducible first | exact HB.out | apply below_alloc | apply pw_below_drewN | apply below_drew1) | exact HB.out), by repeat (first | (with_reducible first | exact HK.out | apply Kept.alloc | apply Kept.drewN | apply Kept.drew) | exact HK.out)⟩

end Go.Proofs.Ytlmpbngndcagbaa.G

-- written by gen.py (this session's program), which runs the kit's print.py in place
namespace Go.Proofs.Ytlmpbngndcagbaa.G
open Go.RowKit Go.Proofs.YtlmpbngndcagbaaW.PrintWords Go.Proofs.YtlmpbngndcagbaaW.PrintLast Go.Proofs.YtlmpbngndcagbaaW.PrintMore
attribute [local go_sem] max2_int min2_int max_two min_two max_three min_three max_four min_four   -- for this text's walks alone
set_option linter.unusedVariables false
set_option linter.unusedSimpArgs false

/-! ### laws_markIntS: function 103 -/
def laws_markIntS.l0 : Nat → List Int → Int → Int → Option (Int × List Int)
  | 0, _, _, _ => none
  | k + 1, x0, x1, x5 => if x5 < (x0.length : Int) then (if 0 ≤ x5 then (laws_markIntS.l0 k (x0.set (x5 : Int).toNat x1) (wrap64 (x1 + 1)) (wrap64 (x5 + 1))) else (none)) else (some (x1, x0))
def laws_markIntS.f (k : Nat) (l0 : List Int) (a1 : Int) : Option (Int × List Int) := laws_markIntS.l0 k l0 a1 0
theorem laws_markIntS.mono_l : ∀ k, (∀ y0 y1 y2, LeO (laws_markIntS.l0 k y0 y1 y2) (laws_markIntS.l0 (k + 1) y0 y1 y2))
  | 0 => fun _ _ _ r h => by simp [laws_markIntS.l0] at h
  | k + 1 => by
    have ih0 := laws_markIntS.mono_l k
    · intro y0 y1 y2
      unfold laws_markIntS.l0
      repeat' first
      | (with_reducible exact ih0 _ _ _)
      | (with_reducible exact LeO.refl _)
      | (with_reducible exact LeO.none _)
      | (with_reducible refine LeO.ite ?_ ?_)
      | (with_reducible refine LeO.bind ?_ (fun _ => ?_))
      | exact ih0 _ _ _
      | exact LeO.none _
      | refine LeO.ite ?_ ?_
      | refine LeO.bind ?_ (fun _ => ?_)
theorem laws_markIntS.mono : ∀ a0 a1 k, LeO (laws_markIntS.f k a0 a1) (laws_markIntS.f (k + 1) a0 a1) := by
  intro a0 a1 k
  have ih0 := laws_markIntS.mono_l k
  unfold laws_markIntS.f
  repeat' first
      | (with_reducible exact ih0 _ _ _)
      | (with_reducible exact LeO.refl _)
      | (with_reducible exact LeO.none _)
      | (with_reducible refine LeO.ite ?_ ?_)
      | (with_reducible refine LeO.bind ?_ (fun _ => ?_))
      | exact ih0 _ _ _
      | exact LeO.none _
      | refine LeO.ite ?_ ?_
      | refine LeO.bind ?_ (fun _ => ?_)
set_option maxHeartbeats 8000000 in
set_option maxRecDepth 100000 in
theorem laws_markIntS.calls (k : Nat) (P0_ : Nat → Prop) (u9000_ : Value) (l0 : List Int) (a1 : Int) (r1 : Int) (r2 : List Int) (w0 w : World) (hB : Below w0.heap.size w0 w) (ho0 : Kd.R (Kd.int .i64) 3 w w0.heap.size P0_ u9000_ l0) (h : laws_markIntS.f k l0 a1 = some (r1, r2)) :
    Calls Try.prog 103 #[u9000_, .int .i64 a1] w fun e w' => e = .returned (.int .i64 r1) ∧ Kd.R (Kd.int .i64) 3 w' w0.heap.size (fun k_ => (P0_ k_ ∨ w.heap.size ≤ k_)) u9000_ r2 ∧ Below w0.heap.size w0 w' ∧ Kept w w' (fun k_ => P0_ k_) := by
  have HO0 := Aside0.mk (show Kd.R (Kd.int .i64) 3 w w0.heap.size (fun k_ => (P0_ k_ ∨ w.heap.size ≤ k_)) u9000_ l0 from Kd.R_mono ho0 (fun k_ hk => (.inl hk)))
  have HK := Aside0.mk (Kept.refl w (fun k_ => P0_ k_))
  have HW0 := Aside0.mk hB.size
  have HB := Aside0.mk hB
  clear hB
  have H : (laws_markIntS.l0 k l0 a1 0) = some (r1, r2) := h
  clear h
  have H' := Aside0.mk H
  clear H
  go_enter Try.func103, Try.ntmps103
  go_wp2
  go_loopg [1, 5] k (fun kq v1 v5 w' => ∃ (x0_1 : List Int) (x1_1 : Int) (x5_1 : Int), v1 = .int .i64 x1_1 ∧ v5 = .int .i64 x5_1 ∧ Aside0 (laws_markIntS.l0 kq x0_1 x1_1 x5_1 = some (r1, r2)) ∧ Aside0 (kq ≤ k) ∧ Aside0 (Kd.R (Kd.int .i64) 3 w' w0.heap.size (fun k_ => (P0_ k_ ∨ w.heap.size ≤ k_)) u9000_ x0_1) ∧ Aside0 (Kept w w' (fun k_ => P0_ k_)) ∧ Aside0 (Below w0.heap.size w0 w'))
  case atStart => exact ⟨(l0), (a1), (0), (by first | rfl | (simp; done) | (simp [*]; done)), (by first | rfl | (simp; done) | (simp [*]; done)), H', ⟨Nat.le_refl _⟩, ⟨by (with_reducible repeat (first | apply Kd.R_alloc | apply Kd.R_drewN | apply Kd.R_drew)); exact HO0.out⟩, ⟨by repeat (first | (with_reducible first | exact HK.out | apply Kept.alloc | apply Kept.drewN | apply Kept.drew) | exact HK.out)⟩, ⟨by repeat (first | (with_reducible first | exact HB.out | apply below_alloc | apply pw_below_drewN | apply below_drew1) | exact HB.out)⟩⟩
  case round =>
    clear H'
    try clear c1
    try clear p2
    obtain ⟨x0_1, x1_1, x5_1, rfl, rfl, HA, HK1, HO_0, HK, HB⟩ := hrel
    cases gk with
    | zero => exact absurd HA.out (by simp [laws_markIntS.l0])
    | succ k1 =>
      have H := HA.out
      clear HA
      simp only [laws_markIntS.l0] at H
      by_cases c3 : x5_1 < (x0_1.length : Int)
      · rw [if_pos c3] at H
        have c3b0 : decide (x5_1 < (x0_1.length : Int)) = true := decide_eq_true c3
        clear c3
        by_cases c4 : 0 ≤ x5_1
        · rw [if_pos c4] at H
          have c4b0 : decide (0 ≤ x5_1) = true := decide_eq_true c4
          clear c4
          obtain ⟨y492, hy492⟩ : ∃ y_ : List Int, y_ = (x0_1.set (x5_1 : Int).toNat x1_1) := ⟨_, rfl⟩
          replace H : (laws_markIntS.l0 k1 y492 (wrap64 (x1_1 + 1)) (wrap64 (x5_1 + 1))) = some (r1, r2) := by first | (rw [hy492]; with_reducible exact H) | (have H2_ := (Option.bind_some _ _).symm.trans H; rw [hy492]; with_reducible exact H2_) | (have H2_ := (Option.bind_some _ _).symm.trans H; with_reducible exact H2_) | with_reducible exact H | (rw [hy492]; exact H) | exact H
          have Ny492 := Aside0.mk hy492
          clear hy492
          have H' := Aside0.mk H
          clear H
          obtain ⟨Ao6, co6, eo6⟩ := Kd.R_slice HO_0.out
          subst eo6
          have p5 : 0 ≤ (x5_1 : Int) := of_decide_eq_true (by first | (with_reducible assumption) | assumption)
          have q5 : (x5_1 : Int) < ((x0_1.length : Int) : Int) := of_decide_eq_true (by first | (with_reducible assumption) | assumption)
          obtain ⟨go5, co5, eo5, gb5, gl5, cl5, HG5⟩ := Kd.R_form HO_0.out (by omega)
          (first | cases eo5 | (injection eo5 with ea_ en_ ec_; (first | subst ea_ | (injection ea_ with ea_; subst ea_)); subst ec_; clear en_))
          have GB5 := Aside0.mk gb5
          have GG5 := Aside0.mk HG5
          clear gb5 gl5 HG5
          have HMgo5 := Aside0.mk (show (P0_ go5 ∨ w.heap.size ≤ go5) from (HO_0.out.1 _ rfl))
          obtain ⟨hx5_0, hf5_0⟩ := Kd.R_celln 0 HO_0.out (x5_1 : Int) p5 q5
          replace p5 := eq_true p5
          replace q5 := eq_true q5
          have HP7 := Kd.R_putg HO_0.out (x5_1 : Int) x1_1
          go_wp2_with (first | ((with_reducible refine gate_store (t := 3) (p := 15) rfl ?_); refine store_event (t := 3) (p := 15) (v := ?vo_w8) (w1 := (wr.setCell ⟨go5, (x5_1 : Int).toNat, none⟩ (.int .i64 x1_1))) ?hg ?ho ?hn ?hr ?_; (case ho => rfl); (case hg => rfl); (case hn => rfl); (case hr => first | (go_simp; done) | (go_simp; rfl)); intro w8 hw; have hg : wr.grownBy w8 (some go5) := (by rw [hw]; exact HP7.2); have hp_ : Kd.R (Kd.int .i64) 3 w8 w0.heap.size (fun k_ => (P0_ k_ ∨ w.heap.size ≤ k_)) (.slice (some ⟨go5, 0, none⟩) x0_1.length co6) y492 := (by rw [hw, Ny492.out]; exact HP7.1); clear HP7; have n0_ := Aside0.mk (hp_); have n1_ := Aside0.mk ((by rw [hw]; exact below_set (HB.out) GB5.out : Below w0.heap.size w0 w8)); have n2_ := Aside0.mk (Kept.of_grown (S := (fun k_ => P0_ k_)) hg (by repeat (first | (with_reducible first | exact HK.out | apply Kept.alloc | apply Kept.drewN | apply Kept.drew) | exact HK.out)) (fun k_ e_ => (HO_0.out.1 k_ e_))); clear HO_0; clear HB; clear HK; have HO_0 := n0_; have HB := n1_; have HK := n2_; clear n0_ n1_ n2_; clear hg hw hp_))
          go_roundg k1
          case measure => have := HK1.out; omega
          case rel => exact ⟨(y492), (wrap64 (x1_1 + 1)), (wrap64 (x5_1 + 1)), (by first | rfl | (simp; done) | (simp [*]; done)), (by first | rfl | (simp; done) | (simp [*]; done)), H', ⟨by have := HK1.out; omega⟩, ⟨by (with_reducible repeat (first | apply Kd.R_alloc | apply Kd.R_drewN | apply Kd.R_drew)); exact HO_0.out⟩, ⟨by repeat (first | (with_reducible first | exact HK.out | apply Kept.alloc | apply Kept.drewN | apply Kept.drew) | exact HK.out)⟩, ⟨by repeat (first | (with_reducible first | exact HB.out | apply below_alloc | apply pw_below_drewN | apply below_drew1) | exact HB.out)⟩⟩
        · rw [if_neg c4] at H
          exact absurd H (by simp)
      · rw [if_neg c3] at H
        have c3b0 : decide (x5_1 < (x0_1.length : Int)) = false := decide_eq_false c3
        clear c3
        simp only [Option.some.injEq, Prod.mk.injEq] at H
        obtain ⟨rfl, rfl⟩ := H
        obtain ⟨Ao9, co9, eo9⟩ := Kd.R_slice HO_0.out
        subst eo9
        go_wp2
        go_ret
        exact ⟨by first | rfl | (simp [errW_none, errW_some] <;> rfl) | (simp [*, errW_none, errW_some] <;> rfl), by (with_reducible repeat (first | apply Kd.R_alloc | apply Kd.R_drewN | apply Kd.R_drew)); exact HO_0.out, by repeat (first | (with_reducible first | exact HB.out | apply below_alloc | apply pw_below_drewN | apply below_drew1) | exact HB.out), by repeat (first | (with_reducible first | exact HK.out | apply Kept.alloc | apply Kept.drewN | apply Kept.drew) | exact HK.out)⟩

end Go.Proofs.Ytlmpbngndcagbaa.G

-- written by gen.py (this session's program), which runs the kit's print.py in place
namespace Go.Proofs.Ytlmpbngndcagbaa.G
open Go.RowKit Go.Proofs.YtlmpbngndcagbaaW.PrintWords Go.Proofs.YtlmpbngndcagbaaW.PrintLast Go.Proofs.YtlmpbngndcagbaaW.PrintMore
attribute [local go_sem] max2_int min2_int max_two min_two max_three min_three max_four min_four   -- for this text's walks alone
set_option linter.unusedVariables false
set_option linter.unusedSimpArgs false

/-! ### laws_markThree: function 76 -/
def laws_markThree.f (k : Nat) (a0_0 : Int) (a0_1 : Int) (l0_2 : List (S57)) (l0_3 : List (S57)) (l0_4 : List Int) (a1 : Int) : Option (Int × (List (S57)) × (List (S57)) × List Int) := (laws_markItemS.f k l0_2 a1).bind fun bt494 => ((laws_markItemS.f k l0_3 bt494.1).bind fun bt496 => ((laws_markIntS.f k l0_4 bt496.1).bind fun bt498 => (some (bt498.1, bt494.2, bt496.2, bt498.2))))
theorem laws_markThree.mono : ∀ a0 a1 a2 a3 a4 a5 k, LeO (laws_markThree.f k a0 a1 a2 a3 a4 a5) (laws_markThree.f (k + 1) a0 a1 a2 a3 a4 a5) := by
  intro a0 a1 a2 a3 a4 a5 k
  unfold laws_markThree.f
  repeat' first
      | (with_reducible exact laws_markIntS.mono _ _ _)
      | (with_reducible exact laws_markItemS.mono _ _ _)
      | (with_reducible exact LeO.refl _)
      | (with_reducible exact LeO.none _)
      | (with_reducible refine LeO.ite ?_ ?_)
      | (with_reducible refine LeO.bind ?_ (fun _ => ?_))
      | exact laws_markIntS.mono _ _ _
      | exact laws_markItemS.mono _ _ _
      | exact LeO.none _
      | refine LeO.ite ?_ ?_
      | refine LeO.bind ?_ (fun _ => ?_)
set_option maxHeartbeats 8000000 in
set_option maxRecDepth 100000 in
theorem laws_markThree.calls (k : Nat) (a0_0 : Int) (a0_1 : Int) (P0_2_ : Nat → Prop) (u9000_ : Value) (l0_2 : List (S57)) (P0_3_ : Nat → Prop) (u9001_ : Value) (l0_3 : List (S57)) (P0_4_ : Nat → Prop) (u9002_ : Value) (l0_4 : List Int) (a1 : Int) (r1 : Int) (r2 : List (S57)) (r3 : List (S57)) (r4 : List Int) (w0 w : World) (hB : Below w0.heap.size w0 w) (ho0_2 : Kd.R k57 57 w w0.heap.size P0_2_ u9000_ l0_2) (hp0_2_0_3 : ∀ k_, P0_2_ k_ → ¬ P0_3_ k_) (ho0_3 : Kd.R k57 57 w w0.heap.size P0_3_ u9001_ l0_3) (hp0_3_0_2 : ∀ k_, P0_3_ k_ → ¬ P0_2_ k_) (ho0_4 : Kd.R (Kd.int .i64) 3 w w0.heap.size P0_4_ u9002_ l0_4) (h : laws_markThree.f k a0_0 a0_1 l0_2 l0_3 l0_4 a1 = some (r1, r2, r3, r4)) :
    Calls Try.prog 76 #[.agg #[.int .i64 a0_0, .int .i64 a0_1, u9000_, u9001_, u9002_], .int .i64 a1] w fun e w' => e = .returned (.int .i64 r1) ∧ Kd.R k57 57 w' w0.heap.size (fun k_ => ((P0_2_ k_ ∨ P0_3_ k_ ∨ P0_4_ k_) ∨ w.heap.size ≤ k_)) u9000_ r2 ∧ Kd.R k57 57 w' w0.heap.size (fun k_ => ((P0_2_ k_ ∨ P0_3_ k_ ∨ P0_4_ k_) ∨ w.heap.size ≤ k_)) u9001_ r3 ∧ Kd.R (Kd.int .i64) 3 w' w0.heap.size (fun k_ => ((P0_2_ k_ ∨ P0_3_ k_ ∨ P0_4_ k_) ∨ w.heap.size ≤ k_)) u9002_ r4 ∧ Below w0.heap.size w0 w' ∧ Kept w w' (fun k_ => P0_2_ k_ ∨ P0_3_ k_ ∨ P0_4_ k_) := by
  have hu50 := Try.underlying50
  have HO0_2 := Aside0.mk (show Kd.R k57 57 w w0.heap.size (fun k_ => ((P0_2_ k_ ∨ P0_3_ k_ ∨ P0_4_ k_) ∨ w.heap.size ≤ k_) ∧ some k_ ≠ (u9001_ : Value).ownBlock) u9000_ l0_2 from Kd.R_mono ho0_2 (fun k_ hk => ⟨(.inl (.inl hk)), fun e_ => hp0_2_0_3 k_ hk (ho0_3.1 k_ e_.symm)⟩))
  have HO0_3 := Aside0.mk (show Kd.R k57 57 w w0.heap.size (fun k_ => ((P0_2_ k_ ∨ P0_3_ k_ ∨ P0_4_ k_) ∨ w.heap.size ≤ k_) ∧ some k_ ≠ (u9000_ : Value).ownBlock) u9001_ l0_3 from Kd.R_mono ho0_3 (fun k_ hk => ⟨(.inl (.inr (.inl hk))), fun e_ => hp0_3_0_2 k_ hk (ho0_2.1 k_ e_.symm)⟩))
  have HO0_4 := Aside0.mk (show Kd.R (Kd.int .i64) 3 w w0.heap.size (fun k_ => ((P0_2_ k_ ∨ P0_3_ k_ ∨ P0_4_ k_) ∨ w.heap.size ≤ k_)) u9002_ l0_4 from Kd.R_mono ho0_4 (fun k_ hk => (.inl (.inr (.inr hk)))))
  have HK := Aside0.mk (Kept.refl w (fun k_ => P0_2_ k_ ∨ P0_3_ k_ ∨ P0_4_ k_))
  have HW0 := Aside0.mk hB.size
  have HB := Aside0.mk hB
  clear hB
  have H : ((laws_markItemS.f k l0_2 a1).bind fun bt494 => ((laws_markItemS.f k l0_3 bt494.1).bind fun bt496 => ((laws_markIntS.f k l0_4 bt496.1).bind fun bt498 => (some (bt498.1, bt494.2, bt496.2, bt498.2))))) = some (r1, r2, r3, r4) := h
  clear h
  replace H := Option.bind_eq_some_iff.mp H
  obtain ⟨⟨t494, t495⟩, A30, H⟩ := H
  replace H : ((laws_markItemS.f k l0_3 t494).bind fun bt496 => ((laws_markIntS.f k l0_4 bt496.1).bind fun bt498 => (some (bt498.1, t495, bt496.2, bt498.2)))) = some (r1, r2, r3, r4) := H
  have A3 := Aside0.mk A30
  clear A30
  replace H := Option.bind_eq_some_iff.mp H
  obtain ⟨⟨t496, t497⟩, A40, H⟩ := H
  replace H : ((laws_markIntS.f k l0_4 t496).bind fun bt498 => (some (bt498.1, t495, t497, bt498.2))) = some (r1, r2, r3, r4) := H
  have A4 := Aside0.mk A40
  clear A40
  replace H := Option.bind_eq_some_iff.mp H
  obtain ⟨⟨t498, t499⟩, A50, H⟩ := H
  replace H : (some (t498, t495, t497, t499)) = some (r1, r2, r3, r4) := H
  have A5 := Aside0.mk A50
  clear A50
  simp only [Option.some.injEq, Prod.mk.injEq] at H
  obtain ⟨rfl, rfl, rfl, rfl⟩ := H
  obtain ⟨Ao6, co6, eo6⟩ := Kd.R_slice HO0_2.out
  subst eo6
  obtain ⟨Ao7, co7, eo7⟩ := Kd.R_slice HO0_3.out
  subst eo7
  obtain ⟨Ao8, co8, eo8⟩ := Kd.R_slice HO0_4.out
  subst eo8
  go_enter Try.func76, Try.ntmps76
  go_wp2_with (first | ((with_reducible refine gate_dst (N := 2) rfl ?_); refine box_event ?hg (N := 2) ?hd (cs := #[.int .i64 a0_0, .int .i64 a0_1, .slice Ao6 l0_2.length co6, .slice Ao7 l0_3.length co7, .slice Ao8 l0_4.length co8]) (t := 50) ?hr ?_; (case hd => rfl); (case hg => rfl); (case hr => first | (go_simp; done) | (go_simp; rfl)); intro gb493 hg w9 hbox hb; have n0_ := Aside0.mk (Kd.R_below (by (with_reducible repeat (first | apply Kd.R_alloc | apply Kd.R_drewN | apply Kd.R_drew)); exact HO0_2.out) hb); have n1_ := Aside0.mk (Kd.R_below (by (with_reducible repeat (first | apply Kd.R_alloc | apply Kd.R_drewN | apply Kd.R_drew)); exact HO0_3.out) hb); have n2_ := Aside0.mk (Kd.R_below (by (with_reducible repeat (first | apply Kd.R_alloc | apply Kd.R_drewN | apply Kd.R_drew)); exact HO0_4.out) hb); have n3_ := Aside0.mk (Kept.below (S := (fun k_ => P0_2_ k_ ∨ P0_3_ k_ ∨ P0_4_ k_)) (by repeat (first | (with_reducible first | exact HK.out | apply Kept.alloc | apply Kept.drewN | apply Kept.drew) | exact HK.out)) hb); have n4_ := Aside0.mk (below_step (by repeat (first | (with_reducible first | exact HB.out | apply below_alloc | apply pw_below_drewN | apply below_drew1) | exact HB.out)) hb); have n5_ := Aside0.mk (hbox); have n6_ := Aside0.mk ((by rw [hg]; exact (by first | exact HK.out.1 | exact (show Kept w _ (fun k_ => P0_2_ k_ ∨ P0_3_ k_ ∨ P0_4_ k_) from by repeat (first | (with_reducible first | exact HK.out | apply Kept.alloc | apply Kept.drewN | apply Kept.drew) | exact HK.out)).1) : w.heap.size ≤ gb493)); have n7_ := Aside0.mk ((by rw [hg]; exact (below_size (by repeat (first | (with_reducible first | exact HB.out | apply below_alloc | apply pw_below_drewN | apply below_drew1) | exact HB.out))) : w0.heap.size ≤ gb493)); clear HO0_2; clear HO0_3; clear HO0_4; clear HK; clear HB; have HO0_2 := n0_; have HO0_3 := n1_; have HO0_4 := n2_; have HK := n3_; have HB := n4_; have BK493 := n5_; have GW493 := n6_; have GE493 := n7_; clear n0_ n1_ n2_ n3_ n4_ n5_ n6_ n7_; clear hb hbox hg; have hcz10_0 : w9.cell? ⟨gb493, 0, none⟩ = some (.int .i64 a0_0) := (blk_cell BK493.out 0).trans rfl; have hcz10_1 : w9.cell? ⟨gb493, 1, none⟩ = some (.int .i64 a0_1) := (blk_cell BK493.out 1).trans rfl; have hcz10_2 : w9.cell? ⟨gb493, 2, none⟩ = some (.slice Ao6 l0_2.length co6) := (blk_cell BK493.out 2).trans rfl; have hcz10_3 : w9.cell? ⟨gb493, 3, none⟩ = some (.slice Ao7 l0_3.length co7) := (blk_cell BK493.out 3).trans rfl; have hcz10_4 : w9.cell? ⟨gb493, 4, none⟩ = some (.slice Ao8 l0_4.length co8) := (blk_cell BK493.out 4).trans rfl; have hfz10_0 := blk_frozen BK493.out 0; have hfz10_1 := blk_frozen BK493.out 1; have hfz10_2 := blk_frozen BK493.out 2; have hfz10_3 := blk_frozen BK493.out 3; have hfz10_4 := blk_frozen BK493.out 4) | ((with_reducible refine gate_callee (f := 102) rfl ?_); refine goesL_ (some 8) rfl rfl Try.func102 (by kernel_rfl) rfl #[.slice Ao6 l0_2.length co6, .int .i64 a1] rfl (by (try simp only [List.map_toArray, List.map_cons, List.map_nil]); first | done | rfl | (simp only [List.length_drop, List.length_take]; rfl)) ?_; (with_reducible refine (laws_markItemS.calls k (fun k_ => some k_ = (.slice Ao6 l0_2.length co6 : Value).ownBlock) (.slice Ao6 l0_2.length co6) l0_2 a1 t494 t495 w0 _ ?side1 ?side2 A3.out).mono ?_); (case side1 => repeat (first | (with_reducible first | exact HB.out | apply below_alloc | apply pw_below_drewN | apply below_drew1 | refine below_set ?_ GE493.out) | exact HB.out)); (case side2 => exact Kd.R_tight rfl HO0_2.out); rintro e w11 ⟨rfl, hy0, hb, hkp⟩; refine ⟨_, rfl, ?_⟩; have n0_ := Aside0.mk (Kd.R_reok rfl hy0 (fun k_ e_ => HO0_2.out.1 k_ e_)); have n1_ := Aside0.mk (Kd.R_mono (ok' := fun k_ => ((P0_2_ k_ ∨ P0_3_ k_ ∨ P0_4_ k_) ∨ w.heap.size ≤ k_) ∧ some k_ ≠ (.slice Ao6 l0_2.length co6 : Value).ownBlock) (Kd.R_keptB (HO0_3.out) hkp (fun k_ hk_ hs_ => (hk_.2) hs_)) (fun k_ hk_ => ⟨hk_.1.1, hk_.1.2⟩)); have n2_ := Aside0.mk (Kd.R_mono (ok' := fun k_ => ((P0_2_ k_ ∨ P0_3_ k_ ∨ P0_4_ k_) ∨ w.heap.size ≤ k_)) (Kd.R_keptB ((Kd.R_apart' HO0_4.out (Kd.R_typed HO0_2.out) (by decide))) hkp (fun k_ hk_ hs_ => (hk_.2) hs_)) (fun k_ hk_ => hk_.1.1)); have n3_ := Aside0.mk (blk_kept (by (with_reducible repeat (first | refine blk_drewN ?_ _ | refine blk_drew ?_ | refine blk_alloc ?_ _)); exact BK493.out) hkp (fun hs_ => (fun e_ => (Kd.R_ne HO0_2.out BK493.out (by decide)) e_) hs_)); have n4_ := Aside0.mk (Kept.then_ (S := (fun k_ => P0_2_ k_ ∨ P0_3_ k_ ∨ P0_4_ k_)) (by repeat (first | (with_reducible first | exact HK.out | apply Kept.alloc | apply Kept.drewN | apply Kept.drew | refine Kept.setCell ?_ (.inr GW493.out) _) | exact HK.out)) hkp (fun k_ hs_ => (fun e_ => (HO0_2.out.1 k_ e_.symm).1) hs_)); have n5_ := Aside0.mk (hb); clear HO0_2; clear HO0_3; clear HO0_4; clear BK493; clear HK; clear HB; have HO0_2 := n0_; have HO0_3 := n1_; have HO0_4 := n2_; have BK493 := n3_; have HK := n4_; have HB := n5_; clear n0_ n1_ n2_ n3_ n4_ n5_; (try clear hb); (try clear hkp); (try clear hy0); have hcz12_0 : w11.cell? ⟨gb493, 0, none⟩ = some (.int .i64 a0_0) := (blk_cell BK493.out 0).trans rfl; have hcz12_1 : w11.cell? ⟨gb493, 1, none⟩ = some (.int .i64 a0_1) := (blk_cell BK493.out 1).trans rfl; have hcz12_2 : w11.cell? ⟨gb493, 2, none⟩ = some (.slice Ao6 l0_2.length co6) := (blk_cell BK493.out 2).trans rfl; have hcz12_3 : w11.cell? ⟨gb493, 3, none⟩ = some (.slice Ao7 l0_3.length co7) := (blk_cell BK493.out 3).trans rfl; have hcz12_4 : w11.cell? ⟨gb493, 4, none⟩ = some (.slice Ao8 l0_4.length co8) := (blk_cell BK493.out 4).trans rfl; have hfz12_0 := blk_frozen BK493.out 0; have hfz12_1 := blk_frozen BK493.out 1; have hfz12_2 := blk_frozen BK493.out 2; have hfz12_3 := blk_frozen BK493.out 3; have hfz12_4 := blk_frozen BK493.out 4) | ((with_reducible refine gate_callee (f := 102) rfl ?_); refine goesL_ (some 12) rfl rfl Try.func102 (by kernel_rfl) rfl #[.slice Ao7 l0_3.length co7, .int .i64 t494] rfl (by (try simp only [List.map_toArray, List.map_cons, List.map_nil]); first | done | rfl | (simp only [List.length_drop, List.length_take]; rfl)) ?_; (with_reducible refine (laws_markItemS.calls k (fun k_ => some k_ = (.slice Ao7 l0_3.length co7 : Value).ownBlock) (.slice Ao7 l0_3.length co7) l0_3 t494 t496 t497 w0 _ ?side1 ?side2 A4.out).mono ?_); (case side1 => repeat (first | (with_reducible first | exact HB.out | apply below_alloc | apply pw_below_drewN | apply below_drew1 | refine below_set ?_ GE493.out) | exact HB.out)); (case side2 => exact Kd.R_tight rfl HO0_3.out); rintro e w13 ⟨rfl, hy0, hb, hkp⟩; refine ⟨_, rfl, ?_⟩; have n0_ := Aside0.mk (Kd.R_mono (ok' := fun k_ => ((P0_2_ k_ ∨ P0_3_ k_ ∨ P0_4_ k_) ∨ w.heap.size ≤ k_) ∧ some k_ ≠ (.slice Ao7 l0_3.length co7 : Value).ownBlock) (Kd.R_keptB (HO0_2.out) hkp (fun k_ hk_ hs_ => (hk_.2) hs_)) (fun k_ hk_ => ⟨hk_.1.1, hk_.1.2⟩)); have n1_ := Aside0.mk (Kd.R_reok rfl hy0 (fun k_ e_ => HO0_3.out.1 k_ e_)); have n2_ := Aside0.mk (Kd.R_mono (ok' := fun k_ => ((P0_2_ k_ ∨ P0_3_ k_ ∨ P0_4_ k_) ∨ w.heap.size ≤ k_)) (Kd.R_keptB ((Kd.R_apart' HO0_4.out (Kd.R_typed HO0_3.out) (by decide))) hkp (fun k_ hk_ hs_ => (hk_.2) hs_)) (fun k_ hk_ => hk_.1.1)); have n3_ := Aside0.mk (blk_kept (by (with_reducible repeat (first | refine blk_drewN ?_ _ | refine blk_drew ?_ | refine blk_alloc ?_ _)); exact BK493.out) hkp (fun hs_ => (fun e_ => (Kd.R_ne HO0_3.out BK493.out (by decide)) e_) hs_)); have n4_ := Aside0.mk (Kept.then_ (S := (fun k_ => P0_2_ k_ ∨ P0_3_ k_ ∨ P0_4_ k_)) (by repeat (first | (with_reducible first | exact HK.out | apply Kept.alloc | apply Kept.drewN | apply Kept.drew | refine Kept.setCell ?_ (.inr GW493.out) _) | exact HK.out)) hkp (fun k_ hs_ => (fun e_ => (HO0_3.out.1 k_ e_.symm).1) hs_)); have n5_ := Aside0.mk (hb); clear HO0_2; clear HO0_3; clear HO0_4; clear BK493; clear HK; clear HB; have HO0_2 := n0_; have HO0_3 := n1_; have HO0_4 := n2_; have BK493 := n3_; have HK := n4_; have HB := n5_; clear n0_ n1_ n2_ n3_ n4_ n5_; (try clear hb); (try clear hkp); (try clear hy0); have hcz14_0 : w13.cell? ⟨gb493, 0, none⟩ = some (.int .i64 a0_0) := (blk_cell BK493.out 0).trans rfl; have hcz14_1 : w13.cell? ⟨gb493, 1, none⟩ = some (.int .i64 a0_1) := (blk_cell BK493.out 1).trans rfl; have hcz14_2 : w13.cell? ⟨gb493, 2, none⟩ = some (.slice Ao6 l0_2.length co6) := (blk_cell BK493.out 2).trans rfl; have hcz14_3 : w13.cell? ⟨gb493, 3, none⟩ = some (.slice Ao7 l0_3.length co7) := (blk_cell BK493.out 3).trans rfl; have hcz14_4 : w13.cell? ⟨gb493, 4, none⟩ = some (.slice Ao8 l0_4.length co8) := (blk_cell BK493.out 4).trans rfl; have hfz14_0 := blk_frozen BK493.out 0; have hfz14_1 := blk_frozen BK493.out 1; have hfz14_2 := blk_frozen BK493.out 2; have hfz14_3 := blk_frozen BK493.out 3; have hfz14_4 := blk_frozen BK493.out 4) | ((with_reducible refine gate_callee (f := 103) rfl ?_); refine goesL_ (some 16) rfl rfl Try.func103 (by kernel_rfl) rfl #[.slice Ao8 l0_4.length co8, .int .i64 t496] rfl (by (try simp only [List.map_toArray, List.map_cons, List.map_nil]); first | done | rfl | (simp only [List.length_drop, List.length_take]; rfl)) ?_; (with_reducible refine (laws_markIntS.calls k (fun k_ => some k_ = (.slice Ao8 l0_4.length co8 : Value).ownBlock) (.slice Ao8 l0_4.length co8) l0_4 t496 t498 t499 w0 _ ?side1 ?side2 A5.out).mono ?_); (case side1 => repeat (first | (with_reducible first | exact HB.out | apply below_alloc | apply pw_below_drewN | apply below_drew1 | refine below_set ?_ GE493.out) | exact HB.out)); (case side2 => exact Kd.R_tight rfl HO0_4.out); rintro e w15 ⟨rfl, hy0, hb, hkp⟩; refine ⟨_, rfl, ?_⟩; have n0_ := Aside0.mk (Kd.R_mono (ok' := fun k_ => ((P0_2_ k_ ∨ P0_3_ k_ ∨ P0_4_ k_) ∨ w.heap.size ≤ k_) ∧ some k_ ≠ (.slice Ao7 l0_3.length co7 : Value).ownBlock) (Kd.R_keptB ((Kd.R_apart' HO0_2.out (Kd.R_typed HO0_4.out) (by decide))) hkp (fun k_ hk_ hs_ => (hk_.2) hs_)) (fun k_ hk_ => ⟨hk_.1.1.1, hk_.1.1.2⟩)); have n1_ := Aside0.mk (Kd.R_mono (ok' := fun k_ => ((P0_2_ k_ ∨ P0_3_ k_ ∨ P0_4_ k_) ∨ w.heap.size ≤ k_) ∧ some k_ ≠ (.slice Ao6 l0_2.length co6 : Value).ownBlock) (Kd.R_keptB ((Kd.R_apart' HO0_3.out (Kd.R_typed HO0_4.out) (by decide))) hkp (fun k_ hk_ hs_ => (hk_.2) hs_)) (fun k_ hk_ => ⟨hk_.1.1.1, hk_.1.1.2⟩)); have n2_ := Aside0.mk (Kd.R_reok rfl hy0 (fun k_ e_ => HO0_4.out.1 k_ e_)); have n3_ := Aside0.mk (blk_kept (by (with_reducible repeat (first | refine blk_drewN ?_ _ | refine blk_drew ?_ | refine blk_alloc ?_ _)); exact BK493.out) hkp (fun hs_ => (fun e_ => (Kd.R_ne HO0_4.out BK493.out (by decide)) e_) hs_)); have n4_ := Aside0.mk (Kept.then_ (S := (fun k_ => P0_2_ k_ ∨ P0_3_ k_ ∨ P0_4_ k_)) (by repeat (first | (with_reducible first | exact HK.out | apply Kept.alloc | apply Kept.drewN | apply Kept.drew | refine Kept.setCell ?_ (.inr GW493.out) _) | exact HK.out)) hkp (fun k_ hs_ => (fun e_ => (HO0_4.out.1 k_ e_.symm)) hs_)); have n5_ := Aside0.mk (hb); clear HO0_2; clear HO0_3; clear HO0_4; clear BK493; clear HK; clear HB; have HO0_2 := n0_; have HO0_3 := n1_; have HO0_4 := n2_; have BK493 := n3_; have HK := n4_; have HB := n5_; clear n0_ n1_ n2_ n3_ n4_ n5_; (try clear hb); (try clear hkp); (try clear hy0)))
  go_ret
  exact ⟨by first | rfl | (simp [errW_none, errW_some] <;> rfl) | (simp [*, errW_none, errW_some] <;> rfl), by (with_reducible repeat (first | apply Kd.R_alloc | apply Kd.R_drewN | apply Kd.R_drew)); exact Kd.R_mono HO0_2.out (fun _ hk => hk.1), by (with_reducible repeat (first | apply Kd.R_alloc | apply Kd.R_drewN | apply Kd.R_drew)); exact Kd.R_mono HO0_3.out (fun _ hk => hk.1), by (with_reducible repeat (first | apply Kd.R_alloc | apply Kd.R_drewN | apply Kd.R_drew)); exact HO0_4.out, by repeat (first | (with_reducible first | exact HB.out | apply below_alloc | apply pw_below_drewN | apply below_drew1 | refine below_set ?_ GE493.out) | exact HB.out), by repeat (first | (with_reducible first | exact HK.out | apply Kept.alloc | apply Kept.drewN | apply Kept.drew | refine Kept.setCell ?_ (.inr GW493.out) _) | exact HK.out)⟩

end Go.Proofs.Ytlmpbngndcagbaa.G

/- Small tools for the pure statements: rounds, indices, reads of lists; no conditions. -/
namespace Go.Proofs.Ytlmpbngndcagbaa.PL
open Go.RowKit Go.Proofs.YtlmpbngndcagbaaW.PrintWords

theorem Ev.const {α : Type} {x : Option α} {r : α} (h : x = some r) : Ev (fun _ => x) r := ⟨0, fun _ _ => h⟩
theorem Ev.pos {α : Type} {c : Prop} [Decidable c] {f g : Nat → Option α} {r : α} (hc : c) (h : Ev f r) : Ev (fun k => if c then f k else g k) r := by
  obtain ⟨K, h⟩ := h
  exact ⟨K, fun k hk => (if_pos hc).trans (h k hk)⟩
theorem Ev.neg {α : Type} {c : Prop} [Decidable c] {f g : Nat → Option α} {r : α} (hc : ¬ c) (h : Ev g r) : Ev (fun k => if c then f k else g k) r := by
  obtain ⟨K, h⟩ := h
  exact ⟨K, fun k hk => (if_neg hc).trans (h k hk)⟩
theorem Ev.to {α : Type} {f : Nat → Option α} {r s : α} (h : Ev f r) (e : r = s) : Ev f s := e ▸ h
/-- What comes of it is one alone. -/
theorem Ev.unique {α : Type} {f : Nat → Option α} {r s : α} (h : Ev f r) (h' : Ev f s) : r = s := by
  obtain ⟨K, h⟩ := h
  obtain ⟨K', h'⟩ := h'
  have a := h (max K K') (Nat.le_max_left _ _)
  have b := h' (max K K') (Nat.le_max_right _ _)
  rw [a] at b
  exact Option.some.inj b
theorem w64 {x : Int} (h0 : -9223372036854775808 ≤ x) (h1 : x ≤ 9223372036854775807) : wrap64 x = x := by
  unfold wrap64
  omega
theorem wsucc {i : Nat} (h : i < 9223372036854775807) : wrap64 ((i : Int) + 1) = ((i + 1 : Nat) : Int) := by
  rw [w64 (by omega) (by omega)]
  omega
theorem getD_at {α : Type} {xs : List α} {i : Nat} (h : i < xs.length) (z : α) : xs.getD ((i : Nat) : Int).toNat z = xs[i] := by
  simp [List.getD_eq_getElem?_getD, h]
theorem drop_at {α : Type} {xs : List α} {i : Nat} (h : i < xs.length) : xs.drop i = xs[i] :: xs.drop (i + 1) := List.drop_eq_getElem_cons h
theorem bytes_eq {a b : ByteArray} : a.toList = b.toList ↔ a = b := by
  rw [ByteArray.toList_eq, ByteArray.toList_eq]
  constructor
  · intro h
    cases a; cases b
    simp at h
    simp [h]
  · intro h; rw [h]
theorem bytes_beq (a b : ByteArray) : (a.toList == b.toList) = decide (a = b) := by
  rw [Bool.eq_iff_iff]
  simp [bytes_eq]
theorem decide_cons {α : Type} [DecidableEq α] (a b : α) (l m : List α) : decide (a :: l = b :: m) = (decide (a = b) && decide (l = m)) := by
  rw [Bool.eq_iff_iff]; simp
/-- What is left of a when m are taken off, or -1. -/
def left (a : Int) (m : Nat) : Int := if (m : Int) ≤ a then a - m else -1
theorem left_pos {a : Int} {m : Nat} (h : (m : Int) ≤ a) : left a m = a - m := if_pos h
theorem left_neg {a : Int} {m : Nat} (h : ¬ (m : Int) ≤ a) : left a m = -1 := if_neg h
theorem left_zero {a : Int} (h : 0 ≤ a) : left a 0 = a := by unfold left; rw [if_pos (by omega)]; omega
theorem left_add {a : Int} {m n : Nat} : left (a - m) n = left a (m + n) := by
  unfold left
  by_cases c : (n : Int) ≤ a - m
  · rw [if_pos c, if_pos (by omega)]; omega
  · rw [if_neg c, if_neg (by omega)]
theorem left_neg_add {a : Int} {m n : Nat} (h : ¬ (m : Int) ≤ a) : left a (m + n) = -1 := left_neg (by omega)
theorem left_le {a : Int} {m : Nat} (h : 0 ≤ left a m) : (m : Int) ≤ a ∧ left a m = a - m := by
  by_cases c : (m : Int) ≤ a
  · exact ⟨c, left_pos c⟩
  · rw [left_neg c] at h; omega
theorem set_mid {α : Type} (pre : List α) (x y : α) (rest : List α) : (pre ++ x :: rest).set ((pre.length : Nat) : Int).toNat y = pre ++ y :: rest := by
  simp
theorem getD_mid {α : Type} (pre : List α) (x z : α) (rest : List α) : (pre ++ x :: rest).getD ((pre.length : Nat) : Int).toNat z = x := by
  simp [List.getD_eq_getElem?_getD]
theorem snoc_mid {α : Type} (pre : List α) (x : α) (rest : List α) : pre ++ x :: rest = (pre ++ [x]) ++ rest := by simp
theorem take_drop_set {α β : Type} (f : α → β) (xs : List α) (ys : List β) {i : Nat} (hi : i < xs.length) (hl : ys.length = xs.length) (h : ys.take i = (xs.take i).map f) : (ys.set ((i : Nat) : Int).toNat (f xs[i])).take (i + 1) = (xs.take (i + 1)).map f := by
  rw [Int.toNat_natCast, List.take_succ_eq_append_getElem (by simp; omega), List.take_succ_eq_append_getElem hi, List.map_append, ← h]
  simp [List.take_set_of_le]
end Go.Proofs.Ytlmpbngndcagbaa.PL

/- The helpers of the exact laws at the type Item, on lists and numbers: written by families.py (this session's program); no conditions beside the sizes that a row reads. -/
namespace Go.Proofs.Ytlmpbngndcagbaa.Fam
open Go.RowKit Go.Proofs.Ytlmpbngndcagbaa.G Go.Proofs.Ytlmpbngndcagbaa.PL Go.Proofs.Ytlmpbngndcagbaa.Ok Go.Proofs.YtlmpbngndcagbaaW.PrintWords Go.Proofs.YtlmpbngndcagbaaW.PrintLast Go.Proofs.YtlmpbngndcagbaaW.PrintMore
set_option linter.unusedVariables false
set_option linter.unusedSimpArgs false

def cvItem (x : S54) : S57 := ⟨x.f0, x.f1, x.f2⟩
instance decItem : DecidableEq S57 := fun a b => decidable_of_iff (a.f0 = b.f0 ∧ a.f1 = b.f1 ∧ a.f2 = b.f2) (by cases a; cases b; simp)
def szmItem (x : S54) : Nat := x.f0.size + x.f1.size
theorem szItem_ev (x0 : ByteArray) (x1 : ByteArray) (x2 : Int) (a : Int) (h0 : 0 ≤ a) (h1 : a ≤ 1048576) (o0 : x0.size ≤ 140737488351232) (o1 : x1.size ≤ 140737488351232) : Ev (fun k => laws_szItem.f x0 x1 x2 a) (left a (x0.size + x1.size)) := by
  unfold laws_szItem.f
  by_cases c0 : ((x0.size : Nat) : Int) ≤ a
  rotate_left
  · rw [w64 (x := a - (x0.size : Int)) (by omega) (by omega)]
    refine Ev.pos (by omega) ?_
    exact Ev.const (congrArg some (left_neg (by omega)).symm)
  rw [w64 (x := a - (x0.size : Int)) (by omega) (by omega)]
  refine Ev.neg (by omega) ?_
  by_cases c1 : ((x1.size : Nat) : Int) ≤ a - (x0.size : Nat)
  rotate_left
  · rw [w64 (x := a - (x0.size : Nat) - (x1.size : Int)) (by omega) (by omega)]
    refine Ev.pos (by omega) ?_
    exact Ev.const (congrArg some (left_neg (by omega)).symm)
  rw [w64 (x := a - (x0.size : Nat) - (x1.size : Int)) (by omega) (by omega)]
  refine Ev.neg (by omega) ?_
  exact Ev.const (congrArg some (by rw [left_pos (by omega)]; omega))
theorem toItem_ev (x0 : ByteArray) (x1 : ByteArray) (x2 : Int)  : Ev (fun k => laws_toItem.f x0 x1 x2) (x0, x1, x2) := by
  unfold laws_toItem.f
  exact Ev.const rfl
theorem eqItem_ev (x0 : ByteArray) (x1 : ByteArray) (x2 : Int)  : Ev (fun k => laws_eqItem.f x0 x1 x2 x0 x1 x2) true := by
  unfold laws_eqItem.f
  refine Ev.pos rfl ?_
  refine Ev.pos rfl ?_
  refine Ev.pos rfl ?_
  exact Ev.const rfl
end Go.Proofs.Ytlmpbngndcagbaa.Fam

/- A mark's text is made: written by families.py (this session's program); no conditions. -/
namespace Go.Proofs.Ytlmpbngndcagbaa.Fam
open Go.RowKit Go.Proofs.Ytlmpbngndcagbaa.G Go.Proofs.Ytlmpbngndcagbaa.PL Go.Proofs.YtlmpbngndcagbaaW.PrintWords Go.Proofs.YtlmpbngndcagbaaW.PrintLast
set_option linter.unusedVariables false
set_option linter.unusedSimpArgs false
theorem strOfNums_size (xs : List Int) : (strOfNums xs).size = xs.length := by
  simp [strOfNums, ByteArray.size]
theorem markText_l0 : ∀ (n : Nat) (x : Int) (y : ByteArray), x < 10 ^ n → y.size + n ≤ 1000 → ∃ t, Ev (fun k => laws_markText.l0 k x y) t
  | 0, x, y, hx, hy => by
    refine ⟨(⟨#[109]⟩ : ByteArray) ++ y, Ev.step (fun _ => rfl) ?_⟩
    simp only [laws_markText.l0]
    refine Ev.neg (by simp at hx; omega) ?_
    refine Ev.pos (by omega) ?_
    exact Ev.const rfl
  | n + 1, x, y, hx, hy => by
    by_cases h0 : x > 0
    · have hd : Int.tdiv x 10 = x / 10 := Int.tdiv_eq_ediv_of_nonneg (by omega)
      have hxd : wrap64 (Int.tdiv x 10) < 10 ^ n := by
        rw [hd]
        have h1 : x / 10 < 10 ^ n := by rw [Int.pow_succ] at hx; omega
        by_cases hb : x / 10 ≤ 9223372036854775807
        · rw [w64 (by omega) hb]; exact h1
        · have h2 : wrap64 (x / 10) < 9223372036854775808 := by unfold wrap64; omega
          omega
      have hz : (strOfNums [wrap64 (48 + Int.tmod x 10) % 256]).size = 1 := by rw [strOfNums_size]; rfl
      obtain ⟨t, ht⟩ := markText_l0 n (wrap64 (Int.tdiv x 10)) (strOfNums [wrap64 (48 + Int.tmod x 10) % 256] ++ y) hxd (by rw [ByteArray.size_append, hz]; omega)
      refine ⟨t, Ev.step (fun _ => rfl) ?_⟩
      simp only [laws_markText.l0]
      refine Ev.pos h0 ?_
      refine Ev.bind (Ev.const rfl) ?_
      refine Ev.pos (by omega) ?_
      exact ht
    · refine ⟨(⟨#[109]⟩ : ByteArray) ++ y, Ev.step (fun _ => rfl) ?_⟩
      simp only [laws_markText.l0]
      refine Ev.neg h0 ?_
      refine Ev.pos (by omega) ?_
      exact Ev.const rfl
theorem markText_any (m : Int) (h : m ≤ 4611686018427387904) : ∃ t, Ev (fun k => laws_markText.f k m) t := by
  unfold laws_markText.f
  by_cases c : m ≤ 0
  · exact ⟨_, Ev.pos c (Ev.const rfl)⟩
  · obtain ⟨t, ht⟩ := markText_l0 20 m ⟨#[]⟩ (by rw [show (10 : Int) ^ 20 = 100000000000000000000 from by decide]; omega) (by rw [show (⟨#[]⟩ : ByteArray).size = 0 from rfl]; omega)
    exact ⟨t, Ev.neg c ht⟩
open Classical in
noncomputable def tx (m : Int) : ByteArray := if h : m ≤ 4611686018427387904 then Classical.choose (markText_any m h) else ⟨#[]⟩
theorem tx_ev (m : Int) (h0 : 1 ≤ m) (h : m ≤ 4611686018427387904) : Ev (fun k => laws_markText.f k m) (tx m) := by
  unfold tx
  rw [dif_pos h]
  exact Classical.choose_spec (markText_any m h)
theorem wrap_add1 {m : Int} (h0 : 0 ≤ m) (h : m ≤ 4611686018427387904) : wrap64 (m + 1) = m + 1 := w64 (by omega) (by omega)
theorem wrap_add2 {m : Int} (h0 : 0 ≤ m) (h : m ≤ 4611686018427387904) : wrap64 (m + 1 + 1) = m + 2 := by rw [w64 (by omega) (by omega)]; omega
theorem wrap_add3 {m : Int} (h0 : 0 ≤ m) (h : m ≤ 4611686018427387904) : wrap64 (m + 2 + 1) = m + 3 := by rw [w64 (by omega) (by omega)]; omega
theorem wrap_add4 {m : Int} (h0 : 0 ≤ m) (h : m ≤ 4611686018427387904) : wrap64 (m + 3 + 1) = m + 4 := by rw [w64 (by omega) (by omega)]; omega
theorem wrap_add5 {m : Int} (h0 : 0 ≤ m) (h : m ≤ 4611686018427387904) : wrap64 (m + 4 + 1) = m + 5 := by rw [w64 (by omega) (by omega)]; omega
theorem wrap_add6 {m : Int} (h0 : 0 ≤ m) (h : m ≤ 4611686018427387904) : wrap64 (m + 5 + 1) = m + 6 := by rw [w64 (by omega) (by omega)]; omega
theorem wrap_add7 {m : Int} (h0 : 0 ≤ m) (h : m ≤ 4611686018427387904) : wrap64 (m + 6 + 1) = m + 7 := by rw [w64 (by omega) (by omega)]; omega
theorem wrap_add8 {m : Int} (h0 : 0 ≤ m) (h : m ≤ 4611686018427387904) : wrap64 (m + 7 + 1) = m + 8 := by rw [w64 (by omega) (by omega)]; omega
theorem wrap_add9 {m : Int} (h0 : 0 ≤ m) (h : m ≤ 4611686018427387904) : wrap64 (m + 8 + 1) = m + 9 := by rw [w64 (by omega) (by omega)]; omega
theorem wrap_add10 {m : Int} (h0 : 0 ≤ m) (h : m ≤ 4611686018427387904) : wrap64 (m + 9 + 1) = m + 10 := by rw [w64 (by omega) (by omega)]; omega
theorem wrap_add11 {m : Int} (h0 : 0 ≤ m) (h : m ≤ 4611686018427387904) : wrap64 (m + 10 + 1) = m + 11 := by rw [w64 (by omega) (by omega)]; omega
theorem wrap_add12 {m : Int} (h0 : 0 ≤ m) (h : m ≤ 4611686018427387904) : wrap64 (m + 11 + 1) = m + 12 := by rw [w64 (by omega) (by omega)]; omega
theorem wrap_add13 {m : Int} (h0 : 0 ≤ m) (h : m ≤ 4611686018427387904) : wrap64 (m + 12 + 1) = m + 13 := by rw [w64 (by omega) (by omega)]; omega
theorem wrap_add14 {m : Int} (h0 : 0 ≤ m) (h : m ≤ 4611686018427387904) : wrap64 (m + 13 + 1) = m + 14 := by rw [w64 (by omega) (by omega)]; omega
theorem wrap_add15 {m : Int} (h0 : 0 ≤ m) (h : m ≤ 4611686018427387904) : wrap64 (m + 14 + 1) = m + 15 := by rw [w64 (by omega) (by omega)]; omega
theorem wrap_add16 {m : Int} (h0 : 0 ≤ m) (h : m ≤ 4611686018427387904) : wrap64 (m + 15 + 1) = m + 16 := by rw [w64 (by omega) (by omega)]; omega
theorem wrap_add17 {m : Int} (h0 : 0 ≤ m) (h : m ≤ 4611686018427387904) : wrap64 (m + 16 + 1) = m + 17 := by rw [w64 (by omega) (by omega)]; omega
theorem wrap_add18 {m : Int} (h0 : 0 ≤ m) (h : m ≤ 4611686018427387904) : wrap64 (m + 17 + 1) = m + 18 := by rw [w64 (by omega) (by omega)]; omega
theorem wrap_add19 {m : Int} (h0 : 0 ≤ m) (h : m ≤ 4611686018427387904) : wrap64 (m + 18 + 1) = m + 19 := by rw [w64 (by omega) (by omega)]; omega
theorem wrap_add20 {m : Int} (h0 : 0 ≤ m) (h : m ≤ 4611686018427387904) : wrap64 (m + 19 + 1) = m + 20 := by rw [w64 (by omega) (by omega)]; omega
theorem wrap_add21 {m : Int} (h0 : 0 ≤ m) (h : m ≤ 4611686018427387904) : wrap64 (m + 20 + 1) = m + 21 := by rw [w64 (by omega) (by omega)]; omega
theorem wrap_add22 {m : Int} (h0 : 0 ≤ m) (h : m ≤ 4611686018427387904) : wrap64 (m + 21 + 1) = m + 22 := by rw [w64 (by omega) (by omega)]; omega
theorem wrap_add23 {m : Int} (h0 : 0 ≤ m) (h : m ≤ 4611686018427387904) : wrap64 (m + 22 + 1) = m + 23 := by rw [w64 (by omega) (by omega)]; omega
theorem wrap_add24 {m : Int} (h0 : 0 ≤ m) (h : m ≤ 4611686018427387904) : wrap64 (m + 23 + 1) = m + 24 := by rw [w64 (by omega) (by omega)]; omega
theorem wrap_add25 {m : Int} (h0 : 0 ≤ m) (h : m ≤ 4611686018427387904) : wrap64 (m + 24 + 1) = m + 25 := by rw [w64 (by omega) (by omega)]; omega
theorem wrap_add26 {m : Int} (h0 : 0 ≤ m) (h : m ≤ 4611686018427387904) : wrap64 (m + 25 + 1) = m + 26 := by rw [w64 (by omega) (by omega)]; omega
theorem wrap_add27 {m : Int} (h0 : 0 ≤ m) (h : m ≤ 4611686018427387904) : wrap64 (m + 26 + 1) = m + 27 := by rw [w64 (by omega) (by omega)]; omega
theorem wrap_add28 {m : Int} (h0 : 0 ≤ m) (h : m ≤ 4611686018427387904) : wrap64 (m + 27 + 1) = m + 28 := by rw [w64 (by omega) (by omega)]; omega
theorem wrap_add29 {m : Int} (h0 : 0 ≤ m) (h : m ≤ 4611686018427387904) : wrap64 (m + 28 + 1) = m + 29 := by rw [w64 (by omega) (by omega)]; omega
theorem wrap_add30 {m : Int} (h0 : 0 ≤ m) (h : m ≤ 4611686018427387904) : wrap64 (m + 29 + 1) = m + 30 := by rw [w64 (by omega) (by omega)]; omega
theorem wrap_add31 {m : Int} (h0 : 0 ≤ m) (h : m ≤ 4611686018427387904) : wrap64 (m + 30 + 1) = m + 31 := by rw [w64 (by omega) (by omega)]; omega
theorem wrap_add32 {m : Int} (h0 : 0 ≤ m) (h : m ≤ 4611686018427387904) : wrap64 (m + 31 + 1) = m + 32 := by rw [w64 (by omega) (by omega)]; omega
theorem wrap_add33 {m : Int} (h0 : 0 ≤ m) (h : m ≤ 4611686018427387904) : wrap64 (m + 32 + 1) = m + 33 := by rw [w64 (by omega) (by omega)]; omega
theorem wrap_add34 {m : Int} (h0 : 0 ≤ m) (h : m ≤ 4611686018427387904) : wrap64 (m + 33 + 1) = m + 34 := by rw [w64 (by omega) (by omega)]; omega
theorem wrap_add35 {m : Int} (h0 : 0 ≤ m) (h : m ≤ 4611686018427387904) : wrap64 (m + 34 + 1) = m + 35 := by rw [w64 (by omega) (by omega)]; omega
theorem wrap_add36 {m : Int} (h0 : 0 ≤ m) (h : m ≤ 4611686018427387904) : wrap64 (m + 35 + 1) = m + 36 := by rw [w64 (by omega) (by omega)]; omega
theorem wrap_add37 {m : Int} (h0 : 0 ≤ m) (h : m ≤ 4611686018427387904) : wrap64 (m + 36 + 1) = m + 37 := by rw [w64 (by omega) (by omega)]; omega
theorem wrap_add38 {m : Int} (h0 : 0 ≤ m) (h : m ≤ 4611686018427387904) : wrap64 (m + 37 + 1) = m + 38 := by rw [w64 (by omega) (by omega)]; omega
theorem wrap_add39 {m : Int} (h0 : 0 ≤ m) (h : m ≤ 4611686018427387904) : wrap64 (m + 38 + 1) = m + 39 := by rw [w64 (by omega) (by omega)]; omega
end Go.Proofs.Ytlmpbngndcagbaa.Fam

/- The helpers of the exact laws at the type ItemS, on lists and numbers: written by families.py (this session's program); no conditions beside the sizes that a row reads. -/
namespace Go.Proofs.Ytlmpbngndcagbaa.Fam
open Go.RowKit Go.Proofs.Ytlmpbngndcagbaa.G Go.Proofs.Ytlmpbngndcagbaa.PL Go.Proofs.Ytlmpbngndcagbaa.Ok Go.Proofs.YtlmpbngndcagbaaW.PrintWords Go.Proofs.YtlmpbngndcagbaaW.PrintLast Go.Proofs.YtlmpbngndcagbaaW.PrintMore
set_option linter.unusedVariables false
set_option linter.unusedSimpArgs false

def szmItemS (l : List S54) : Nat := l.length + (l.map fun x => (szmItem x)).sum
theorem szItemS_l0 (l : List S54) (ho : okT42 l) : ∀ (d i : Nat) (a : Int), i + d = l.length → 0 ≤ a → a ≤ 1048576 → Ev (fun k => laws_szItemS.l0 k l a i) (left a ((l.drop i).map fun x => (szmItem x)).sum) := by
  have hl := ho.2
  intro d
  induction d with
  | zero =>
    intro i a hi h0 h1
    refine Ev.step (fun _ => rfl) ?_
    simp only [laws_szItemS.l0]
    refine Ev.neg (by omega) ?_
    rw [List.drop_of_length_le (by omega)]
    exact Ev.const (congrArg some (left_zero h0).symm)
  | succ d ih =>
    intro i a hi h0 h1
    have hlt : i < l.length := by omega
    have er : rd_T54 l (i : Int) = l[i] := getD_at hlt _
    have hok := ho.1 _ (List.getElem_mem hlt)
    refine Ev.step (fun _ => rfl) ?_
    simp only [laws_szItemS.l0]
    refine Ev.pos (by omega) ?_
    refine Ev.pos (by omega) ?_
    rw [er, drop_at hlt, List.map_cons, List.sum_cons, wsucc (by omega)]
    have hz : (szmItem l[i]) = (l[i]).f0.size + (l[i]).f1.size := rfl
    refine Ev.bind (szItem_ev (l[i]).f0 (l[i]).f1 (l[i]).f2 a h0 h1 hok.1 hok.2.1) ?_
    rw [← hz]
    by_cases c : (((szmItem l[i]) : Nat) : Int) ≤ a
    · rw [left_pos c]
      refine Ev.neg (by omega) ?_
      refine Ev.to (ih (i + 1) (a - (szmItem l[i])) (by omega) (by omega) (by omega)) ?_
      exact left_add
    · rw [left_neg c]
      refine Ev.pos (by omega) ?_
      exact Ev.const (congrArg some (left_neg_add c).symm)
theorem szItemS_ev (l : List S54) (a : Int) (h0 : 0 ≤ a) (h1 : a ≤ 1048576) (o : okT42 l) : Ev (fun k => laws_szItemS.f k l a) (left a (szmItemS l)) := by
  have ho := o.2
  unfold laws_szItemS.f szmItemS
  rw [w64 (by omega) (by omega)]
  by_cases c : (l.length : Int) ≤ a
  · refine Ev.neg (by omega) ?_
    refine Ev.to (szItemS_l0 l o l.length 0 (a - l.length) (by omega) (by omega) (by omega)) ?_
    rw [List.drop_zero]
    exact left_add
  · refine Ev.pos (by omega) ?_
    exact Ev.const (congrArg some (left_neg_add c).symm)
theorem toItemS_l0 (l : List S54) (ho : okT42 l) : ∀ (d i : Nat) (ys : List S57), i + d = l.length → ys.length = l.length → ys.take i = (l.take i).map cvItem → Ev (fun k => laws_toItemS.l0 k l ys i) (l.map cvItem) := by
  have hl := ho.2
  intro d
  induction d with
  | zero =>
    intro i ys hi hy ht
    refine Ev.step (fun _ => rfl) ?_
    simp only [laws_toItemS.l0]
    refine Ev.neg (by omega) ?_
    rw [List.take_of_length_le (by omega), List.take_of_length_le (by omega)] at ht
    exact Ev.const (congrArg some ht)
  | succ d ih =>
    intro i ys hi hy ht
    have hlt : i < l.length := by omega
    have er : rd_T54 l (i : Int) = l[i] := getD_at hlt _
    have hok := ho.1 _ (List.getElem_mem hlt)
    refine Ev.step (fun _ => rfl) ?_
    simp only [laws_toItemS.l0]
    refine Ev.pos (by omega) ?_
    refine Ev.pos (by omega) ?_
    rw [er, wsucc (by omega)]
    refine Ev.bind (toItem_ev (l[i]).f0 (l[i]).f1 (l[i]).f2 ) ?_
    refine Ev.pos (by omega) ?_
    exact ih (i + 1) _ (by omega) (by simp [hy]) (take_drop_set cvItem l ys hlt hy ht)
theorem toItemS_ev (l : List S54) (o : okT42 l) : Ev (fun k => laws_toItemS.f k l) (l.map cvItem) := by
  have ho := o.2
  unfold laws_toItemS.f
  rw [Int.toNat_natCast]
  refine Ev.pos (by omega) ?_
  refine Ev.pos (by omega) ?_
  refine Ev.to (toItemS_l0 l o l.length 0 _ (by omega) (by simp) (by simp)) ?_
  rfl
theorem eqItemS_l0 (l : List S57) (ho : l.length ≤ 140737488351232) : ∀ (d i : Nat), i + d = l.length → Ev (fun k => laws_eqItemS.l0 k l l i) true := by
  have hl : l.length ≤ 140737488351232 := ho
  intro d
  induction d with
  | zero =>
    intro i hi
    refine Ev.step (fun _ => rfl) ?_
    simp only [laws_eqItemS.l0]
    refine Ev.neg (by omega) ?_
    exact Ev.const rfl
  | succ d ih =>
    intro i hi
    refine Ev.step (fun _ => rfl) ?_
    simp only [laws_eqItemS.l0]
    refine Ev.pos (by omega) ?_
    refine Ev.pos (by omega) ?_
    refine Ev.pos (by omega) ?_
    rw [wsucc (by omega)]
    refine Ev.bind (eqItem_ev _ _ _ ) ?_
    refine Ev.pos rfl ?_
    exact ih (i + 1) (by omega)
theorem eqItemS_ev (l : List S57) (ho : l.length ≤ 140737488351232) : Ev (fun k => laws_eqItemS.f k l l) true := by
  unfold laws_eqItemS.f
  refine Ev.pos rfl ?_
  exact eqItemS_l0 l ho l.length 0 (by omega)
noncomputable def mkItemS : Int → List S57 → List S57
  | _, [] => []
  | m, _ :: r => (⟨(tx m), (tx (m + 1)), (m + 2)⟩ : S57) :: mkItemS (m + 3) r
theorem mkItemS_length : ∀ (l : List S57) (m : Int), (mkItemS m l).length = l.length
  | [], _ => rfl
  | _ :: r, m => by simp [mkItemS, mkItemS_length r]
theorem rdm_ItemS (pre : List S57) (x : S57) (rest : List S57) : rd_T57 (pre ++ x :: rest) (pre.length : Int) = x := getD_mid pre x _ rest
theorem markItemS_l0 : ∀ (rest pre : List S57) (m : Int), 1 ≤ m → (m + 3 * (rest.length : Int) ≤ 4611686018427387904 ∧ (pre.length : Int) + rest.length ≤ 4611686018427387904) → Ev (fun k => laws_markItemS.l0 k (pre ++ rest) m (pre.length : Int)) (m + 3 * (rest.length : Int), pre ++ mkItemS m rest)
  | [], pre, m, h0, h1 => by
    refine Ev.step (fun _ => rfl) ?_
    simp only [laws_markItemS.l0]
    refine Ev.neg (by simp) ?_
    exact Ev.const (by simp [mkItemS])
  | x :: rest, pre, m, h0, h1 => by
    simp only [List.length_cons, Int.natCast_add, Int.cast_ofNat_Int] at h1
    have hlen : (pre.length : Int) < 4611686018427387904 := by omega
    have hstep := markItemS_l0 rest (pre ++ [(⟨(tx m), (tx (m + 1)), (m + 2)⟩ : S57)]) (m + 3) (by omega) (by simp only [List.length_append, List.length_singleton, Int.natCast_add]; omega)
    refine Ev.step (fun _ => rfl) ?_
    simp only [laws_markItemS.l0]
    have hlt : (pre.length : Int) < ((pre ++ x :: rest).length : Int) := by simp; omega
    simp only [wrap_add1 (m := m) (by omega) (by omega), wrap_add2 (m := m) (by omega) (by omega), wrap_add3 (m := m) (by omega) (by omega), rdm_ItemS, set_mid]
    have w1 : wrap64 ((pre.length : Int) + 1) = (((pre ++ [(⟨(tx m), (tx (m + 1)), (m + 2)⟩ : S57)]).length : Nat) : Int) := by rw [w64 (by omega) (by omega)]; simp
    rw [w1]
    refine Ev.pos hlt ?_
    try first | with_reducible refine Ev.pos (Int.natCast_nonneg _) ?_ | with_reducible refine Ev.pos rfl ?_ | with_reducible refine Ev.pos trivial ?_ | with_reducible refine Ev.bind (tx_ev _ (by omega) (by omega)) ?_ | with_reducible refine Ev.bind (Ev.const rfl) ?_ | with_reducible refine Ev.neg (by simp) ?_
    try first | with_reducible refine Ev.pos (Int.natCast_nonneg _) ?_ | with_reducible refine Ev.pos rfl ?_ | with_reducible refine Ev.pos trivial ?_ | with_reducible refine Ev.bind (tx_ev _ (by omega) (by omega)) ?_ | with_reducible refine Ev.bind (Ev.const rfl) ?_ | with_reducible refine Ev.neg (by simp) ?_
    try first | with_reducible refine Ev.pos (Int.natCast_nonneg _) ?_ | with_reducible refine Ev.pos rfl ?_ | with_reducible refine Ev.pos trivial ?_ | with_reducible refine Ev.bind (tx_ev _ (by omega) (by omega)) ?_ | with_reducible refine Ev.bind (Ev.const rfl) ?_ | with_reducible refine Ev.neg (by simp) ?_
    try first | with_reducible refine Ev.pos (Int.natCast_nonneg _) ?_ | with_reducible refine Ev.pos rfl ?_ | with_reducible refine Ev.pos trivial ?_ | with_reducible refine Ev.bind (tx_ev _ (by omega) (by omega)) ?_ | with_reducible refine Ev.bind (Ev.const rfl) ?_ | with_reducible refine Ev.neg (by simp) ?_
    try first | with_reducible refine Ev.pos (Int.natCast_nonneg _) ?_ | with_reducible refine Ev.pos rfl ?_ | with_reducible refine Ev.pos trivial ?_ | with_reducible refine Ev.bind (tx_ev _ (by omega) (by omega)) ?_ | with_reducible refine Ev.bind (Ev.const rfl) ?_ | with_reducible refine Ev.neg (by simp) ?_
    try first | with_reducible refine Ev.pos (Int.natCast_nonneg _) ?_ | with_reducible refine Ev.pos rfl ?_ | with_reducible refine Ev.pos trivial ?_ | with_reducible refine Ev.bind (tx_ev _ (by omega) (by omega)) ?_ | with_reducible refine Ev.bind (Ev.const rfl) ?_ | with_reducible refine Ev.neg (by simp) ?_
    try first | with_reducible refine Ev.pos (Int.natCast_nonneg _) ?_ | with_reducible refine Ev.pos rfl ?_ | with_reducible refine Ev.pos trivial ?_ | with_reducible refine Ev.bind (tx_ev _ (by omega) (by omega)) ?_ | with_reducible refine Ev.bind (Ev.const rfl) ?_ | with_reducible refine Ev.neg (by simp) ?_
    try first | with_reducible refine Ev.pos (Int.natCast_nonneg _) ?_ | with_reducible refine Ev.pos rfl ?_ | with_reducible refine Ev.pos trivial ?_ | with_reducible refine Ev.bind (tx_ev _ (by omega) (by omega)) ?_ | with_reducible refine Ev.bind (Ev.const rfl) ?_ | with_reducible refine Ev.neg (by simp) ?_
    try first | with_reducible refine Ev.pos (Int.natCast_nonneg _) ?_ | with_reducible refine Ev.pos rfl ?_ | with_reducible refine Ev.pos trivial ?_ | with_reducible refine Ev.bind (tx_ev _ (by omega) (by omega)) ?_ | with_reducible refine Ev.bind (Ev.const rfl) ?_ | with_reducible refine Ev.neg (by simp) ?_
    try first | with_reducible refine Ev.pos (Int.natCast_nonneg _) ?_ | with_reducible refine Ev.pos rfl ?_ | with_reducible refine Ev.pos trivial ?_ | with_reducible refine Ev.bind (tx_ev _ (by omega) (by omega)) ?_ | with_reducible refine Ev.bind (Ev.const rfl) ?_ | with_reducible refine Ev.neg (by simp) ?_
    try first | with_reducible refine Ev.pos (Int.natCast_nonneg _) ?_ | with_reducible refine Ev.pos rfl ?_ | with_reducible refine Ev.pos trivial ?_ | with_reducible refine Ev.bind (tx_ev _ (by omega) (by omega)) ?_ | with_reducible refine Ev.bind (Ev.const rfl) ?_ | with_reducible refine Ev.neg (by simp) ?_
    try first | with_reducible refine Ev.pos (Int.natCast_nonneg _) ?_ | with_reducible refine Ev.pos rfl ?_ | with_reducible refine Ev.pos trivial ?_ | with_reducible refine Ev.bind (tx_ev _ (by omega) (by omega)) ?_ | with_reducible refine Ev.bind (Ev.const rfl) ?_ | with_reducible refine Ev.neg (by simp) ?_
    try simp only [rdm_ItemS, set_mid]
    refine Ev.to (by simpa only [List.append_assoc, List.singleton_append] using hstep) ?_
    simp [mkItemS, Int.natCast_add]; try omega
theorem heldItemS_l0 : ∀ (rest pre : List S57) (m : Int), 1 ≤ m → (m + 3 * (rest.length : Int) ≤ 4611686018427387904 ∧ (pre.length : Int) + rest.length ≤ 4611686018427387904) → Ev (fun k => laws_heldItemS.l0 k (pre ++ mkItemS m rest) m (pre.length : Int)) (m + 3 * (rest.length : Int))
  | [], pre, m, h0, h1 => by
    refine Ev.step (fun _ => rfl) ?_
    simp only [laws_heldItemS.l0]
    refine Ev.neg (by simp [mkItemS]) ?_
    exact Ev.const (by simp)
  | x :: rest, pre, m, h0, h1 => by
    simp only [List.length_cons, Int.natCast_add, Int.cast_ofNat_Int] at h1
    have hlen : (pre.length : Int) < 4611686018427387904 := by omega
    have hstep := heldItemS_l0 rest (pre ++ [(⟨(tx m), (tx (m + 1)), (m + 2)⟩ : S57)]) (m + 3) (by omega) (by simp only [List.length_append, List.length_singleton, Int.natCast_add]; omega)
    refine Ev.step (fun _ => rfl) ?_
    simp only [laws_heldItemS.l0, mkItemS]
    have hlt : (pre.length : Int) < ((pre ++ (⟨(tx m), (tx (m + 1)), (m + 2)⟩ : S57) :: mkItemS (m + 3) rest).length : Int) := by simp; omega
    simp only [wrap_add1 (m := m) (by omega) (by omega), wrap_add2 (m := m) (by omega) (by omega), wrap_add3 (m := m) (by omega) (by omega), rdm_ItemS, set_mid]
    have w1 : wrap64 ((pre.length : Int) + 1) = (((pre ++ [(⟨(tx m), (tx (m + 1)), (m + 2)⟩ : S57)]).length : Nat) : Int) := by rw [w64 (by omega) (by omega)]; simp
    rw [w1]
    refine Ev.pos hlt ?_
    try first | with_reducible refine Ev.pos (Int.natCast_nonneg _) ?_ | with_reducible refine Ev.pos rfl ?_ | with_reducible refine Ev.pos trivial ?_ | with_reducible refine Ev.bind (tx_ev _ (by omega) (by omega)) ?_ | with_reducible refine Ev.bind (Ev.const rfl) ?_ | with_reducible refine Ev.neg (by simp) ?_
    try first | with_reducible refine Ev.pos (Int.natCast_nonneg _) ?_ | with_reducible refine Ev.pos rfl ?_ | with_reducible refine Ev.pos trivial ?_ | with_reducible refine Ev.bind (tx_ev _ (by omega) (by omega)) ?_ | with_reducible refine Ev.bind (Ev.const rfl) ?_ | with_reducible refine Ev.neg (by simp) ?_
    try first | with_reducible refine Ev.pos (Int.natCast_nonneg _) ?_ | with_reducible refine Ev.pos rfl ?_ | with_reducible refine Ev.pos trivial ?_ | with_reducible refine Ev.bind (tx_ev _ (by omega) (by omega)) ?_ | with_reducible refine Ev.bind (Ev.const rfl) ?_ | with_reducible refine Ev.neg (by simp) ?_
    try first | with_reducible refine Ev.pos (Int.natCast_nonneg _) ?_ | with_reducible refine Ev.pos rfl ?_ | with_reducible refine Ev.pos trivial ?_ | with_reducible refine Ev.bind (tx_ev _ (by omega) (by omega)) ?_ | with_reducible refine Ev.bind (Ev.const rfl) ?_ | with_reducible refine Ev.neg (by simp) ?_
    try first | with_reducible refine Ev.pos (Int.natCast_nonneg _) ?_ | with_reducible refine Ev.pos rfl ?_ | with_reducible refine Ev.pos trivial ?_ | with_reducible refine Ev.bind (tx_ev _ (by omega) (by omega)) ?_ | with_reducible refine Ev.bind (Ev.const rfl) ?_ | with_reducible refine Ev.neg (by simp) ?_
    try first | with_reducible refine Ev.pos (Int.natCast_nonneg _) ?_ | with_reducible refine Ev.pos rfl ?_ | with_reducible refine Ev.pos trivial ?_ | with_reducible refine Ev.bind (tx_ev _ (by omega) (by omega)) ?_ | with_reducible refine Ev.bind (Ev.const rfl) ?_ | with_reducible refine Ev.neg (by simp) ?_
    try first | with_reducible refine Ev.pos (Int.natCast_nonneg _) ?_ | with_reducible refine Ev.pos rfl ?_ | with_reducible refine Ev.pos trivial ?_ | with_reducible refine Ev.bind (tx_ev _ (by omega) (by omega)) ?_ | with_reducible refine Ev.bind (Ev.const rfl) ?_ | with_reducible refine Ev.neg (by simp) ?_
    try first | with_reducible refine Ev.pos (Int.natCast_nonneg _) ?_ | with_reducible refine Ev.pos rfl ?_ | with_reducible refine Ev.pos trivial ?_ | with_reducible refine Ev.bind (tx_ev _ (by omega) (by omega)) ?_ | with_reducible refine Ev.bind (Ev.const rfl) ?_ | with_reducible refine Ev.neg (by simp) ?_
    try first | with_reducible refine Ev.pos (Int.natCast_nonneg _) ?_ | with_reducible refine Ev.pos rfl ?_ | with_reducible refine Ev.pos trivial ?_ | with_reducible refine Ev.bind (tx_ev _ (by omega) (by omega)) ?_ | with_reducible refine Ev.bind (Ev.const rfl) ?_ | with_reducible refine Ev.neg (by simp) ?_
    try first | with_reducible refine Ev.pos (Int.natCast_nonneg _) ?_ | with_reducible refine Ev.pos rfl ?_ | with_reducible refine Ev.pos trivial ?_ | with_reducible refine Ev.bind (tx_ev _ (by omega) (by omega)) ?_ | with_reducible refine Ev.bind (Ev.const rfl) ?_ | with_reducible refine Ev.neg (by simp) ?_
    try first | with_reducible refine Ev.pos (Int.natCast_nonneg _) ?_ | with_reducible refine Ev.pos rfl ?_ | with_reducible refine Ev.pos trivial ?_ | with_reducible refine Ev.bind (tx_ev _ (by omega) (by omega)) ?_ | with_reducible refine Ev.bind (Ev.const rfl) ?_ | with_reducible refine Ev.neg (by simp) ?_
    try first | with_reducible refine Ev.pos (Int.natCast_nonneg _) ?_ | with_reducible refine Ev.pos rfl ?_ | with_reducible refine Ev.pos trivial ?_ | with_reducible refine Ev.bind (tx_ev _ (by omega) (by omega)) ?_ | with_reducible refine Ev.bind (Ev.const rfl) ?_ | with_reducible refine Ev.neg (by simp) ?_
    try simp only [rdm_ItemS, set_mid]
    refine Ev.to (by simpa only [List.append_assoc, List.singleton_append] using hstep) ?_
    simp [Int.natCast_add]; try omega
theorem markItemS_ev (l : List S57) (m : Int) (h0 : 1 ≤ m) (h1 : m + 3 * (l.length : Int) ≤ 4611686018427387904) : Ev (fun k => laws_markItemS.f k l m) (m + 3 * (l.length : Int), mkItemS m l) := by
  unfold laws_markItemS.f
  have h := markItemS_l0 l [] m h0 ⟨h1, by simp; omega⟩
  simpa using h
theorem heldItemS_ev (l : List S57) (m : Int) (h0 : 1 ≤ m) (h1 : m + 3 * (l.length : Int) ≤ 4611686018427387904) : Ev (fun k => laws_heldItemS.f k (mkItemS m l) m) (m + 3 * (l.length : Int)) := by
  unfold laws_heldItemS.f
  have h := heldItemS_l0 l [] m h0 ⟨h1, by simp; omega⟩
  simpa using h
end Go.Proofs.Ytlmpbngndcagbaa.Fam

/- The helpers of the exact laws at the type IntS, on lists and numbers: written by families.py (this session's program); no conditions beside the sizes that a row reads. -/
namespace Go.Proofs.Ytlmpbngndcagbaa.Fam
open Go.RowKit Go.Proofs.Ytlmpbngndcagbaa.G Go.Proofs.Ytlmpbngndcagbaa.PL Go.Proofs.Ytlmpbngndcagbaa.Ok Go.Proofs.YtlmpbngndcagbaaW.PrintWords Go.Proofs.YtlmpbngndcagbaaW.PrintLast Go.Proofs.YtlmpbngndcagbaaW.PrintMore
set_option linter.unusedVariables false
set_option linter.unusedSimpArgs false

def szmIntS (l : List Int) : Nat := l.length
theorem szIntS_ev (l : List Int) (a : Int) (h0 : 0 ≤ a) (h1 : a ≤ 1048576) (o : okT43 l) : Ev (fun k => laws_szIntS.f l a) (left a (szmIntS l)) := by
  have ho := o.2
  unfold laws_szIntS.f szmIntS
  rw [w64 (by omega) (by omega)]
  by_cases c : (l.length : Int) ≤ a
  · refine Ev.neg (by omega) ?_
    exact Ev.const (congrArg some (left_pos c).symm)
  · refine Ev.pos (by omega) ?_
    exact Ev.const (congrArg some (left_neg c).symm)
theorem toIntS_l0 (l : List Int) (ho : okT43 l) : ∀ (d i : Nat) (ys : List Int), i + d = l.length → ys.length = l.length → ys.take i = (l.take i).map id → Ev (fun k => laws_toIntS.l0 k l ys i) (l.map id) := by
  have hl := ho.2
  intro d
  induction d with
  | zero =>
    intro i ys hi hy ht
    refine Ev.step (fun _ => rfl) ?_
    simp only [laws_toIntS.l0]
    refine Ev.neg (by omega) ?_
    rw [List.take_of_length_le (by omega), List.take_of_length_le (by omega)] at ht
    exact Ev.const (congrArg some ht)
  | succ d ih =>
    intro i ys hi hy ht
    have hlt : i < l.length := by omega
    have er : rd l (i : Int) = l[i] := getD_at hlt _
    have hok := ho.1 _ (List.getElem_mem hlt)
    refine Ev.step (fun _ => rfl) ?_
    simp only [laws_toIntS.l0]
    refine Ev.pos (by omega) ?_
    refine Ev.pos (by omega) ?_
    rw [er, wsucc (by omega)]
    refine Ev.pos (by omega) ?_
    exact ih (i + 1) _ (by omega) (by simp [hy]) (take_drop_set id l ys hlt hy ht)
theorem toIntS_ev (l : List Int) (o : okT43 l) : Ev (fun k => laws_toIntS.f k l) l := by
  have ho := o.2
  unfold laws_toIntS.f
  rw [Int.toNat_natCast]
  refine Ev.pos (by omega) ?_
  refine Ev.pos (by omega) ?_
  refine Ev.to (toIntS_l0 l o l.length 0 _ (by omega) (by simp) (by simp)) ?_
  simp
theorem eqIntS_l0 (l : List Int) (ho : l.length ≤ 140737488351232) : ∀ (d i : Nat), i + d = l.length → Ev (fun k => laws_eqIntS.l0 k l l i) true := by
  have hl : l.length ≤ 140737488351232 := ho
  intro d
  induction d with
  | zero =>
    intro i hi
    refine Ev.step (fun _ => rfl) ?_
    simp only [laws_eqIntS.l0]
    refine Ev.neg (by omega) ?_
    exact Ev.const rfl
  | succ d ih =>
    intro i hi
    refine Ev.step (fun _ => rfl) ?_
    simp only [laws_eqIntS.l0]
    refine Ev.pos (by omega) ?_
    refine Ev.pos (by omega) ?_
    refine Ev.pos (by omega) ?_
    rw [wsucc (by omega)]
    first | refine Ev.pos rfl ?_ | refine Ev.pos trivial ?_ | refine Ev.neg (by simp) ?_
    exact ih (i + 1) (by omega)
theorem eqIntS_ev (l : List Int) (ho : l.length ≤ 140737488351232) : Ev (fun k => laws_eqIntS.f k l l) true := by
  unfold laws_eqIntS.f
  refine Ev.pos rfl ?_
  exact eqIntS_l0 l ho l.length 0 (by omega)
noncomputable def mkIntS : Int → List Int → List Int
  | _, [] => []
  | m, _ :: r => m :: mkIntS (m + 1) r
theorem mkIntS_length : ∀ (l : List Int) (m : Int), (mkIntS m l).length = l.length
  | [], _ => rfl
  | _ :: r, m => by simp [mkIntS, mkIntS_length r]
theorem rdm_IntS (pre : List Int) (x : Int) (rest : List Int) : rd (pre ++ x :: rest) (pre.length : Int) = x := getD_mid pre x _ rest
theorem markIntS_l0 : ∀ (rest pre : List Int) (m : Int), 1 ≤ m → (m + 1 * (rest.length : Int) ≤ 4611686018427387904 ∧ (pre.length : Int) + rest.length ≤ 4611686018427387904) → Ev (fun k => laws_markIntS.l0 k (pre ++ rest) m (pre.length : Int)) (m + 1 * (rest.length : Int), pre ++ mkIntS m rest)
  | [], pre, m, h0, h1 => by
    refine Ev.step (fun _ => rfl) ?_
    simp only [laws_markIntS.l0]
    refine Ev.neg (by simp) ?_
    exact Ev.const (by simp [mkIntS])
  | x :: rest, pre, m, h0, h1 => by
    simp only [List.length_cons, Int.natCast_add, Int.cast_ofNat_Int] at h1
    have hlen : (pre.length : Int) < 4611686018427387904 := by omega
    have hstep := markIntS_l0 rest (pre ++ [m]) (m + 1) (by omega) (by simp only [List.length_append, List.length_singleton, Int.natCast_add]; omega)
    refine Ev.step (fun _ => rfl) ?_
    simp only [laws_markIntS.l0]
    have hlt : (pre.length : Int) < ((pre ++ x :: rest).length : Int) := by simp; omega
    simp only [wrap_add1 (m := m) (by omega) (by omega), rdm_IntS, set_mid]
    have w1 : wrap64 ((pre.length : Int) + 1) = (((pre ++ [m]).length : Nat) : Int) := by rw [w64 (by omega) (by omega)]; simp
    rw [w1]
    refine Ev.pos hlt ?_
    try first | with_reducible refine Ev.pos (Int.natCast_nonneg _) ?_ | with_reducible refine Ev.pos rfl ?_ | with_reducible refine Ev.pos trivial ?_ | with_reducible refine Ev.bind (tx_ev _ (by omega) (by omega)) ?_ | with_reducible refine Ev.bind (Ev.const rfl) ?_ | with_reducible refine Ev.neg (by simp) ?_
    try first | with_reducible refine Ev.pos (Int.natCast_nonneg _) ?_ | with_reducible refine Ev.pos rfl ?_ | with_reducible refine Ev.pos trivial ?_ | with_reducible refine Ev.bind (tx_ev _ (by omega) (by omega)) ?_ | with_reducible refine Ev.bind (Ev.const rfl) ?_ | with_reducible refine Ev.neg (by simp) ?_
    try first | with_reducible refine Ev.pos (Int.natCast_nonneg _) ?_ | with_reducible refine Ev.pos rfl ?_ | with_reducible refine Ev.pos trivial ?_ | with_reducible refine Ev.bind (tx_ev _ (by omega) (by omega)) ?_ | with_reducible refine Ev.bind (Ev.const rfl) ?_ | with_reducible refine Ev.neg (by simp) ?_
    try first | with_reducible refine Ev.pos (Int.natCast_nonneg _) ?_ | with_reducible refine Ev.pos rfl ?_ | with_reducible refine Ev.pos trivial ?_ | with_reducible refine Ev.bind (tx_ev _ (by omega) (by omega)) ?_ | with_reducible refine Ev.bind (Ev.const rfl) ?_ | with_reducible refine Ev.neg (by simp) ?_
    try first | with_reducible refine Ev.pos (Int.natCast_nonneg _) ?_ | with_reducible refine Ev.pos rfl ?_ | with_reducible refine Ev.pos trivial ?_ | with_reducible refine Ev.bind (tx_ev _ (by omega) (by omega)) ?_ | with_reducible refine Ev.bind (Ev.const rfl) ?_ | with_reducible refine Ev.neg (by simp) ?_
    try first | with_reducible refine Ev.pos (Int.natCast_nonneg _) ?_ | with_reducible refine Ev.pos rfl ?_ | with_reducible refine Ev.pos trivial ?_ | with_reducible refine Ev.bind (tx_ev _ (by omega) (by omega)) ?_ | with_reducible refine Ev.bind (Ev.const rfl) ?_ | with_reducible refine Ev.neg (by simp) ?_
    try simp only [rdm_IntS, set_mid]
    refine Ev.to (by simpa only [List.append_assoc, List.singleton_append] using hstep) ?_
    simp [mkIntS, Int.natCast_add]; try omega
theorem heldIntS_l0 : ∀ (rest pre : List Int) (m : Int), 1 ≤ m → (m + 1 * (rest.length : Int) ≤ 4611686018427387904 ∧ (pre.length : Int) + rest.length ≤ 4611686018427387904) → Ev (fun k => laws_heldIntS.l0 k (pre ++ mkIntS m rest) m (pre.length : Int)) (m + 1 * (rest.length : Int))
  | [], pre, m, h0, h1 => by
    refine Ev.step (fun _ => rfl) ?_
    simp only [laws_heldIntS.l0]
    refine Ev.neg (by simp [mkIntS]) ?_
    exact Ev.const (by simp)
  | x :: rest, pre, m, h0, h1 => by
    simp only [List.length_cons, Int.natCast_add, Int.cast_ofNat_Int] at h1
    have hlen : (pre.length : Int) < 4611686018427387904 := by omega
    have hstep := heldIntS_l0 rest (pre ++ [m]) (m + 1) (by omega) (by simp only [List.length_append, List.length_singleton, Int.natCast_add]; omega)
    refine Ev.step (fun _ => rfl) ?_
    simp only [laws_heldIntS.l0, mkIntS]
    have hlt : (pre.length : Int) < ((pre ++ m :: mkIntS (m + 1) rest).length : Int) := by simp; omega
    simp only [wrap_add1 (m := m) (by omega) (by omega), rdm_IntS, set_mid]
    have w1 : wrap64 ((pre.length : Int) + 1) = (((pre ++ [m]).length : Nat) : Int) := by rw [w64 (by omega) (by omega)]; simp
    rw [w1]
    refine Ev.pos hlt ?_
    try first | with_reducible refine Ev.pos (Int.natCast_nonneg _) ?_ | with_reducible refine Ev.pos rfl ?_ | with_reducible refine Ev.pos trivial ?_ | with_reducible refine Ev.bind (tx_ev _ (by omega) (by omega)) ?_ | with_reducible refine Ev.bind (Ev.const rfl) ?_ | with_reducible refine Ev.neg (by simp) ?_
    try first | with_reducible refine Ev.pos (Int.natCast_nonneg _) ?_ | with_reducible refine Ev.pos rfl ?_ | with_reducible refine Ev.pos trivial ?_ | with_reducible refine Ev.bind (tx_ev _ (by omega) (by omega)) ?_ | with_reducible refine Ev.bind (Ev.const rfl) ?_ | with_reducible refine Ev.neg (by simp) ?_
    try first | with_reducible refine Ev.pos (Int.natCast_nonneg _) ?_ | with_reducible refine Ev.pos rfl ?_ | with_reducible refine Ev.pos trivial ?_ | with_reducible refine Ev.bind (tx_ev _ (by omega) (by omega)) ?_ | with_reducible refine Ev.bind (Ev.const rfl) ?_ | with_reducible refine Ev.neg (by simp) ?_
    try first | with_reducible refine Ev.pos (Int.natCast_nonneg _) ?_ | with_reducible refine Ev.pos rfl ?_ | with_reducible refine Ev.pos trivial ?_ | with_reducible refine Ev.bind (tx_ev _ (by omega) (by omega)) ?_ | with_reducible refine Ev.bind (Ev.const rfl) ?_ | with_reducible refine Ev.neg (by simp) ?_
    try first | with_reducible refine Ev.pos (Int.natCast_nonneg _) ?_ | with_reducible refine Ev.pos rfl ?_ | with_reducible refine Ev.pos trivial ?_ | with_reducible refine Ev.bind (tx_ev _ (by omega) (by omega)) ?_ | with_reducible refine Ev.bind (Ev.const rfl) ?_ | with_reducible refine Ev.neg (by simp) ?_
    try first | with_reducible refine Ev.pos (Int.natCast_nonneg _) ?_ | with_reducible refine Ev.pos rfl ?_ | with_reducible refine Ev.pos trivial ?_ | with_reducible refine Ev.bind (tx_ev _ (by omega) (by omega)) ?_ | with_reducible refine Ev.bind (Ev.const rfl) ?_ | with_reducible refine Ev.neg (by simp) ?_
    try simp only [rdm_IntS, set_mid]
    refine Ev.to (by simpa only [List.append_assoc, List.singleton_append] using hstep) ?_
    simp [Int.natCast_add]; try omega
theorem markIntS_ev (l : List Int) (m : Int) (h0 : 1 ≤ m) (h1 : m + 1 * (l.length : Int) ≤ 4611686018427387904) : Ev (fun k => laws_markIntS.f k l m) (m + 1 * (l.length : Int), mkIntS m l) := by
  unfold laws_markIntS.f
  have h := markIntS_l0 l [] m h0 ⟨h1, by simp; omega⟩
  simpa using h
theorem heldIntS_ev (l : List Int) (m : Int) (h0 : 1 ≤ m) (h1 : m + 1 * (l.length : Int) ≤ 4611686018427387904) : Ev (fun k => laws_heldIntS.f k (mkIntS m l) m) (m + 1 * (l.length : Int)) := by
  unfold laws_heldIntS.f
  have h := heldIntS_l0 l [] m h0 ⟨h1, by simp; omega⟩
  simpa using h
end Go.Proofs.Ytlmpbngndcagbaa.Fam

/- The helpers of the exact laws at the type Three, on lists and numbers: written by families.py (this session's program); no conditions beside the sizes that a row reads. -/
namespace Go.Proofs.Ytlmpbngndcagbaa.Fam
open Go.RowKit Go.Proofs.Ytlmpbngndcagbaa.G Go.Proofs.Ytlmpbngndcagbaa.PL Go.Proofs.Ytlmpbngndcagbaa.Ok Go.Proofs.YtlmpbngndcagbaaW.PrintWords Go.Proofs.YtlmpbngndcagbaaW.PrintLast Go.Proofs.YtlmpbngndcagbaaW.PrintMore
set_option linter.unusedVariables false
set_option linter.unusedSimpArgs false

theorem szThree_ev (x0 : Int) (x1 : Int) (x2 : List S54) (x3 : List S54) (x4 : List Int) (a : Int) (h0 : 0 ≤ a) (h1 : a ≤ 1048576) (o0 : okT42 x2) (o1 : okT42 x3) (o2 : okT43 x4) : Ev (fun k => laws_szThree.f k x0 x1 x2 x3 x4 a) (left a (szmItemS x2 + szmItemS x3 + szmIntS x4)) := by
  unfold laws_szThree.f
  refine Ev.bind (szItemS_ev x2 a (by omega) (by omega) o0) ?_
  by_cases c0 : ((szmItemS x2 : Nat) : Int) ≤ a
  rotate_left
  · rw [left_neg c0]
    refine Ev.pos (by omega) ?_
    exact Ev.const (congrArg some (left_neg (by omega)).symm)
  rw [left_pos c0]
  refine Ev.neg (by omega) ?_
  refine Ev.bind (szItemS_ev x3 (a - (szmItemS x2 : Nat)) (by omega) (by omega) o1) ?_
  by_cases c1 : ((szmItemS x3 : Nat) : Int) ≤ a - (szmItemS x2 : Nat)
  rotate_left
  · rw [left_neg c1]
    refine Ev.pos (by omega) ?_
    exact Ev.const (congrArg some (left_neg (by omega)).symm)
  rw [left_pos c1]
  refine Ev.neg (by omega) ?_
  refine Ev.bind (szIntS_ev x4 ((a - (szmItemS x2 : Nat)) - (szmItemS x3 : Nat)) (by omega) (by omega) o2) ?_
  by_cases c2 : ((szmIntS x4 : Nat) : Int) ≤ (a - (szmItemS x2 : Nat)) - (szmItemS x3 : Nat)
  rotate_left
  · rw [left_neg c2]
    refine Ev.pos (by omega) ?_
    exact Ev.const (congrArg some (left_neg (by omega)).symm)
  rw [left_pos c2]
  refine Ev.neg (by omega) ?_
  exact Ev.const (congrArg some (by rw [left_pos (by omega)]; omega))
theorem toThree_ev (x0 : Int) (x1 : Int) (x2 : List S54) (x3 : List S54) (x4 : List Int) (o_x2 : okT42 x2) (o_x3 : okT42 x3) (o_x4 : okT43 x4) : Ev (fun k => laws_toThree.f k x0 x1 x2 x3 x4) (x0, x1, (x2.map cvItem), (x3.map cvItem), x4) := by
  unfold laws_toThree.f
  refine Ev.bind (toItemS_ev x2 o_x2) ?_
  refine Ev.bind (toItemS_ev x3 o_x3) ?_
  refine Ev.bind (toIntS_ev x4 o_x4) ?_
  exact Ev.const rfl
theorem eqThree_ev (x0 : Int) (x1 : Int) (x2 : List S57) (x3 : List S57) (x4 : List Int) (o_x2 : x2.length ≤ 140737488351232) (o_x3 : x3.length ≤ 140737488351232) (o_x4 : x4.length ≤ 140737488351232) : Ev (fun k => laws_eqThree.f k x0 x1 x2 x3 x4 x0 x1 x2 x3 x4) true := by
  unfold laws_eqThree.f
  refine Ev.pos rfl ?_
  refine Ev.pos rfl ?_
  refine Ev.bind (eqItemS_ev x2 o_x2) ?_
  refine Ev.pos rfl ?_
  refine Ev.bind (eqItemS_ev x3 o_x3) ?_
  refine Ev.pos rfl ?_
  refine Ev.bind (eqIntS_ev x4 o_x4) ?_
  refine Ev.pos rfl ?_
  exact Ev.const rfl
end Go.Proofs.Ytlmpbngndcagbaa.Fam

/- Alike is the reference's: sizes and the three queues are the same; no conditions beside the sizes that a row reads. -/
namespace Go.Proofs.Ytlmpbngndcagbaa.Q
open Go.RowKit Go.Proofs.Ytlmpbngndcagbaa.G Go.Proofs.Ytlmpbngndcagbaa.PL Go.Proofs.Ytlmpbngndcagbaa.Ok Go.Proofs.Ytlmpbngndcagbaa.Fam Go.Proofs.YtlmpbngndcagbaaW.PrintWords Go.Proofs.YtlmpbngndcagbaaW.PrintLast
theorem item_ne (a b : S57) : (!((a.f0.toList) == (b.f0.toList)) || (!((a.f1.toList) == (b.f1.toList)) || (!(a.f2 == b.f2)))) = !decide (a = b) := by
  rw [bytes_beq, bytes_beq]
  cases a; cases b
  rw [Bool.eq_iff_iff]
  simp
theorem spec_l18Items_l0 (xs ys : List S57) (hl : xs.length = ys.length) (hb : xs.length ≤ 140737488351232) : ∀ (d i : Nat), i + d = xs.length →
    Ev (fun k => spec_l18Items.l0 k xs ys (xs.length : Int) i) (decide (xs.drop i = ys.drop i)) := by
  intro d
  induction d with
  | zero =>
    intro i hi
    rw [List.drop_of_length_le (by omega), List.drop_of_length_le (by omega)]
    refine Ev.step (fun _ => rfl) ?_
    simp only [spec_l18Items.l0]
    exact Ev.neg (by omega) (Ev.const rfl)
  | succ d ih =>
    intro i hi
    have hx : i < xs.length := by omega
    have hy : i < ys.length := by omega
    have ex : rd_T57 xs (i : Int) = xs[i] := getD_at hx _
    have ey : rd_T57 ys (i : Int) = ys[i] := getD_at hy _
    refine Ev.step (fun _ => rfl) ?_
    simp only [spec_l18Items.l0]
    rw [ex, ey, item_ne, wsucc (by omega), drop_at hx, drop_at hy, decide_cons]
    refine Ev.pos (by omega) (Ev.pos (by omega) (Ev.pos (by omega) (Ev.pos (by omega) ?_)))
    by_cases c : xs[i] = ys[i]
    · refine Ev.neg (by simp [c]) ?_
      rw [decide_eq_true c, Bool.true_and]
      exact ih (i + 1) (by omega)
    · refine Ev.pos (by simp [c]) (Ev.const ?_)
      rw [decide_eq_false c, Bool.false_and]
theorem spec_l18Items_ev (xs ys : List S57) (hb : xs.length ≤ 140737488351232) : Ev (fun k => spec_l18Items.f k xs ys) (decide (xs = ys)) := by
  unfold spec_l18Items.f
  by_cases c : xs.length = ys.length
  · exact Ev.pos (by omega) (spec_l18Items_l0 xs ys c hb xs.length 0 (by omega))
  · refine Ev.neg (by omega) (Ev.const ?_)
    have : ¬ xs = ys := fun h => c (by rw [h])
    rw [decide_eq_false this]
theorem slices_Equal_impl_Item_impl_Item_l0 (xs ys : List S57) (hl : xs.length = ys.length) (hb : xs.length ≤ 140737488351232) : ∀ (d i : Nat), i + d = xs.length →
    Ev (fun k => slices_Equal_impl_Item_impl_Item.l0 k xs ys (xs.length : Int) i) (decide (xs.drop i = ys.drop i)) := by
  intro d
  induction d with
  | zero =>
    intro i hi
    rw [List.drop_of_length_le (by omega), List.drop_of_length_le (by omega)]
    refine Ev.step (fun _ => rfl) ?_
    simp only [slices_Equal_impl_Item_impl_Item.l0]
    exact Ev.neg (by omega) (Ev.const rfl)
  | succ d ih =>
    intro i hi
    have hx : i < xs.length := by omega
    have hy : i < ys.length := by omega
    have ex : rd_T57 xs (i : Int) = xs[i] := getD_at hx _
    have ey : rd_T57 ys (i : Int) = ys[i] := getD_at hy _
    refine Ev.step (fun _ => rfl) ?_
    simp only [slices_Equal_impl_Item_impl_Item.l0]
    rw [ex, ey, item_ne, wsucc (by omega), drop_at hx, drop_at hy, decide_cons]
    refine Ev.pos (by omega) (Ev.pos (by omega) (Ev.pos (by omega) (Ev.pos (by omega) ?_)))
    by_cases c : xs[i] = ys[i]
    · refine Ev.neg (by simp [c]) ?_
      rw [decide_eq_true c, Bool.true_and]
      exact ih (i + 1) (by omega)
    · refine Ev.pos (by simp [c]) (Ev.const ?_)
      rw [decide_eq_false c, Bool.false_and]
theorem slices_Equal_impl_Item_impl_Item_ev (xs ys : List S57) (hb : xs.length ≤ 140737488351232) : Ev (fun k => slices_Equal_impl_Item_impl_Item.f k xs ys) (decide (xs = ys)) := by
  unfold slices_Equal_impl_Item_impl_Item.f
  by_cases c : xs.length = ys.length
  · exact Ev.pos (by omega) (slices_Equal_impl_Item_impl_Item_l0 xs ys c hb xs.length 0 (by omega))
  · refine Ev.neg (by omega) (Ev.const ?_)
    have : ¬ xs = ys := fun h => c (by rw [h])
    rw [decide_eq_false this]
theorem slices_Equal_int_int_l0 (xs ys : List Int) (hl : xs.length = ys.length) (hb : xs.length ≤ 140737488351232) : ∀ (d i : Nat), i + d = xs.length →
    Ev (fun k => slices_Equal_int_int.l0 k xs ys (xs.length : Int) i) (decide (xs.drop i = ys.drop i)) := by
  intro d
  induction d with
  | zero =>
    intro i hi
    rw [List.drop_of_length_le (by omega), List.drop_of_length_le (by omega)]
    refine Ev.step (fun _ => rfl) ?_
    simp only [slices_Equal_int_int.l0]
    exact Ev.neg (by omega) (Ev.const rfl)
  | succ d ih =>
    intro i hi
    have hx : i < xs.length := by omega
    have hy : i < ys.length := by omega
    have ex : rd xs (i : Int) = xs[i] := getD_at hx _
    have ey : rd ys (i : Int) = ys[i] := getD_at hy _
    refine Ev.step (fun _ => rfl) ?_
    simp only [slices_Equal_int_int.l0]
    rw [ex, ey, wsucc (by omega), drop_at hx, drop_at hy, decide_cons]
    refine Ev.pos (by omega) (Ev.pos (by omega) (Ev.pos (by omega) (Ev.pos (by omega) ?_)))
    by_cases c : xs[i] = ys[i]
    · refine Ev.pos c ?_
      rw [decide_eq_true c, Bool.true_and]
      exact ih (i + 1) (by omega)
    · refine Ev.neg c (Ev.const ?_)
      rw [decide_eq_false c, Bool.false_and]
theorem slices_Equal_int_int_ev (xs ys : List Int) (hb : xs.length ≤ 140737488351232) : Ev (fun k => slices_Equal_int_int.f k xs ys) (decide (xs = ys)) := by
  unfold slices_Equal_int_int.f
  by_cases c : xs.length = ys.length
  · exact Ev.pos (by omega) (slices_Equal_int_int_l0 xs ys c hb xs.length 0 (by omega))
  · refine Ev.neg (by omega) (Ev.const ?_)
    have : ¬ xs = ys := fun h => c (by rw [h])
    rw [decide_eq_false this]
def alike (c0 m0 : Int) (s0 a0 : List S57) (g0 : List Int) (c1 m1 : Int) (s1 a1 : List S57) (g1 : List Int) : Bool :=
  decide (c0 = c1) && (decide (m0 = m1) && (decide (s0 = s1) && (decide (a0 = a1) && decide (g0 = g1))))
theorem impl_Alike_ev (c0 m0 : Int) (s0 a0 : List S57) (g0 : List Int) (c1 m1 : Int) (s1 a1 : List S57) (g1 : List Int) (hs : s0.length ≤ 140737488351232) (ha : a0.length ≤ 140737488351232) (hg : g0.length ≤ 140737488351232) :
    Ev (fun k => impl_Alike.f k c0 m0 s0 a0 g0 c1 m1 s1 a1 g1) (alike c0 m0 s0 a0 g0 c1 m1 s1 a1 g1) := by
  unfold impl_Alike.f alike
  by_cases a : c0 = c1
  rotate_left
  · exact Ev.neg a (Ev.const (by simp [a]))
  refine Ev.pos a ?_
  by_cases b : m0 = m1
  rotate_left
  · exact Ev.neg b (Ev.const (by simp [b]))
  refine Ev.pos b ?_
  rw [decide_eq_true a, decide_eq_true b, Bool.true_and, Bool.true_and]
  refine Ev.bind (slices_Equal_impl_Item_impl_Item_ev s0 s1 hs) ?_
  cases c : decide (s0 = s1)
  · exact Ev.neg (by simp) (Ev.const (by simp))
  refine Ev.pos rfl ?_
  refine Ev.bind (slices_Equal_impl_Item_impl_Item_ev a0 a1 ha) ?_
  cases d : decide (a0 = a1)
  · exact Ev.neg (by simp) (Ev.const (by simp))
  refine Ev.pos rfl ?_
  refine Ev.bind (slices_Equal_int_int_ev g0 g1 hg) ?_
  exact Ev.const (by simp)
theorem spec_Alike_l0 (c0 m0 : Int) (s0 a0 : List S57) (xs : List Int) (c1 m1 : Int) (s1 a1 : List S57) (ys : List Int) (hl : xs.length = ys.length) (hb : xs.length ≤ 140737488351232) : ∀ (d i : Nat), i + d = xs.length →
    Ev (fun k => spec_Alike.l0 k (xs.length : Int) i c0 m0 s0 a0 xs c1 m1 s1 a1 ys) (decide (xs.drop i = ys.drop i)) := by
  intro d
  induction d with
  | zero =>
    intro i hi
    rw [List.drop_of_length_le (by omega), List.drop_of_length_le (by omega)]
    refine Ev.step (fun _ => rfl) ?_
    simp only [spec_Alike.l0]
    exact Ev.neg (by omega) (Ev.const rfl)
  | succ d ih =>
    intro i hi
    have hx : i < xs.length := by omega
    have hy : i < ys.length := by omega
    have ex : rd xs (i : Int) = xs[i] := getD_at hx _
    have ey : rd ys (i : Int) = ys[i] := getD_at hy _
    refine Ev.step (fun _ => rfl) ?_
    simp only [spec_Alike.l0]
    rw [ex, ey, wsucc (by omega), drop_at hx, drop_at hy, decide_cons]
    refine Ev.pos (by omega) (Ev.pos (by omega) (Ev.pos (by omega) (Ev.pos (by omega) ?_)))
    by_cases c : xs[i] = ys[i]
    · refine Ev.pos c ?_
      rw [decide_eq_true c, Bool.true_and]
      exact ih (i + 1) (by omega)
    · refine Ev.neg c (Ev.const ?_)
      rw [decide_eq_false c, Bool.false_and]
theorem spec_Alike_no (c0 m0 : Int) (s0 a0 : List S57) (g0 : List Int) (c1 m1 : Int) (s1 a1 : List S57) (g1 : List Int) : Ev (fun k => spec_Alike.j0 k true c0 m0 s0 a0 g0 c1 m1 s1 a1 g1) false := by
  refine Ev.step (fun _ => rfl) ?_
  simp only [spec_Alike.j0]
  exact Ev.pos trivial (Ev.const rfl)
theorem spec_Alike_ev (c0 m0 : Int) (s0 a0 : List S57) (g0 : List Int) (c1 m1 : Int) (s1 a1 : List S57) (g1 : List Int) (hs : s0.length ≤ 140737488351232) (ha : a0.length ≤ 140737488351232) (hg : g0.length ≤ 140737488351232) :
    Ev (fun k => spec_Alike.f k c0 m0 s0 a0 g0 c1 m1 s1 a1 g1) (alike c0 m0 s0 a0 g0 c1 m1 s1 a1 g1) := by
  unfold spec_Alike.f alike
  by_cases a : c0 = c1
  rotate_left
  · exact Ev.neg a (Ev.to (spec_Alike_no _ _ _ _ _ _ _ _ _ _) (by simp [a]))
  refine Ev.pos a ?_
  by_cases b : m0 = m1
  rotate_left
  · exact Ev.neg b (Ev.to (spec_Alike_no _ _ _ _ _ _ _ _ _ _) (by simp [b]))
  refine Ev.pos b ?_
  rw [decide_eq_true a, decide_eq_true b, Bool.true_and, Bool.true_and]
  refine Ev.bind (spec_l18Items_ev s0 s1 hs) ?_
  cases c : decide (s0 = s1)
  · exact Ev.neg (by simp) (Ev.to (spec_Alike_no _ _ _ _ _ _ _ _ _ _) (by simp))
  refine Ev.pos rfl ?_
  refine Ev.bind (spec_l18Items_ev a0 a1 ha) ?_
  cases d : decide (a0 = a1)
  · exact Ev.neg (by simp) (Ev.to (spec_Alike_no _ _ _ _ _ _ _ _ _ _) (by simp))
  refine Ev.pos rfl ?_
  rw [Bool.true_and, Bool.true_and]
  by_cases e : g0.length = g1.length
  · have e' : ((g0.length : Int) != (g1.length : Int)) = false := by simp [e]
    rw [e']
    refine Ev.step (fun _ => rfl) ?_
    simp only [spec_Alike.j0]
    refine Ev.neg (by simp) ?_
    exact spec_Alike_l0 _ _ _ _ g0 _ _ _ _ g1 e hg g0.length 0 (by omega)
  · have e' : ((g0.length : Int) != (g1.length : Int)) = true := by simp; omega
    rw [e']
    refine Ev.to (spec_Alike_no _ _ _ _ _ _ _ _ _ _) ?_
    have : ¬ g0 = g1 := fun h => e (by rw [h])
    rw [decide_eq_false this]
end Go.Proofs.Ytlmpbngndcagbaa.Q
namespace Go.Proofs.Ytlmpbngndcagbaa.Pure
open Go.RowKit Go.Proofs.Ytlmpbngndcagbaa.G Go.Proofs.Ytlmpbngndcagbaa.PL Go.Proofs.Ytlmpbngndcagbaa.Ok Go.Proofs.Ytlmpbngndcagbaa.Fam Go.Proofs.Ytlmpbngndcagbaa.Q Go.Proofs.YtlmpbngndcagbaaW.PrintWords Go.Proofs.YtlmpbngndcagbaaW.PrintLast Go.Proofs.Ytlmpbngndcagbaa.G.fnExactAlike
theorem FnExactAlike : FnExactAlike.Pure := by
  intro x0 x1 ⟨⟨_, _, o02, o03, o04⟩, ⟨_, _, o12, o13, o14⟩⟩
  apply Ev.rounds
  unfold laws_FnExactAlike.f
  have b02 := o02.2
  have b03 := o03.2
  have b04 := o04.2
  have b12 := o12.2
  have b13 := o13.2
  have b14 := o14.2
  refine Ev.bind (szThree_ev _ _ _ _ _ 1048576 (by omega) (by omega) o02 o03 o04) ?_
  generalize szmItemS x0.2.2.1 + szmItemS x0.2.2.2.1 + szmIntS x0.2.2.2.2 = m0
  by_cases c0 : (m0 : Int) ≤ 1048576
  rotate_left
  · rw [left_neg c0]; exact Ev.pos (by omega) (Ev.const rfl)
  rw [left_pos c0]
  refine Ev.neg (by omega) ?_
  refine Ev.bind (szThree_ev _ _ _ _ _ _ (by omega) (by omega) o12 o13 o14) ?_
  generalize szmItemS x1.2.2.1 + szmItemS x1.2.2.2.1 + szmIntS x1.2.2.2.2 = m1
  by_cases c1 : (m1 : Int) ≤ 1048576 - m0
  rotate_left
  · rw [left_neg c1]; exact Ev.pos (by omega) (Ev.const rfl)
  rw [left_pos c1]
  refine Ev.neg (by omega) ?_
  have l02 : (x0.2.2.1.map cvItem).length ≤ 140737488351232 := by rw [List.length_map]; omega
  have l03 : (x0.2.2.2.1.map cvItem).length ≤ 140737488351232 := by rw [List.length_map]; omega
  have l12 : (x1.2.2.1.map cvItem).length ≤ 140737488351232 := by rw [List.length_map]; omega
  have l13 : (x1.2.2.2.1.map cvItem).length ≤ 140737488351232 := by rw [List.length_map]; omega
  have l04 : x0.2.2.2.2.length ≤ 140737488351232 := by omega
  have l14 : x1.2.2.2.2.length ≤ 140737488351232 := by omega
  refine Ev.bind (toThree_ev _ _ _ _ _ o02 o03 o04) ?_
  refine Ev.bind (toThree_ev _ _ _ _ _ o12 o13 o14) ?_
  refine Ev.bind (spec_Alike_ev _ _ _ _ _ _ _ _ _ _ l02 l03 l04) ?_
  refine Ev.bind (toThree_ev _ _ _ _ _ o02 o03 o04) ?_
  refine Ev.bind (toThree_ev _ _ _ _ _ o12 o13 o14) ?_
  refine Ev.bind (impl_Alike_ev _ _ _ _ _ _ _ _ _ _ l02 l03 l04) ?_
  refine Ev.neg (by simp) ?_
  refine Ev.bind (toThree_ev _ _ _ _ _ o02 o03 o04) ?_
  refine Ev.bind (eqThree_ev _ _ _ _ _ l02 l03 l04) ?_
  refine Ev.pos rfl ?_
  refine Ev.bind (toThree_ev _ _ _ _ _ o12 o13 o14) ?_
  refine Ev.bind (eqThree_ev _ _ _ _ _ l12 l13 l14) ?_
  refine Ev.pos rfl ?_
  exact Ev.const rfl
end Go.Proofs.Ytlmpbngndcagbaa.Pure

-- written by gen.py's rowgen (this session's program)
namespace Go.Proofs.Ytlmpbngndcagbaa.fnExactAlike
open Go.ChangeShapes Go.WideShapes Go.ChangeAt Go.RowKit Go.Proofs.Ytlmpbngndcagbaa.Open Go.Proofs.Ytlmpbngndcagbaa.Ok Go.Proofs.Ytlmpbngndcagbaa.G.fnExactAlike Go.Proofs.Ytlmpbngndcagbaa.G Go.Proofs.YtlmpbngndcagbaaW.PrintWords
set_option linter.unusedVariables false
theorem own : ownKnob Try.prog.godebug = none := by kernel_rfl
theorem laidOut : laidOutB Try.prog = true := by kernel_rfl
set_option maxRecDepth 100000 in
set_option maxHeartbeats 2000000 in
theorem lifted (pure : FnExactAlike.Pure) (os : Os) (started : os.Started) (H : Type) (enc : TypeId × Value → H) :
    ReturnsInHanded {} Try.checked os 6 .any (Rows.fnExactAlikeSpec.pre6 enc Try.prog Try.f6 Rows.fnExactAlikeRow.domain false) (Rows.fnExactAlikeSpec.post enc Try.prog Try.f6 false true false false) := by
  refine returnsInHanded_of_change_sized (C := Try.checked) own started (by kernel_rfl) Try.func6
    (ChangeSpec.witness6 (enc := enc) (C := Try.checked) false ⟨#[], #[.agg #[.int .i64 0, .int .i64 0, .slice none 0 0, .slice none 0 0, .slice none 0 0], .agg #[.int .i64 0, .int .i64 0, .slice none 0 0, .slice none 0 0, .slice none 0 0]], []⟩ 8 (by kernel_rfl) (by kernel_rfl) (by kernel_rfl) (by kernel_rfl)) ?_
  intro W base args ds gs before hval0 hW hcnd hsz0 _
  have hsz : (DataW.weightsEach Try.prog (Try.f6.params.toList ++ Rows.fnExactAlikeSpec.plain.varTypes Try.prog) (ds ++ gs)).all (· ≤ reachBytes) = true := hsz0
  have hval : ∀ (j : Nat) t v, Try.f6.params[j]? = some t → args[j]? = some v → Value.okWide Try.prog W .any base t v := hval0
  have hW' := hW
  obtain ⟨p, q, hA0, hV, rfl, hfz, hnd⟩ := hW
  have hA : DataW.TrodAll enc Try.prog W 0 (fun _ => true) true Try.f6.params.toList args.toList ds p := hA0
  rw [Try.params6] at hA hval hsz
  obtain ⟨v0, vs0, d0, ds0, p0, q0, hargs, rfl, rfl, h0, r0⟩ := trodAll_cons hA
  obtain ⟨v1, vs1, d1, ds1, p1, q1, rfl, rfl, rfl, h1, r1⟩ := trodAll_cons r0
  obtain ⟨rfl, rfl, rfl⟩ := trodAll_nil r1
  obtain rfl : args = #[v0, v1] := by cases args; simp_all
  obtain ⟨rfl, rfl⟩ := trodVars_none hV
  have k0 := h0
  have lt0 : ∀ x ∈ p0, x.block < W.heap.size := by obtain ⟨m, hm⟩ := k0; exact DataW.trod_lt m _ _ _ hm
  obtain ⟨fuel0, hf0⟩ := h0
  obtain ⟨x0, hK0, ok0⟩ := opn45 H enc W fuel0 _ _ _ hf0 (weights_of hsz (j := 0) (t := 45) rfl rfl)
  obtain ⟨cs0, rfl, _⟩ := okWide_struct Try.underlying45 (hval 0 45 v0 rfl rfl)
  have hK0' : (Kd.pair (Kd.int .i64) (Kd.pair (Kd.int .i64) (Kd.pair (Kd.slice 54 k54) (Kd.pair (Kd.slice 54 k54) (Kd.slice 3 (Kd.int .i64)))))).K W x0 cs0.toList := hK0
  obtain ⟨_, _, hcs0, rfl, ⟨_, _, rfl, rfl, ⟨_, _, rfl, ⟨A0_0, c0_0, rfl, hl0_0, hC0_0⟩, ⟨_, _, rfl, ⟨A0_1, c0_1, rfl, hl0_1, hC0_1⟩, ⟨A0_2, c0_2, rfl, hl0_2, hC0_2⟩⟩⟩⟩⟩ := hK0'
  obtain rfl : cs0 = #[.int .i64 x0.1, .int .i64 x0.2.1, .slice A0_0 x0.2.2.1.length c0_0, .slice A0_1 x0.2.2.2.1.length c0_1, .slice A0_2 x0.2.2.2.2.length c0_2] := by apply Array.toList_inj.1; rw [hcs0]; rfl
  have k1 := h1
  have lt1 : ∀ x ∈ p1, x.block < W.heap.size := by obtain ⟨m, hm⟩ := k1; exact DataW.trod_lt m _ _ _ hm
  obtain ⟨fuel1, hf1⟩ := h1
  obtain ⟨x1, hK1, ok1⟩ := opn45 H enc W fuel1 _ _ _ hf1 (weights_of hsz (j := 1) (t := 45) rfl rfl)
  obtain ⟨cs1, rfl, _⟩ := okWide_struct Try.underlying45 (hval 1 45 v1 rfl rfl)
  have hK1' : (Kd.pair (Kd.int .i64) (Kd.pair (Kd.int .i64) (Kd.pair (Kd.slice 54 k54) (Kd.pair (Kd.slice 54 k54) (Kd.slice 3 (Kd.int .i64)))))).K W x1 cs1.toList := hK1
  obtain ⟨_, _, hcs1, rfl, ⟨_, _, rfl, rfl, ⟨_, _, rfl, ⟨A1_0, c1_0, rfl, hl1_0, hC1_0⟩, ⟨_, _, rfl, ⟨A1_1, c1_1, rfl, hl1_1, hC1_1⟩, ⟨A1_2, c1_2, rfl, hl1_2, hC1_2⟩⟩⟩⟩⟩ := hK1'
  obtain rfl : cs1 = #[.int .i64 x1.1, .int .i64 x1.2.1, .slice A1_0 x1.2.2.1.length c1_0, .slice A1_1 x1.2.2.2.1.length c1_1, .slice A1_2 x1.2.2.2.2.length c1_2] := by apply Array.toList_inj.1; rw [hcs1]; rfl
  clear hA0 hval0 hsz0 hsz
  obtain ⟨k, hk⟩ := pure x0 x1 ⟨ok0, ok1⟩
  refine (Go.Proofs.Ytlmpbngndcagbaa.G.laws_FnExactAlike.calls k x0.1 x0.2.1 A0_0 c0_0 x0.2.2.1 A0_1 c0_1 x0.2.2.2.1 A0_2 c0_2 x0.2.2.2.2 x1.1 x1.2.1 A1_0 c1_0 x1.2.2.1 A1_1 c1_1 x1.2.2.2.1 A1_2 c1_2 x1.2.2.2.2 true W hC0_0 hl0_0 hC0_1 hl0_1 hC0_2 hl0_2 hC1_0 hl1_0 hC1_1 hl1_1 hC1_2 hl1_2 hk).mono fun e W' ⟨he, bel⟩ => ?_
  subst he
  exact ⟨_, rfl, _, _, _, [], _, [], hW', trodAll_mk1 (shut_bool Try.underlying4 _), (trodAll_cons_mk (Below.trod laidOut (by kernel_rfl) (of_decide_eq_true (by kernel_rfl)) k0 bel lt0) (trodAll_cons_mk (Below.trod laidOut (by kernel_rfl) (of_decide_eq_true (by kernel_rfl)) k1 bel lt1) trodAll_mk0)), rfl, bel.frame _, fun h => by cases h⟩
theorem over (pure : FnExactAlike.Pure) : Rows.fnExactAlikeRow.holds Try.pinned (OpenSpec.ofChange Rows.fnExactAlikeSpec) :=
  OpenClaim.holds_of_wide 6 Try.f6 rfl rfl rfl rfl rfl rfl rfl ⟨rfl, rfl, rfl, rfl, rfl⟩ rfl rfl rfl rfl rfl (by kernel_rfl) Try.func6 (by kernel_rfl)
    (of_decide_eq_true (by kernel_rfl)) (by unfold Func.isWrapper; first | (rw [if_pos (by decide +kernel)]; kernel_rfl) | (rw [if_neg (by decide +kernel)]; exact ⟨rfl, rfl⟩))
    (fun os started H enc _ => lifted pure os started H enc)
end Go.Proofs.Ytlmpbngndcagbaa.fnExactAlike
namespace Go.Proofs.Ytlmpbngndcagbaa
/-- The row, for the claim. -/
theorem fnExactAlike_holds : Rows.FnExactAlikeSaid := fnExactAlike.over Pure.FnExactAlike
#print axioms fnExactAlike_holds
end Go.Proofs.Ytlmpbngndcagbaa
