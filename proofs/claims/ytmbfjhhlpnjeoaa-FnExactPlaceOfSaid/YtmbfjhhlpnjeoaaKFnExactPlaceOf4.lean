/- Part 4 of the claim FnExactPlaceOf, merged by pack.py (this session's program) out of: the print's words, cut to what is needed; texts that gen.py printed (it runs the kit's print in place); texts of this session. -/
import Derived.Test.YtmbfjhhlpnjeoaaKFnExactPlaceOf1
import Derived.Test.YtmbfjhhlpnjeoaaKFnExactPlaceOf3
namespace Go.Proofs.Ytmbfjhhlpnjeoaa.G
open Go.RowKit Go.Proofs.YtmbfjhhlpnjeoaaW.PrintWords Go.Proofs.YtmbfjhhlpnjeoaaW.PrintLast Go.Proofs.YtmbfjhhlpnjeoaaW.PrintMore Go.Proofs.Ytmbfjhhlpnjeoaa.Sh
attribute [local go_sem] max2_int min2_int max_two min_two max_three min_three max_four min_four
set_option linter.unusedVariables false
set_option linter.unusedSimpArgs false
def laws_eqUserS.l0 : Nat → List (S142) → List (S142) → Int → Option (Bool)
  | 0, _, _, _ => none
  | k + 1, x0, x1, x5 => if x5 < (x0.length : Int) then (if 0 ≤ x5 then (if x5 < (x1.length : Int) then ((laws_eqUser.f k ((rd_T142 x0 x5).f0) ((rd_T142 x0 x5).f1) ((rd_T142 x0 x5).f2) ((rd_T142 x0 x5).f3) ((rd_T142 x0 x5).f4) ((rd_T142 x1 x5).f0) ((rd_T142 x1 x5).f1) ((rd_T142 x1 x5).f2) ((rd_T142 x1 x5).f3) ((rd_T142 x1 x5).f4)).bind fun t759 => (if t759 = true then (laws_eqUserS.l0 k x0 x1 (wrap64 (x5 + 1))) else (none))) else (none)) else (none)) else (some true)
def laws_eqUserS.f (k : Nat) (l0 : List (S142)) (l1 : List (S142)) : Option (Bool) := if (l0.length : Int) = (l1.length : Int) then (laws_eqUserS.l0 k l0 l1 0) else (none)
theorem laws_eqUserS.mono_l : ∀ k, (∀ y0 y1 y2, LeO (laws_eqUserS.l0 k y0 y1 y2) (laws_eqUserS.l0 (k + 1) y0 y1 y2))
  | 0 => fun _ _ _ r h => by simp [laws_eqUserS.l0] at h
  | k + 1 => by
    have ih0 := laws_eqUserS.mono_l k
    · intro y0 y1 y2
      unfold laws_eqUserS.l0
      repeat' first
      | (with_reducible exact ih0 _ _ _)
      | (with_reducible exact laws_eqUser.mono _ _ _ _ _ _ _ _ _ _ _)
      | (with_reducible exact LeO.refl _)
      | (with_reducible exact LeO.none _)
      | (with_reducible refine LeO.ite ?_ ?_)
      | (with_reducible refine LeO.bind ?_ (fun _ => ?_))
      | exact ih0 _ _ _
      | exact laws_eqUser.mono _ _ _ _ _ _ _ _ _ _ _
      | exact LeO.none _
      | refine LeO.ite ?_ ?_
      | refine LeO.bind ?_ (fun _ => ?_)
theorem laws_eqUserS.mono : ∀ a0 a1 k, LeO (laws_eqUserS.f k a0 a1) (laws_eqUserS.f (k + 1) a0 a1) := by
  intro a0 a1 k
  have ih0 := laws_eqUserS.mono_l k
  unfold laws_eqUserS.f
  repeat' first
      | (with_reducible exact ih0 _ _ _)
      | (with_reducible exact laws_eqUser.mono _ _ _ _ _ _ _ _ _ _ _)
      | (with_reducible exact LeO.refl _)
      | (with_reducible exact LeO.none _)
      | (with_reducible refine LeO.ite ?_ ?_)
      | (with_reducible refine LeO.bind ?_ (fun _ => ?_))
      | exact ih0 _ _ _
      | exact laws_eqUser.mono _ _ _ _ _ _ _ _ _ _ _
      | exact LeO.none _
      | refine LeO.ite ?_ ?_
      | refine LeO.bind ?_ (fun _ => ?_)
def laws_eqUserS.T6 : Bool × List (List Nat × List Nat) := (true, [([], []), ([], []), ([0, 1], [0, 1]), ([2], [2]), ([], []), ([], []), ([4, 5], [4, 5]), ([6], [6]), ([3, 7], [3, 7]), ([8], [8])])
def laws_eqUserS.B6 : List Nat := [0, 0, 3, 7, 0, 0, 48, 112, 255, 511]
theorem laws_eqUserS.tab6 : rtab .any (opsOf Try.f100 6) = laws_eqUserS.T6 := by kernel_rfl
theorem laws_eqUserS.bits6 : waitsOk laws_eqUserS.T6.2 laws_eqUserS.B6 = true := by kernel_rfl
set_option maxHeartbeats 8000000 in
set_option maxRecDepth 100000 in
theorem laws_eqUserS.calls (k : Nat) (A0 : Option Addr) (c0 : Nat) (l0 : List (S142)) (A1 : Option Addr) (c1 : Nat) (l1 : List (S142)) (r : Bool) (w : World) (hr0 : Kd.C k142 w A0 l0.length l0) (hc0 : l0.length ≤ c0) (hr1 : Kd.C k142 w A1 l1.length l1) (hc1 : l1.length ≤ c1) (h : laws_eqUserS.f k l0 l1 = some r) :
    Calls Try.prog 100 #[.slice A0 l0.length c0, .slice A1 l1.length c1] w fun e w' => e = .returned (.bool r) ∧ Below w.heap.size w w' := by
  have hu142 := Try.underlying142
  have HR0 := Aside0.mk hr0
  have HC0 := Aside0.mk hc0
  clear hr0 hc0
  have HR1 := Aside0.mk hr1
  have HC1 := Aside0.mk hc1
  clear hr1 hc1
  have HB := Aside0.mk (Below.refl w.heap.size w)
  have H : (if (l0.length : Int) = (l1.length : Int) then (laws_eqUserS.l0 k l0 l1 0) else (none)) = some r := h
  clear h
  by_cases c3 : (l0.length : Int) = (l1.length : Int)
  · rw [if_pos c3] at H
    have c3b0 : ((l0.length : Int) == (l1.length : Int)) = true := beq_iff_eq.mpr c3
    have c3b1 : ((l0.length : Int) != (l1.length : Int)) = false := bne_eq_false_iff_eq.mpr c3
    have c3b2 : (l0.length == l1.length) = true := by first | simpa using c3 | (simp at c3 ⊢; omega)
    clear c3
    have H' := Aside0.mk H
    clear H
    go_enter Try.func100, Try.ntmps100
    go_wp2
    go_loopg [5] k (fun kq v5 w' => ∃ (x5_1 : Int), v5 = .int .i64 x5_1 ∧ Aside0 (laws_eqUserS.l0 kq l0 l1 x5_1 = some r) ∧ Aside0 (kq ≤ k) ∧ Aside0 (Below w.heap.size w w'))
    case atStart => exact ⟨(0), RS, H', ⟨Nat.le_refl _⟩, ⟨by repeat (first | (with_reducible first | exact HB.out | apply below_alloc | apply pw_below_drewN | apply below_drew1) | exact HB.out)⟩⟩
    case round =>
      clear H'
      try clear c1
      try clear p2
      try clear c3
      try clear c3b0
      try clear c3b1
      try clear c3b2
      obtain ⟨x5_1, rfl, HA, HK1, HB⟩ := hrel
      cases gk with
      | zero => exact absurd HA.out (by simp [laws_eqUserS.l0])
      | succ k1 =>
        have H := HA.out
        clear HA
        simp only [laws_eqUserS.l0] at H
        by_cases c4 : x5_1 < (l0.length : Int)
        · rw [if_pos c4] at H
          have c4b0 : decide (x5_1 < (l0.length : Int)) = true := decide_eq_true c4
          clear c4
          by_cases c5 : 0 ≤ x5_1
          · rw [if_pos c5] at H
            have c5b0 : decide (0 ≤ x5_1) = true := decide_eq_true c5
            clear c5
            by_cases c6 : x5_1 < (l1.length : Int)
            · rw [if_pos c6] at H
              have c6b0 : decide (x5_1 < (l1.length : Int)) = true := decide_eq_true c6
              clear c6
              replace H := Option.bind_eq_some_iff.mp H
              obtain ⟨t759, A70, H⟩ := H
              replace H : (if t759 = true then (laws_eqUserS.l0 k1 l0 l1 (wrap64 (x5_1 + 1))) else (none)) = some r := H
              have A7 := Aside0.mk A70
              clear A70
              by_cases c8 : t759 = true
              · subst c8
                have H1 : (laws_eqUserS.l0 k1 l0 l1 (wrap64 (x5_1 + 1))) = some r := by rw [if_pos rfl] at H; exact H
                clear H
                have H := H1
                clear H1
                have H' := Aside0.mk H
                clear H
                try go_wp2
                have n0_ := Aside0.mk (below_drew1 HB.out)
                clear HB
                have HB := n0_
                clear n0_
                have p757 : 0 ≤ (x5_1 : Int) := of_decide_eq_true AS
                have q757 : x5_1 < (l0.length : Int) := of_decide_eq_true AS
                obtain ⟨ad757, A757_0, c757_0, A757_4, c757_4, e757, hx757_0, hx757_1, hx757_2, hx757_3, hx757_4, hl757_0, hi757_0, hl757_4, hi757_4⟩ := at_T142 HR0.out x5_1 p757 q757
                have hw757_4 := hx757_4
                have hw757_3 := hx757_3
                have hw757_2 := hx757_2
                have hw757_1 := hx757_1
                have hw757_0 := hx757_0
                cases e757
                replace hx757_0 := (HB.out.cell (World.block_lt_of_cell? w _ hx757_0)).trans hx757_0
                replace hx757_1 := (HB.out.cell (World.block_lt_of_cell? w _ hx757_1)).trans hx757_1
                replace hx757_2 := (HB.out.cell (World.block_lt_of_cell? w _ hx757_2)).trans hx757_2
                replace hx757_3 := (HB.out.cell (World.block_lt_of_cell? w _ hx757_3)).trans hx757_3
                replace hx757_4 := (HB.out.cell (World.block_lt_of_cell? w _ hx757_4)).trans hx757_4
                have HR757_0 := Aside0.mk hi757_0
                have HC757_0 := Aside0.mk hl757_0
                clear hi757_0 hl757_0
                have HR757_4 := Aside0.mk hi757_4
                have HC757_4 := Aside0.mk hl757_4
                clear hi757_4 hl757_4
                replace p757 := eq_true p757
                replace q757 := eq_true q757
                have p758 : 0 ≤ (x5_1 : Int) := of_decide_eq_true AS
                have q758 : x5_1 < (l1.length : Int) := of_decide_eq_true AS
                obtain ⟨ad758, A758_0, c758_0, A758_4, c758_4, e758, hx758_0, hx758_1, hx758_2, hx758_3, hx758_4, hl758_0, hi758_0, hl758_4, hi758_4⟩ := at_T142 HR1.out x5_1 p758 q758
                have hw758_4 := hx758_4
                have hw758_3 := hx758_3
                have hw758_2 := hx758_2
                have hw758_1 := hx758_1
                have hw758_0 := hx758_0
                cases e758
                replace hx758_0 := (HB.out.cell (World.block_lt_of_cell? w _ hx758_0)).trans hx758_0
                replace hx758_1 := (HB.out.cell (World.block_lt_of_cell? w _ hx758_1)).trans hx758_1
                replace hx758_2 := (HB.out.cell (World.block_lt_of_cell? w _ hx758_2)).trans hx758_2
                replace hx758_3 := (HB.out.cell (World.block_lt_of_cell? w _ hx758_3)).trans hx758_3
                replace hx758_4 := (HB.out.cell (World.block_lt_of_cell? w _ hx758_4)).trans hx758_4
                have HR758_0 := Aside0.mk hi758_0
                have HC758_0 := Aside0.mk hl758_0
                clear hi758_0 hl758_0
                have HR758_4 := Aside0.mk hi758_4
                have HC758_4 := Aside0.mk hl758_4
                clear hi758_4 hl758_4
                replace p758 := eq_true p758
                replace q758 := eq_true q758
                refine start_ (n := 10) (S := fun w' => w'.cell? (ad757.add ((x5_1).toNat * 5)) = some (.slice A757_0 ((rd_T142 l0 x5_1).f0).length c757_0) ∧ w'.cell? ⟨(ad757.add ((x5_1).toNat * 5)).block, (ad757.add ((x5_1).toNat * 5)).off + 1, none⟩ = some (.int .i64 ((rd_T142 l0 x5_1).f1)) ∧ w'.cell? ⟨(ad757.add ((x5_1).toNat * 5)).block, (ad757.add ((x5_1).toNat * 5)).off + 2, none⟩ = some (.int .i64 ((rd_T142 l0 x5_1).f2)) ∧ w'.cell? ⟨(ad757.add ((x5_1).toNat * 5)).block, (ad757.add ((x5_1).toNat * 5)).off + 3, none⟩ = some (.int .i64 ((rd_T142 l0 x5_1).f3)) ∧ w'.cell? ⟨(ad757.add ((x5_1).toNat * 5)).block, (ad757.add ((x5_1).toNat * 5)).off + 4, none⟩ = some (.slice A757_4 ((rd_T142 l0 x5_1).f4).length c757_4) ∧ w'.cell? (ad758.add ((x5_1).toNat * 5)) = some (.slice A758_0 ((rd_T142 l1 x5_1).f0).length c758_0) ∧ w'.cell? ⟨(ad758.add ((x5_1).toNat * 5)).block, (ad758.add ((x5_1).toNat * 5)).off + 1, none⟩ = some (.int .i64 ((rd_T142 l1 x5_1).f1)) ∧ w'.cell? ⟨(ad758.add ((x5_1).toNat * 5)).block, (ad758.add ((x5_1).toNat * 5)).off + 2, none⟩ = some (.int .i64 ((rd_T142 l1 x5_1).f2)) ∧ w'.cell? ⟨(ad758.add ((x5_1).toNat * 5)).block, (ad758.add ((x5_1).toNat * 5)).off + 3, none⟩ = some (.int .i64 ((rd_T142 l1 x5_1).f3)) ∧ w'.cell? ⟨(ad758.add ((x5_1).toNat * 5)).block, (ad758.add ((x5_1).toNat * 5)).off + 4, none⟩ = some (.slice A758_4 ((rd_T142 l1 x5_1).f4).length c758_4)) (ds := []) #[false, false, false, false, false, false, false, false, false, false] (by kernel_rfl) rfl rfl ⟨((HB.out.cell (World.block_lt_of_cell? w _ hw757_0)).trans hw757_0), ((HB.out.cell (World.block_lt_of_cell? w _ hw757_1)).trans hw757_1), ((HB.out.cell (World.block_lt_of_cell? w _ hw757_2)).trans hw757_2), ((HB.out.cell (World.block_lt_of_cell? w _ hw757_3)).trans hw757_3), ((HB.out.cell (World.block_lt_of_cell? w _ hw757_4)).trans hw757_4), ((HB.out.cell (World.block_lt_of_cell? w _ hw758_0)).trans hw758_0), ((HB.out.cell (World.block_lt_of_cell? w _ hw758_1)).trans hw758_1), ((HB.out.cell (World.block_lt_of_cell? w _ hw758_2)).trans hw758_2), ((HB.out.cell (World.block_lt_of_cell? w _ hw758_3)).trans hw758_3), ((HB.out.cell (World.block_lt_of_cell? w _ hw758_4)).trans hw758_4)⟩ (fun hHeld => ?_); refine with_tabW laws_eqUserS.tab6 laws_eqUserS.bits6 (fun HT_ HW_ => ?_)
                generalize wr.drew = w9 at HB HR757_0 HR757_4 HR758_0 HR758_4 hx757_0 hx757_1 hx757_2 hx757_3 hx757_4 hx758_0 hx758_1 hx758_2 hx758_3 hx758_4 hHeld ⊢
                refine pure_ (i := 0) (N := some 17) (v := ?_) (a' := ?_) #[true, false, false, false, false, false, false, false, false, false] rfl rfl (any_of HT_.out (by kernel_rfl)) (fun _ _ _ h => h) (Or.inl ⟨by rfl, ?_⟩) ?_ ?_
                rotate_left
                · intro w'
                  go_simp
                  with_reducible rfl
                rotate_left
                · simp only [Act.put, List.setIfInBounds_toArray, List.set_cons_zero, List.set_cons_succ, i64_w, i32_w]
                  rfl
                refine pure_ (i := 1) (N := some 18) (v := ?_) (a' := ?_) #[true, true, false, false, false, false, false, false, false, false] rfl rfl (any_of HT_.out (by kernel_rfl)) (fun _ _ _ h => h) (Or.inl ⟨by rfl, ?_⟩) ?_ ?_
                rotate_left
                · intro w'
                  go_simp
                  with_reducible rfl
                rotate_left
                · simp only [Act.put, List.setIfInBounds_toArray, List.set_cons_zero, List.set_cons_succ, i64_w, i32_w]
                  rfl
                refine pure_ (i := 2) (N := some 19) (v := ?_) (a' := ?_) #[true, true, true, false, false, false, false, false, false, false] rfl rfl (any_of HT_.out (by kernel_rfl)) (fun _ _ _ h => h) (Or.inl ⟨by rfl, ?_⟩) ?_ ?_
                rotate_left
                · intro w'
                  go_simp
                  with_reducible rfl
                rotate_left
                · simp only [Act.put, List.setIfInBounds_toArray, List.set_cons_zero, List.set_cons_succ, i64_w, i32_w]
                  rfl
                refine pure_ (i := 4) (N := some 21) (v := ?_) (a' := ?_) #[true, true, true, false, true, false, false, false, false, false] rfl rfl (any_of HT_.out (by kernel_rfl)) (fun _ _ _ h => h) (Or.inl ⟨by rfl, ?_⟩) ?_ ?_
                rotate_left
                · intro w'
                  go_simp
                  with_reducible rfl
                rotate_left
                · simp only [Act.put, List.setIfInBounds_toArray, List.set_cons_zero, List.set_cons_succ, i64_w, i32_w]
                  rfl
                refine pure_ (i := 5) (N := some 22) (v := ?_) (a' := ?_) #[true, true, true, false, true, true, false, false, false, false] rfl rfl (any_of HT_.out (by kernel_rfl)) (fun _ _ _ h => h) (Or.inl ⟨by rfl, ?_⟩) ?_ ?_
                rotate_left
                · intro w'
                  go_simp
                  with_reducible rfl
                rotate_left
                · simp only [Act.put, List.setIfInBounds_toArray, List.set_cons_zero, List.set_cons_succ, i64_w, i32_w]
                  rfl
                refine pure_ (i := 6) (N := some 23) (v := ?_) (a' := ?_) #[true, true, true, false, true, true, true, false, false, false] rfl rfl (any_of HT_.out (by kernel_rfl)) (fun _ _ _ h => h) (Or.inl ⟨by rfl, ?_⟩) ?_ ?_
                rotate_left
                · intro w'
                  go_simp
                  with_reducible rfl
                rotate_left
                · simp only [Act.put, List.setIfInBounds_toArray, List.set_cons_zero, List.set_cons_succ, i64_w, i32_w]
                  rfl
                refine take_ (i := 3) (N := some 20) (v := ?_) (a' := ?_) #[true, true, true, true, true, true, true, false, false, false] rfl rfl (take_ofW HT_.out HW_.out (by kernel_rfl)) (fun _ _ _ h => h) (Or.inl ⟨by rfl, ?_⟩) hHeld ?_ ?_
                rotate_left
                · rintro w' ⟨s0, s1, s2, s3, s4, s5, s6, s7, s8, s9⟩
                  go_simp
                  with_reducible rfl
                rotate_left
                · simp only [Act.put, List.setIfInBounds_toArray, List.set_cons_zero, List.set_cons_succ, i64_w, i32_w]
                  rfl
                refine take_ (i := 7) (N := some 24) (v := ?_) (a' := ?_) #[true, true, true, true, true, true, true, true, false, false] rfl rfl (take_ofW HT_.out HW_.out (by kernel_rfl)) (fun _ _ _ h => h) (Or.inl ⟨by rfl, ?_⟩) hHeld ?_ ?_
                rotate_left
                · rintro w' ⟨s0, s1, s2, s3, s4, s5, s6, s7, s8, s9⟩
                  go_simp
                  with_reducible rfl
                rotate_left
                · simp only [Act.put, List.setIfInBounds_toArray, List.set_cons_zero, List.set_cons_succ, i64_w, i32_w]
                  rfl
                refine one_ (i := 8) (N := some 25) #[true, true, true, true, true, true, true, true, true, false] rfl rfl (one_of HT_.out (by kernel_rfl)) (by decide) (fun K hK => ?_)
                refine goes_ Try.func154 (by kernel_rfl) rfl #[.agg #[.slice A757_0 ((rd_T142 l0 x5_1).f0).length c757_0, .int .i64 ((rd_T142 l0 x5_1).f1), .int .i64 ((rd_T142 l0 x5_1).f2), .int .i64 ((rd_T142 l0 x5_1).f3), .slice A757_4 ((rd_T142 l0 x5_1).f4).length c757_4], .agg #[.slice A758_0 ((rd_T142 l1 x5_1).f0).length c758_0, .int .i64 ((rd_T142 l1 x5_1).f1), .int .i64 ((rd_T142 l1 x5_1).f2), .int .i64 ((rd_T142 l1 x5_1).f3), .slice A758_4 ((rd_T142 l1 x5_1).f4).length c758_4]] (by rfl) rfl rfl AQ ?_
                with_reducible refine (laws_eqUser.calls k1 _ _ ((rd_T142 l0 x5_1).f0) ((rd_T142 l0 x5_1).f1) ((rd_T142 l0 x5_1).f2) ((rd_T142 l0 x5_1).f3) _ _ ((rd_T142 l0 x5_1).f4) _ _ ((rd_T142 l1 x5_1).f0) ((rd_T142 l1 x5_1).f1) ((rd_T142 l1 x5_1).f2) ((rd_T142 l1 x5_1).f3) _ _ ((rd_T142 l1 x5_1).f4) true _ ?side1 ?side2 ?side3 ?side4 ?side5 ?side6 ?side7 ?side8 A7.out).mono ?_
                (case side1 => repeat (first | exact (Kd.C_below HR757_0.out HB.out) | (with_reducible refine Kd.C_alloc ?_ _) | (with_reducible refine Kd.C_drewN ?_ _) | (with_reducible refine Kd.C_drew ?_)))
                (case side2 => exact HC757_0.out)
                (case side3 => repeat (first | exact (Kd.C_below HR757_4.out HB.out) | (with_reducible refine Kd.C_alloc ?_ _) | (with_reducible refine Kd.C_drewN ?_ _) | (with_reducible refine Kd.C_drew ?_)))
                (case side4 => exact HC757_4.out)
                (case side5 => repeat (first | exact (Kd.C_below HR758_0.out HB.out) | (with_reducible refine Kd.C_alloc ?_ _) | (with_reducible refine Kd.C_drewN ?_ _) | (with_reducible refine Kd.C_drew ?_)))
                (case side6 => exact HC758_0.out)
                (case side7 => repeat (first | exact (Kd.C_below HR758_4.out HB.out) | (with_reducible refine Kd.C_alloc ?_ _) | (with_reducible refine Kd.C_drewN ?_ _) | (with_reducible refine Kd.C_drew ?_)))
                (case side8 => exact HC758_4.out)
                rintro e w10 ⟨rfl, hb⟩
                refine ⟨_, rfl, ?_⟩
                have n0_ := Aside0.mk (below_step BL hb)
                clear HB
                have HB := n0_
                clear n0_
                (try clear hb)
                (try clear hb2)
                (try clear hk)
                (try clear hi)
                refine hK.out _ _ ⟨((HB.out.cell (World.block_lt_of_cell? w _ hw757_0)).trans hw757_0), ((HB.out.cell (World.block_lt_of_cell? w _ hw757_1)).trans hw757_1), ((HB.out.cell (World.block_lt_of_cell? w _ hw757_2)).trans hw757_2), ((HB.out.cell (World.block_lt_of_cell? w _ hw757_3)).trans hw757_3), ((HB.out.cell (World.block_lt_of_cell? w _ hw757_4)).trans hw757_4), ((HB.out.cell (World.block_lt_of_cell? w _ hw758_0)).trans hw758_0), ((HB.out.cell (World.block_lt_of_cell? w _ hw758_1)).trans hw758_1), ((HB.out.cell (World.block_lt_of_cell? w _ hw758_2)).trans hw758_2), ((HB.out.cell (World.block_lt_of_cell? w _ hw758_3)).trans hw758_3), ((HB.out.cell (World.block_lt_of_cell? w _ hw758_4)).trans hw758_4)⟩ (fun hHeld => ?_)
                clear hK K
                refine norm_ (a' := ?_) ?_ ?_
                rotate_left
                · show Act.put _ (some 25) _ = _
                  simp only [Act.put, List.setIfInBounds_toArray, List.set_cons_zero, List.set_cons_succ, i64_w, i32_w]
                  rfl
                refine pure_ (i := 9) (N := some 26) (v := ?_) (a' := ?_) #[true, true, true, true, true, true, true, true, true, true] rfl rfl (any_of HT_.out (by kernel_rfl)) (fun _ _ _ h => h) (Or.inl ⟨by rfl, ?_⟩) ?_ ?_
                rotate_left
                · intro w'
                  go_simp
                  with_reducible rfl
                rotate_left
                · simp only [Act.put, List.setIfInBounds_toArray, List.set_cons_zero, List.set_cons_succ, i64_w, i32_w]
                  rfl
                refine done_ (done_of HT_.out (by kernel_rfl)) ?_
                try go_wp2
                go_roundg k1
                case measure => have := HK1.out; omega
                case rel => exact ⟨(wrap64 (x5_1 + 1)), RS, H', ⟨by have := HK1.out; omega⟩, ⟨by repeat (first | (with_reducible first | exact HB.out | apply below_alloc | apply pw_below_drewN | apply below_drew1) | exact HB.out)⟩⟩
              · replace c8 := Bool.eq_false_iff.mpr c8
                subst c8
                have H1 : (none) = some r := by rw [if_neg (show ¬ (false = true) by decide)] at H; exact H
                clear H
                have H := H1
                clear H1
                exact absurd H (by simp)
            · rw [if_neg c6] at H
              exact absurd H (by simp)
          · rw [if_neg c5] at H
            exact absurd H (by simp)
        · rw [if_neg c4] at H
          have c4b0 : decide (x5_1 < (l0.length : Int)) = false := decide_eq_false c4
          clear c4
          obtain rfl := Option.some.inj H
          go_wp2
          go_ret
          exact ⟨by first | rfl | (simp [errW_none, errW_some] <;> rfl) | (simp [*, errW_none, errW_some] <;> rfl), BL⟩
  · rw [if_neg c3] at H
    exact absurd H (by simp)
end Go.Proofs.Ytmbfjhhlpnjeoaa.G

namespace Go.Proofs.Ytmbfjhhlpnjeoaa.G
open Go.RowKit Go.Proofs.YtmbfjhhlpnjeoaaW.PrintWords Go.Proofs.YtmbfjhhlpnjeoaaW.PrintLast Go.Proofs.YtmbfjhhlpnjeoaaW.PrintMore Go.Proofs.Ytmbfjhhlpnjeoaa.Sh
attribute [local go_sem] max2_int min2_int max_two min_two max_three min_three max_four min_four
set_option linter.unusedVariables false
set_option linter.unusedSimpArgs false
def laws_eqDeed.f (a0_0 : Int) (a0_1 : Int) (a1_0 : Int) (a1_1 : Int) : Option (Bool) := if a0_0 = a1_0 then (if a0_1 = a1_1 then (some true) else (none)) else (none)
set_option maxHeartbeats 8000000 in
set_option maxRecDepth 100000 in
theorem laws_eqDeed.calls (a0_0 : Int) (a0_1 : Int) (a1_0 : Int) (a1_1 : Int) (r : Bool) (w : World) (h : laws_eqDeed.f a0_0 a0_1 a1_0 a1_1 = some r) :
    Calls Try.prog 155 #[.agg #[.int .i64 a0_0, .int .i64 a0_1], .agg #[.int .i64 a1_0, .int .i64 a1_1]] w fun e w' => e = .returned (.bool r) ∧ Below w.heap.size w w' := by
  have hu184 := Try.underlying184
  have HB := Aside0.mk (Below.refl w.heap.size w)
  have H : (if a0_0 = a1_0 then (if a0_1 = a1_1 then (some true) else (none)) else (none)) = some r := h
  clear h
  by_cases c3 : a0_0 = a1_0
  · rw [if_pos c3] at H
    have c3b0 : (a0_0 == a1_0) = true := beq_iff_eq.mpr c3
    have c3b1 : (a0_0 != a1_0) = false := bne_eq_false_iff_eq.mpr c3
    clear c3
    by_cases c4 : a0_1 = a1_1
    · rw [if_pos c4] at H
      have c4b0 : (a0_1 == a1_1) = true := beq_iff_eq.mpr c4
      have c4b1 : (a0_1 != a1_1) = false := bne_eq_false_iff_eq.mpr c4
      clear c4
      obtain rfl := Option.some.inj H
      go_enter Try.func155, Try.ntmps155
      go_wp2_with (first | ((with_reducible refine gate_dst (N := 2) rfl ?_); refine box_event ?hg (N := 2) ?hd (cs := #[.int .i64 a0_0, .int .i64 a0_1]) (t := 184) ?hr ?_; (case hd => rfl); (case hg => rfl); (case hr => first | (go_simp; done) | (go_simp; rfl)); intro gb760 hg w5 hbox hb; have n0_ := Aside0.mk (below_step BL hb); have n1_ := Aside0.mk (hbox); have n2_ := Aside0.mk ((by rw [hg]; exact (below_size BL) : w.heap.size ≤ gb760)); have n3_ := Aside0.mk ((by rw [hg]; exact (below_size BL) : w.heap.size ≤ gb760)); clear HB; have HB := n0_; have BK760 := n1_; have GW760 := n2_; have GE760 := n3_; clear n0_ n1_ n2_ n3_; clear hb hbox hg) | ((with_reducible refine gate_dst (N := 3) rfl ?_); refine box_event ?hg (N := 3) ?hd (cs := #[.int .i64 a1_0, .int .i64 a1_1]) (t := 184) ?hr ?_; (case hd => rfl); (case hg => rfl); (case hr => first | (go_simp; done) | (go_simp; rfl)); intro gb761 hg w6 hbox hb; have n0_ := Aside0.mk (blk_below (g := gb760) (o := .cells #[.int .i64 a0_0, .int .i64 a0_1] 184 (0, 0)) (by (with_reducible repeat (first | refine blk_drewN ?_ _ | refine blk_drew ?_ | refine blk_alloc ?_ _)); exact BK760.out) hb); have n1_ := Aside0.mk (below_step BG hb); have n2_ := Aside0.mk (hbox); have n3_ := Aside0.mk ((by rw [hg]; exact (below_size BG) : w.heap.size ≤ gb761)); have n4_ := Aside0.mk ((by rw [hg]; exact (below_size BG) : w.heap.size ≤ gb761)); have n5_ := Aside0.mk ((by rw [hg]; exact Nat.ne_of_lt (blk_lt (g := gb760) (o := .cells #[.int .i64 a0_0, .int .i64 a0_1] 184 (0, 0)) (by (with_reducible repeat (first | refine blk_drewN ?_ _ | refine blk_drew ?_ | refine blk_alloc ?_ _)); exact BK760.out)) : gb760 ≠ gb761)); have n6_ := Aside0.mk ((by rw [hg]; exact Nat.ne_of_gt (blk_lt (g := gb760) (o := .cells #[.int .i64 a0_0, .int .i64 a0_1] 184 (0, 0)) (by (with_reducible repeat (first | refine blk_drewN ?_ _ | refine blk_drew ?_ | refine blk_alloc ?_ _)); exact BK760.out)) : gb761 ≠ gb760)); clear BK760; clear HB; have BK760 := n0_; have HB := n1_; have BK761 := n2_; have GW761 := n3_; have GE761 := n4_; have NB760_761 := n5_; have NB761_760 := n6_; clear n0_ n1_ n2_ n3_ n4_ n5_ n6_; clear hb hbox hg; have hnb7 := NB760_761.out; have hnc7 := NB761_760.out; obtain ⟨hcz8_0, hcz8_1, hfz8_0, hfz8_1⟩ := bk2 BK760.out; obtain ⟨hcz9_0, hcz9_1, hfz9_0, hfz9_1⟩ := bk2 BK761.out))
      go_ret
      exact ⟨by first | rfl | (simp [errW_none, errW_some] <;> rfl) | (simp [*, errW_none, errW_some] <;> rfl), BG⟩
    · rw [if_neg c4] at H
      exact absurd H (by simp)
  · rw [if_neg c3] at H
    exact absurd H (by simp)
end Go.Proofs.Ytmbfjhhlpnjeoaa.G

namespace Go.Proofs.Ytmbfjhhlpnjeoaa.G
open Go.RowKit Go.Proofs.YtmbfjhhlpnjeoaaW.PrintWords Go.Proofs.YtmbfjhhlpnjeoaaW.PrintLast Go.Proofs.YtmbfjhhlpnjeoaaW.PrintMore Go.Proofs.Ytmbfjhhlpnjeoaa.Sh
attribute [local go_sem] max2_int min2_int max_two min_two max_three min_three max_four min_four
set_option linter.unusedVariables false
set_option linter.unusedSimpArgs false
def laws_eqDeedS.l0 : Nat → List (S184) → List (S184) → Int → Option (Bool)
  | 0, _, _, _ => none
  | k + 1, x0, x1, x5 => if x5 < (x0.length : Int) then (if 0 ≤ x5 then (if x5 < (x1.length : Int) then ((laws_eqDeed.f ((rd_T184 x0 x5).f0) ((rd_T184 x0 x5).f1) ((rd_T184 x1 x5).f0) ((rd_T184 x1 x5).f1)).bind fun t764 => (if t764 = true then (laws_eqDeedS.l0 k x0 x1 (wrap64 (x5 + 1))) else (none))) else (none)) else (none)) else (some true)
def laws_eqDeedS.f (k : Nat) (l0 : List (S184)) (l1 : List (S184)) : Option (Bool) := if (l0.length : Int) = (l1.length : Int) then (laws_eqDeedS.l0 k l0 l1 0) else (none)
theorem laws_eqDeedS.mono_l : ∀ k, (∀ y0 y1 y2, LeO (laws_eqDeedS.l0 k y0 y1 y2) (laws_eqDeedS.l0 (k + 1) y0 y1 y2))
  | 0 => fun _ _ _ r h => by simp [laws_eqDeedS.l0] at h
  | k + 1 => by
    have ih0 := laws_eqDeedS.mono_l k
    · intro y0 y1 y2
      unfold laws_eqDeedS.l0
      repeat' first
      | (with_reducible exact ih0 _ _ _)
      | (with_reducible exact LeO.refl _)
      | (with_reducible exact LeO.none _)
      | (with_reducible refine LeO.ite ?_ ?_)
      | (with_reducible refine LeO.bind ?_ (fun _ => ?_))
      | exact ih0 _ _ _
      | exact LeO.none _
      | refine LeO.ite ?_ ?_
      | refine LeO.bind ?_ (fun _ => ?_)
theorem laws_eqDeedS.mono : ∀ a0 a1 k, LeO (laws_eqDeedS.f k a0 a1) (laws_eqDeedS.f (k + 1) a0 a1) := by
  intro a0 a1 k
  have ih0 := laws_eqDeedS.mono_l k
  unfold laws_eqDeedS.f
  repeat' first
      | (with_reducible exact ih0 _ _ _)
      | (with_reducible exact LeO.refl _)
      | (with_reducible exact LeO.none _)
      | (with_reducible refine LeO.ite ?_ ?_)
      | (with_reducible refine LeO.bind ?_ (fun _ => ?_))
      | exact ih0 _ _ _
      | exact LeO.none _
      | refine LeO.ite ?_ ?_
      | refine LeO.bind ?_ (fun _ => ?_)
def laws_eqDeedS.T6 : Bool × List (List Nat × List Nat) := (true, [([], []), ([], []), ([0, 1], [0, 1]), ([2], [2]), ([], []), ([], []), ([4, 5], [4, 5]), ([6], [6]), ([3, 7], [3, 7]), ([8], [8])])
def laws_eqDeedS.B6 : List Nat := [0, 0, 3, 7, 0, 0, 48, 112, 255, 511]
theorem laws_eqDeedS.tab6 : rtab .any (opsOf Try.f101 6) = laws_eqDeedS.T6 := by kernel_rfl
theorem laws_eqDeedS.bits6 : waitsOk laws_eqDeedS.T6.2 laws_eqDeedS.B6 = true := by kernel_rfl
set_option maxHeartbeats 8000000 in
set_option maxRecDepth 100000 in
theorem laws_eqDeedS.calls (k : Nat) (A0 : Option Addr) (c0 : Nat) (l0 : List (S184)) (A1 : Option Addr) (c1 : Nat) (l1 : List (S184)) (r : Bool) (w : World) (hr0 : Kd.C k184 w A0 l0.length l0) (hc0 : l0.length ≤ c0) (hr1 : Kd.C k184 w A1 l1.length l1) (hc1 : l1.length ≤ c1) (h : laws_eqDeedS.f k l0 l1 = some r) :
    Calls Try.prog 101 #[.slice A0 l0.length c0, .slice A1 l1.length c1] w fun e w' => e = .returned (.bool r) ∧ Below w.heap.size w w' := by
  have hu184 := Try.underlying184
  have HR0 := Aside0.mk hr0
  have HC0 := Aside0.mk hc0
  clear hr0 hc0
  have HR1 := Aside0.mk hr1
  have HC1 := Aside0.mk hc1
  clear hr1 hc1
  have HB := Aside0.mk (Below.refl w.heap.size w)
  have H : (if (l0.length : Int) = (l1.length : Int) then (laws_eqDeedS.l0 k l0 l1 0) else (none)) = some r := h
  clear h
  by_cases c3 : (l0.length : Int) = (l1.length : Int)
  · rw [if_pos c3] at H
    have c3b0 : ((l0.length : Int) == (l1.length : Int)) = true := beq_iff_eq.mpr c3
    have c3b1 : ((l0.length : Int) != (l1.length : Int)) = false := bne_eq_false_iff_eq.mpr c3
    have c3b2 : (l0.length == l1.length) = true := by first | simpa using c3 | (simp at c3 ⊢; omega)
    clear c3
    have H' := Aside0.mk H
    clear H
    go_enter Try.func101, Try.ntmps101
    go_wp2
    go_loopg [5] k (fun kq v5 w' => ∃ (x5_1 : Int), v5 = .int .i64 x5_1 ∧ Aside0 (laws_eqDeedS.l0 kq l0 l1 x5_1 = some r) ∧ Aside0 (kq ≤ k) ∧ Aside0 (Below w.heap.size w w'))
    case atStart => exact ⟨(0), RS, H', ⟨Nat.le_refl _⟩, ⟨by repeat (first | (with_reducible first | exact HB.out | apply below_alloc | apply pw_below_drewN | apply below_drew1) | exact HB.out)⟩⟩
    case round =>
      clear H'
      try clear c1
      try clear p2
      try clear c3
      try clear c3b0
      try clear c3b1
      try clear c3b2
      obtain ⟨x5_1, rfl, HA, HK1, HB⟩ := hrel
      cases gk with
      | zero => exact absurd HA.out (by simp [laws_eqDeedS.l0])
      | succ k1 =>
        have H := HA.out
        clear HA
        simp only [laws_eqDeedS.l0] at H
        by_cases c4 : x5_1 < (l0.length : Int)
        · rw [if_pos c4] at H
          have c4b0 : decide (x5_1 < (l0.length : Int)) = true := decide_eq_true c4
          clear c4
          by_cases c5 : 0 ≤ x5_1
          · rw [if_pos c5] at H
            have c5b0 : decide (0 ≤ x5_1) = true := decide_eq_true c5
            clear c5
            by_cases c6 : x5_1 < (l1.length : Int)
            · rw [if_pos c6] at H
              have c6b0 : decide (x5_1 < (l1.length : Int)) = true := decide_eq_true c6
              clear c6
              replace H := Option.bind_eq_some_iff.mp H
              obtain ⟨t764, A70, H⟩ := H
              replace H : (if t764 = true then (laws_eqDeedS.l0 k1 l0 l1 (wrap64 (x5_1 + 1))) else (none)) = some r := H
              have A7 := Aside0.mk A70
              clear A70
              by_cases c8 : t764 = true
              · subst c8
                have H1 : (laws_eqDeedS.l0 k1 l0 l1 (wrap64 (x5_1 + 1))) = some r := by rw [if_pos rfl] at H; exact H
                clear H
                have H := H1
                clear H1
                have H' := Aside0.mk H
                clear H
                try go_wp2
                have n0_ := Aside0.mk (below_drew1 HB.out)
                clear HB
                have HB := n0_
                clear n0_
                have p762 : 0 ≤ (x5_1 : Int) := of_decide_eq_true AS
                have q762 : x5_1 < (l0.length : Int) := of_decide_eq_true AS
                obtain ⟨ad762, e762, hx762_0, hx762_1⟩ := at_T184 HR0.out x5_1 p762 q762
                have hw762_1 := hx762_1
                have hw762_0 := hx762_0
                cases e762
                replace hx762_0 := (HB.out.cell (World.block_lt_of_cell? w _ hx762_0)).trans hx762_0
                replace hx762_1 := (HB.out.cell (World.block_lt_of_cell? w _ hx762_1)).trans hx762_1
                replace p762 := eq_true p762
                replace q762 := eq_true q762
                have p763 : 0 ≤ (x5_1 : Int) := of_decide_eq_true AS
                have q763 : x5_1 < (l1.length : Int) := of_decide_eq_true AS
                obtain ⟨ad763, e763, hx763_0, hx763_1⟩ := at_T184 HR1.out x5_1 p763 q763
                have hw763_1 := hx763_1
                have hw763_0 := hx763_0
                cases e763
                replace hx763_0 := (HB.out.cell (World.block_lt_of_cell? w _ hx763_0)).trans hx763_0
                replace hx763_1 := (HB.out.cell (World.block_lt_of_cell? w _ hx763_1)).trans hx763_1
                replace p763 := eq_true p763
                replace q763 := eq_true q763
                refine start_ (n := 10) (S := fun w' => w'.cell? (ad762.add ((x5_1).toNat * 2)) = some (.int .i64 ((rd_T184 l0 x5_1).f0)) ∧ w'.cell? ⟨(ad762.add ((x5_1).toNat * 2)).block, (ad762.add ((x5_1).toNat * 2)).off + 1, none⟩ = some (.int .i64 ((rd_T184 l0 x5_1).f1)) ∧ w'.cell? (ad763.add ((x5_1).toNat * 2)) = some (.int .i64 ((rd_T184 l1 x5_1).f0)) ∧ w'.cell? ⟨(ad763.add ((x5_1).toNat * 2)).block, (ad763.add ((x5_1).toNat * 2)).off + 1, none⟩ = some (.int .i64 ((rd_T184 l1 x5_1).f1))) (ds := []) #[false, false, false, false, false, false, false, false, false, false] (by kernel_rfl) rfl rfl ⟨((HB.out.cell (World.block_lt_of_cell? w _ hw762_0)).trans hw762_0), ((HB.out.cell (World.block_lt_of_cell? w _ hw762_1)).trans hw762_1), ((HB.out.cell (World.block_lt_of_cell? w _ hw763_0)).trans hw763_0), ((HB.out.cell (World.block_lt_of_cell? w _ hw763_1)).trans hw763_1)⟩ (fun hHeld => ?_); refine with_tabW laws_eqDeedS.tab6 laws_eqDeedS.bits6 (fun HT_ HW_ => ?_)
                generalize wr.drew = w9 at HB hx762_0 hx762_1 hx763_0 hx763_1 hHeld ⊢
                refine pure_ (i := 0) (N := some 17) (v := ?_) (a' := ?_) #[true, false, false, false, false, false, false, false, false, false] rfl rfl (any_of HT_.out (by kernel_rfl)) (fun _ _ _ h => h) (Or.inl ⟨by rfl, ?_⟩) ?_ ?_
                rotate_left
                · intro w'
                  go_simp
                  with_reducible rfl
                rotate_left
                · simp only [Act.put, List.setIfInBounds_toArray, List.set_cons_zero, List.set_cons_succ, i64_w, i32_w]
                  rfl
                refine pure_ (i := 1) (N := some 18) (v := ?_) (a' := ?_) #[true, true, false, false, false, false, false, false, false, false] rfl rfl (any_of HT_.out (by kernel_rfl)) (fun _ _ _ h => h) (Or.inl ⟨by rfl, ?_⟩) ?_ ?_
                rotate_left
                · intro w'
                  go_simp
                  with_reducible rfl
                rotate_left
                · simp only [Act.put, List.setIfInBounds_toArray, List.set_cons_zero, List.set_cons_succ, i64_w, i32_w]
                  rfl
                refine pure_ (i := 2) (N := some 19) (v := ?_) (a' := ?_) #[true, true, true, false, false, false, false, false, false, false] rfl rfl (any_of HT_.out (by kernel_rfl)) (fun _ _ _ h => h) (Or.inl ⟨by rfl, ?_⟩) ?_ ?_
                rotate_left
                · intro w'
                  go_simp
                  with_reducible rfl
                rotate_left
                · simp only [Act.put, List.setIfInBounds_toArray, List.set_cons_zero, List.set_cons_succ, i64_w, i32_w]
                  rfl
                refine pure_ (i := 4) (N := some 21) (v := ?_) (a' := ?_) #[true, true, true, false, true, false, false, false, false, false] rfl rfl (any_of HT_.out (by kernel_rfl)) (fun _ _ _ h => h) (Or.inl ⟨by rfl, ?_⟩) ?_ ?_
                rotate_left
                · intro w'
                  go_simp
                  with_reducible rfl
                rotate_left
                · simp only [Act.put, List.setIfInBounds_toArray, List.set_cons_zero, List.set_cons_succ, i64_w, i32_w]
                  rfl
                refine pure_ (i := 5) (N := some 22) (v := ?_) (a' := ?_) #[true, true, true, false, true, true, false, false, false, false] rfl rfl (any_of HT_.out (by kernel_rfl)) (fun _ _ _ h => h) (Or.inl ⟨by rfl, ?_⟩) ?_ ?_
                rotate_left
                · intro w'
                  go_simp
                  with_reducible rfl
                rotate_left
                · simp only [Act.put, List.setIfInBounds_toArray, List.set_cons_zero, List.set_cons_succ, i64_w, i32_w]
                  rfl
                refine pure_ (i := 6) (N := some 23) (v := ?_) (a' := ?_) #[true, true, true, false, true, true, true, false, false, false] rfl rfl (any_of HT_.out (by kernel_rfl)) (fun _ _ _ h => h) (Or.inl ⟨by rfl, ?_⟩) ?_ ?_
                rotate_left
                · intro w'
                  go_simp
                  with_reducible rfl
                rotate_left
                · simp only [Act.put, List.setIfInBounds_toArray, List.set_cons_zero, List.set_cons_succ, i64_w, i32_w]
                  rfl
                refine take_ (i := 3) (N := some 20) (v := ?_) (a' := ?_) #[true, true, true, true, true, true, true, false, false, false] rfl rfl (take_ofW HT_.out HW_.out (by kernel_rfl)) (fun _ _ _ h => h) (Or.inl ⟨by rfl, ?_⟩) hHeld ?_ ?_
                rotate_left
                · rintro w' ⟨s0, s1, s2, s3⟩
                  go_simp
                  with_reducible rfl
                rotate_left
                · simp only [Act.put, List.setIfInBounds_toArray, List.set_cons_zero, List.set_cons_succ, i64_w, i32_w]
                  rfl
                refine take_ (i := 7) (N := some 24) (v := ?_) (a' := ?_) #[true, true, true, true, true, true, true, true, false, false] rfl rfl (take_ofW HT_.out HW_.out (by kernel_rfl)) (fun _ _ _ h => h) (Or.inl ⟨by rfl, ?_⟩) hHeld ?_ ?_
                rotate_left
                · rintro w' ⟨s0, s1, s2, s3⟩
                  go_simp
                  with_reducible rfl
                rotate_left
                · simp only [Act.put, List.setIfInBounds_toArray, List.set_cons_zero, List.set_cons_succ, i64_w, i32_w]
                  rfl
                refine one_ (i := 8) (N := some 25) #[true, true, true, true, true, true, true, true, true, false] rfl rfl (one_of HT_.out (by kernel_rfl)) (by decide) (fun K hK => ?_)
                refine goes_ Try.func155 (by kernel_rfl) rfl #[.agg #[.int .i64 ((rd_T184 l0 x5_1).f0), .int .i64 ((rd_T184 l0 x5_1).f1)], .agg #[.int .i64 ((rd_T184 l1 x5_1).f0), .int .i64 ((rd_T184 l1 x5_1).f1)]] (by rfl) rfl rfl AQ ?_
                with_reducible refine (laws_eqDeed.calls ((rd_T184 l0 x5_1).f0) ((rd_T184 l0 x5_1).f1) ((rd_T184 l1 x5_1).f0) ((rd_T184 l1 x5_1).f1) true _ A7.out).mono ?_
                rintro e w10 ⟨rfl, hb⟩
                refine ⟨_, rfl, ?_⟩
                have n0_ := Aside0.mk (below_step BL hb)
                clear HB
                have HB := n0_
                clear n0_
                (try clear hb)
                (try clear hb2)
                (try clear hk)
                (try clear hi)
                refine hK.out _ _ ⟨((HB.out.cell (World.block_lt_of_cell? w _ hw762_0)).trans hw762_0), ((HB.out.cell (World.block_lt_of_cell? w _ hw762_1)).trans hw762_1), ((HB.out.cell (World.block_lt_of_cell? w _ hw763_0)).trans hw763_0), ((HB.out.cell (World.block_lt_of_cell? w _ hw763_1)).trans hw763_1)⟩ (fun hHeld => ?_)
                clear hK K
                refine norm_ (a' := ?_) ?_ ?_
                rotate_left
                · show Act.put _ (some 25) _ = _
                  simp only [Act.put, List.setIfInBounds_toArray, List.set_cons_zero, List.set_cons_succ, i64_w, i32_w]
                  rfl
                refine pure_ (i := 9) (N := some 26) (v := ?_) (a' := ?_) #[true, true, true, true, true, true, true, true, true, true] rfl rfl (any_of HT_.out (by kernel_rfl)) (fun _ _ _ h => h) (Or.inl ⟨by rfl, ?_⟩) ?_ ?_
                rotate_left
                · intro w'
                  go_simp
                  with_reducible rfl
                rotate_left
                · simp only [Act.put, List.setIfInBounds_toArray, List.set_cons_zero, List.set_cons_succ, i64_w, i32_w]
                  rfl
                refine done_ (done_of HT_.out (by kernel_rfl)) ?_
                try go_wp2
                go_roundg k1
                case measure => have := HK1.out; omega
                case rel => exact ⟨(wrap64 (x5_1 + 1)), RS, H', ⟨by have := HK1.out; omega⟩, ⟨by repeat (first | (with_reducible first | exact HB.out | apply below_alloc | apply pw_below_drewN | apply below_drew1) | exact HB.out)⟩⟩
              · replace c8 := Bool.eq_false_iff.mpr c8
                subst c8
                have H1 : (none) = some r := by rw [if_neg (show ¬ (false = true) by decide)] at H; exact H
                clear H
                have H := H1
                clear H1
                exact absurd H (by simp)
            · rw [if_neg c6] at H
              exact absurd H (by simp)
          · rw [if_neg c5] at H
            exact absurd H (by simp)
        · rw [if_neg c4] at H
          have c4b0 : decide (x5_1 < (l0.length : Int)) = false := decide_eq_false c4
          clear c4
          obtain rfl := Option.some.inj H
          go_wp2
          go_ret
          exact ⟨by first | rfl | (simp [errW_none, errW_some] <;> rfl) | (simp [*, errW_none, errW_some] <;> rfl), BL⟩
  · rw [if_neg c3] at H
    exact absurd H (by simp)
end Go.Proofs.Ytmbfjhhlpnjeoaa.G

namespace Go.Proofs.Ytmbfjhhlpnjeoaa.G
open Go.RowKit Go.Proofs.YtmbfjhhlpnjeoaaW.PrintWords Go.Proofs.YtmbfjhhlpnjeoaaW.PrintLast Go.Proofs.YtmbfjhhlpnjeoaaW.PrintMore Go.Proofs.Ytmbfjhhlpnjeoaa.Sh
attribute [local go_sem] max2_int min2_int max_two min_two max_three min_three max_four min_four
set_option linter.unusedVariables false
set_option linter.unusedSimpArgs false
def laws_eqDesk.f (k : Nat) (a0_0 : Int) (a0_1 : Int) (l0_2 : List (S23)) (l0_3 : List (S23)) (l0_4 : List Int) (l0_5 : List Int) (a0_6 : Int) (l0_7 : List Int) (l0_8 : List (S219)) (l0_9 : List Int) (l0_10 : List (S124)) (l0_11 : List (S142)) (l0_12 : List (S184)) (a1_0 : Int) (a1_1 : Int) (l1_2 : List (S23)) (l1_3 : List (S23)) (l1_4 : List Int) (l1_5 : List Int) (a1_6 : Int) (l1_7 : List Int) (l1_8 : List (S219)) (l1_9 : List Int) (l1_10 : List (S124)) (l1_11 : List (S142)) (l1_12 : List (S184)) : Option (Bool) := (laws_eqThree.f k a0_0 a0_1 l0_2 l0_3 l0_4 a1_0 a1_1 l1_2 l1_3 l1_4).bind fun t767 => (if t767 = true then ((laws_eqPool.f k l0_5 a0_6 l0_7 l0_8 l0_9 l1_5 a1_6 l1_7 l1_8 l1_9).bind fun t768 => (if t768 = true then ((laws_eqSpotS.f k l0_10 l1_10).bind fun t769 => (if t769 = true then ((laws_eqUserS.f k l0_11 l1_11).bind fun t770 => (if t770 = true then ((laws_eqDeedS.f k l0_12 l1_12).bind fun t771 => (if t771 = true then (some true) else (none))) else (none))) else (none))) else (none))) else (none))
theorem laws_eqDesk.mono : ∀ a0 a1 a2 a3 a4 a5 a6 a7 a8 a9 a10 a11 a12 a13 a14 a15 a16 a17 a18 a19 a20 a21 a22 a23 a24 a25 k, LeO (laws_eqDesk.f k a0 a1 a2 a3 a4 a5 a6 a7 a8 a9 a10 a11 a12 a13 a14 a15 a16 a17 a18 a19 a20 a21 a22 a23 a24 a25) (laws_eqDesk.f (k + 1) a0 a1 a2 a3 a4 a5 a6 a7 a8 a9 a10 a11 a12 a13 a14 a15 a16 a17 a18 a19 a20 a21 a22 a23 a24 a25) := by
  intro a0 a1 a2 a3 a4 a5 a6 a7 a8 a9 a10 a11 a12 a13 a14 a15 a16 a17 a18 a19 a20 a21 a22 a23 a24 a25 k
  unfold laws_eqDesk.f
  repeat' first
      | (with_reducible exact laws_eqDeedS.mono _ _ _)
      | (with_reducible exact laws_eqPool.mono _ _ _ _ _ _ _ _ _ _ _)
      | (with_reducible exact laws_eqSpotS.mono _ _ _)
      | (with_reducible exact laws_eqThree.mono _ _ _ _ _ _ _ _ _ _ _)
      | (with_reducible exact laws_eqUserS.mono _ _ _)
      | (with_reducible exact LeO.refl _)
      | (with_reducible exact LeO.none _)
      | (with_reducible refine LeO.ite ?_ ?_)
      | (with_reducible refine LeO.bind ?_ (fun _ => ?_))
      | exact laws_eqDeedS.mono _ _ _
      | exact laws_eqPool.mono _ _ _ _ _ _ _ _ _ _ _
      | exact laws_eqSpotS.mono _ _ _
      | exact laws_eqThree.mono _ _ _ _ _ _ _ _ _ _ _
      | exact laws_eqUserS.mono _ _ _
      | exact LeO.none _
      | refine LeO.ite ?_ ?_
      | refine LeO.bind ?_ (fun _ => ?_)
set_option maxHeartbeats 8000000 in
set_option maxRecDepth 100000 in
theorem laws_eqDesk.calls (k : Nat) (a0_0 : Int) (a0_1 : Int) (A0_2 : Option Addr) (c0_2 : Nat) (l0_2 : List (S23)) (A0_3 : Option Addr) (c0_3 : Nat) (l0_3 : List (S23)) (A0_4 : Option Addr) (c0_4 : Nat) (l0_4 : List Int) (A0_5 : Option Addr) (c0_5 : Nat) (l0_5 : List Int) (a0_6 : Int) (A0_7 : Option Addr) (c0_7 : Nat) (l0_7 : List Int) (A0_8 : Option Addr) (c0_8 : Nat) (l0_8 : List (S219)) (A0_9 : Option Addr) (c0_9 : Nat) (l0_9 : List Int) (A0_10 : Option Addr) (c0_10 : Nat) (l0_10 : List (S124)) (A0_11 : Option Addr) (c0_11 : Nat) (l0_11 : List (S142)) (A0_12 : Option Addr) (c0_12 : Nat) (l0_12 : List (S184)) (a1_0 : Int) (a1_1 : Int) (A1_2 : Option Addr) (c1_2 : Nat) (l1_2 : List (S23)) (A1_3 : Option Addr) (c1_3 : Nat) (l1_3 : List (S23)) (A1_4 : Option Addr) (c1_4 : Nat) (l1_4 : List Int) (A1_5 : Option Addr) (c1_5 : Nat) (l1_5 : List Int) (a1_6 : Int) (A1_7 : Option Addr) (c1_7 : Nat) (l1_7 : List Int) (A1_8 : Option Addr) (c1_8 : Nat) (l1_8 : List (S219)) (A1_9 : Option Addr) (c1_9 : Nat) (l1_9 : List Int) (A1_10 : Option Addr) (c1_10 : Nat) (l1_10 : List (S124)) (A1_11 : Option Addr) (c1_11 : Nat) (l1_11 : List (S142)) (A1_12 : Option Addr) (c1_12 : Nat) (l1_12 : List (S184)) (r : Bool) (w : World) (hr0_2 : Kd.C k23 w A0_2 l0_2.length l0_2) (hc0_2 : l0_2.length ≤ c0_2) (hr0_3 : Kd.C k23 w A0_3 l0_3.length l0_3) (hc0_3 : l0_3.length ≤ c0_3) (hr0_4 : Kd.C (Kd.int .i64) w A0_4 l0_4.length l0_4) (hc0_4 : l0_4.length ≤ c0_4) (hr0_5 : Kd.C (Kd.int .i64) w A0_5 l0_5.length l0_5) (hc0_5 : l0_5.length ≤ c0_5) (hr0_7 : Kd.C (Kd.int .i64) w A0_7 l0_7.length l0_7) (hc0_7 : l0_7.length ≤ c0_7) (hr0_8 : Kd.C k219 w A0_8 l0_8.length l0_8) (hc0_8 : l0_8.length ≤ c0_8) (hr0_9 : Kd.C (Kd.int .i64) w A0_9 l0_9.length l0_9) (hc0_9 : l0_9.length ≤ c0_9) (hr0_10 : Kd.C k124 w A0_10 l0_10.length l0_10) (hc0_10 : l0_10.length ≤ c0_10) (hr0_11 : Kd.C k142 w A0_11 l0_11.length l0_11) (hc0_11 : l0_11.length ≤ c0_11) (hr0_12 : Kd.C k184 w A0_12 l0_12.length l0_12) (hc0_12 : l0_12.length ≤ c0_12) (hr1_2 : Kd.C k23 w A1_2 l1_2.length l1_2) (hc1_2 : l1_2.length ≤ c1_2) (hr1_3 : Kd.C k23 w A1_3 l1_3.length l1_3) (hc1_3 : l1_3.length ≤ c1_3) (hr1_4 : Kd.C (Kd.int .i64) w A1_4 l1_4.length l1_4) (hc1_4 : l1_4.length ≤ c1_4) (hr1_5 : Kd.C (Kd.int .i64) w A1_5 l1_5.length l1_5) (hc1_5 : l1_5.length ≤ c1_5) (hr1_7 : Kd.C (Kd.int .i64) w A1_7 l1_7.length l1_7) (hc1_7 : l1_7.length ≤ c1_7) (hr1_8 : Kd.C k219 w A1_8 l1_8.length l1_8) (hc1_8 : l1_8.length ≤ c1_8) (hr1_9 : Kd.C (Kd.int .i64) w A1_9 l1_9.length l1_9) (hc1_9 : l1_9.length ≤ c1_9) (hr1_10 : Kd.C k124 w A1_10 l1_10.length l1_10) (hc1_10 : l1_10.length ≤ c1_10) (hr1_11 : Kd.C k142 w A1_11 l1_11.length l1_11) (hc1_11 : l1_11.length ≤ c1_11) (hr1_12 : Kd.C k184 w A1_12 l1_12.length l1_12) (hc1_12 : l1_12.length ≤ c1_12) (h : laws_eqDesk.f k a0_0 a0_1 l0_2 l0_3 l0_4 l0_5 a0_6 l0_7 l0_8 l0_9 l0_10 l0_11 l0_12 a1_0 a1_1 l1_2 l1_3 l1_4 l1_5 a1_6 l1_7 l1_8 l1_9 l1_10 l1_11 l1_12 = some r) :
    Calls Try.prog 37 #[.agg #[.int .i64 a0_0, .int .i64 a0_1, .slice A0_2 l0_2.length c0_2, .slice A0_3 l0_3.length c0_3, .slice A0_4 l0_4.length c0_4, .slice A0_5 l0_5.length c0_5, .int .i64 a0_6, .slice A0_7 l0_7.length c0_7, .slice A0_8 l0_8.length c0_8, .slice A0_9 l0_9.length c0_9, .slice A0_10 l0_10.length c0_10, .slice A0_11 l0_11.length c0_11, .slice A0_12 l0_12.length c0_12], .agg #[.int .i64 a1_0, .int .i64 a1_1, .slice A1_2 l1_2.length c1_2, .slice A1_3 l1_3.length c1_3, .slice A1_4 l1_4.length c1_4, .slice A1_5 l1_5.length c1_5, .int .i64 a1_6, .slice A1_7 l1_7.length c1_7, .slice A1_8 l1_8.length c1_8, .slice A1_9 l1_9.length c1_9, .slice A1_10 l1_10.length c1_10, .slice A1_11 l1_11.length c1_11, .slice A1_12 l1_12.length c1_12]] w fun e w' => e = .returned (.bool r) ∧ Below w.heap.size w w' := by
  have hu76 := Try.underlying76
  have hu45 := Try.underlying45
  have hu71 := Try.underlying71
  have HR0_2 := Aside0.mk hr0_2
  have HC0_2 := Aside0.mk hc0_2
  clear hr0_2 hc0_2
  have HR0_3 := Aside0.mk hr0_3
  have HC0_3 := Aside0.mk hc0_3
  clear hr0_3 hc0_3
  have HR0_4 := Aside0.mk hr0_4
  have HC0_4 := Aside0.mk hc0_4
  clear hr0_4 hc0_4
  have HR0_5 := Aside0.mk hr0_5
  have HC0_5 := Aside0.mk hc0_5
  clear hr0_5 hc0_5
  have HR0_7 := Aside0.mk hr0_7
  have HC0_7 := Aside0.mk hc0_7
  clear hr0_7 hc0_7
  have HR0_8 := Aside0.mk hr0_8
  have HC0_8 := Aside0.mk hc0_8
  clear hr0_8 hc0_8
  have HR0_9 := Aside0.mk hr0_9
  have HC0_9 := Aside0.mk hc0_9
  clear hr0_9 hc0_9
  have HR0_10 := Aside0.mk hr0_10
  have HC0_10 := Aside0.mk hc0_10
  clear hr0_10 hc0_10
  have HR0_11 := Aside0.mk hr0_11
  have HC0_11 := Aside0.mk hc0_11
  clear hr0_11 hc0_11
  have HR0_12 := Aside0.mk hr0_12
  have HC0_12 := Aside0.mk hc0_12
  clear hr0_12 hc0_12
  have HR1_2 := Aside0.mk hr1_2
  have HC1_2 := Aside0.mk hc1_2
  clear hr1_2 hc1_2
  have HR1_3 := Aside0.mk hr1_3
  have HC1_3 := Aside0.mk hc1_3
  clear hr1_3 hc1_3
  have HR1_4 := Aside0.mk hr1_4
  have HC1_4 := Aside0.mk hc1_4
  clear hr1_4 hc1_4
  have HR1_5 := Aside0.mk hr1_5
  have HC1_5 := Aside0.mk hc1_5
  clear hr1_5 hc1_5
  have HR1_7 := Aside0.mk hr1_7
  have HC1_7 := Aside0.mk hc1_7
  clear hr1_7 hc1_7
  have HR1_8 := Aside0.mk hr1_8
  have HC1_8 := Aside0.mk hc1_8
  clear hr1_8 hc1_8
  have HR1_9 := Aside0.mk hr1_9
  have HC1_9 := Aside0.mk hc1_9
  clear hr1_9 hc1_9
  have HR1_10 := Aside0.mk hr1_10
  have HC1_10 := Aside0.mk hc1_10
  clear hr1_10 hc1_10
  have HR1_11 := Aside0.mk hr1_11
  have HC1_11 := Aside0.mk hc1_11
  clear hr1_11 hc1_11
  have HR1_12 := Aside0.mk hr1_12
  have HC1_12 := Aside0.mk hc1_12
  clear hr1_12 hc1_12
  have HB := Aside0.mk (Below.refl w.heap.size w)
  have H : ((laws_eqThree.f k a0_0 a0_1 l0_2 l0_3 l0_4 a1_0 a1_1 l1_2 l1_3 l1_4).bind fun t767 => (if t767 = true then ((laws_eqPool.f k l0_5 a0_6 l0_7 l0_8 l0_9 l1_5 a1_6 l1_7 l1_8 l1_9).bind fun t768 => (if t768 = true then ((laws_eqSpotS.f k l0_10 l1_10).bind fun t769 => (if t769 = true then ((laws_eqUserS.f k l0_11 l1_11).bind fun t770 => (if t770 = true then ((laws_eqDeedS.f k l0_12 l1_12).bind fun t771 => (if t771 = true then (some true) else (none))) else (none))) else (none))) else (none))) else (none))) = some r := h
  clear h
  replace H := Option.bind_eq_some_iff.mp H
  obtain ⟨t767, A30, H⟩ := H
  replace H : (if t767 = true then ((laws_eqPool.f k l0_5 a0_6 l0_7 l0_8 l0_9 l1_5 a1_6 l1_7 l1_8 l1_9).bind fun t768 => (if t768 = true then ((laws_eqSpotS.f k l0_10 l1_10).bind fun t769 => (if t769 = true then ((laws_eqUserS.f k l0_11 l1_11).bind fun t770 => (if t770 = true then ((laws_eqDeedS.f k l0_12 l1_12).bind fun t771 => (if t771 = true then (some true) else (none))) else (none))) else (none))) else (none))) else (none)) = some r := H
  have A3 := Aside0.mk A30
  clear A30
  by_cases c4 : t767 = true
  · subst c4
    have H1 : ((laws_eqPool.f k l0_5 a0_6 l0_7 l0_8 l0_9 l1_5 a1_6 l1_7 l1_8 l1_9).bind fun t768 => (if t768 = true then ((laws_eqSpotS.f k l0_10 l1_10).bind fun t769 => (if t769 = true then ((laws_eqUserS.f k l0_11 l1_11).bind fun t770 => (if t770 = true then ((laws_eqDeedS.f k l0_12 l1_12).bind fun t771 => (if t771 = true then (some true) else (none))) else (none))) else (none))) else (none))) = some r := by rw [if_pos rfl] at H; exact H
    clear H
    have H := H1
    clear H1
    replace H := Option.bind_eq_some_iff.mp H
    obtain ⟨t768, A50, H⟩ := H
    replace H : (if t768 = true then ((laws_eqSpotS.f k l0_10 l1_10).bind fun t769 => (if t769 = true then ((laws_eqUserS.f k l0_11 l1_11).bind fun t770 => (if t770 = true then ((laws_eqDeedS.f k l0_12 l1_12).bind fun t771 => (if t771 = true then (some true) else (none))) else (none))) else (none))) else (none)) = some r := H
    have A5 := Aside0.mk A50
    clear A50
    by_cases c6 : t768 = true
    · subst c6
      have H1 : ((laws_eqSpotS.f k l0_10 l1_10).bind fun t769 => (if t769 = true then ((laws_eqUserS.f k l0_11 l1_11).bind fun t770 => (if t770 = true then ((laws_eqDeedS.f k l0_12 l1_12).bind fun t771 => (if t771 = true then (some true) else (none))) else (none))) else (none))) = some r := by rw [if_pos rfl] at H; exact H
      clear H
      have H := H1
      clear H1
      replace H := Option.bind_eq_some_iff.mp H
      obtain ⟨t769, A70, H⟩ := H
      replace H : (if t769 = true then ((laws_eqUserS.f k l0_11 l1_11).bind fun t770 => (if t770 = true then ((laws_eqDeedS.f k l0_12 l1_12).bind fun t771 => (if t771 = true then (some true) else (none))) else (none))) else (none)) = some r := H
      have A7 := Aside0.mk A70
      clear A70
      by_cases c8 : t769 = true
      · subst c8
        have H1 : ((laws_eqUserS.f k l0_11 l1_11).bind fun t770 => (if t770 = true then ((laws_eqDeedS.f k l0_12 l1_12).bind fun t771 => (if t771 = true then (some true) else (none))) else (none))) = some r := by rw [if_pos rfl] at H; exact H
        clear H
        have H := H1
        clear H1
        replace H := Option.bind_eq_some_iff.mp H
        obtain ⟨t770, A90, H⟩ := H
        replace H : (if t770 = true then ((laws_eqDeedS.f k l0_12 l1_12).bind fun t771 => (if t771 = true then (some true) else (none))) else (none)) = some r := H
        have A9 := Aside0.mk A90
        clear A90
        by_cases c10 : t770 = true
        · subst c10
          have H1 : ((laws_eqDeedS.f k l0_12 l1_12).bind fun t771 => (if t771 = true then (some true) else (none))) = some r := by rw [if_pos rfl] at H; exact H
          clear H
          have H := H1
          clear H1
          replace H := Option.bind_eq_some_iff.mp H
          obtain ⟨t771, A110, H⟩ := H
          replace H : (if t771 = true then (some true) else (none)) = some r := H
          have A11 := Aside0.mk A110
          clear A110
          by_cases c12 : t771 = true
          · subst c12
            have H1 : (some true) = some r := by rw [if_pos rfl] at H; exact H
            clear H
            have H := H1
            clear H1
            obtain rfl := Option.some.inj H
            go_enter Try.func37, Try.ntmps37
            go_wp2_with (first | ((with_reducible refine gate_dst (N := 2) rfl ?_); refine box_event ?hg (N := 2) ?hd (cs := #[.int .i64 a0_0, .int .i64 a0_1, .slice A0_2 l0_2.length c0_2, .slice A0_3 l0_3.length c0_3, .slice A0_4 l0_4.length c0_4, .slice A0_5 l0_5.length c0_5, .int .i64 a0_6, .slice A0_7 l0_7.length c0_7, .slice A0_8 l0_8.length c0_8, .slice A0_9 l0_9.length c0_9, .slice A0_10 l0_10.length c0_10, .slice A0_11 l0_11.length c0_11, .slice A0_12 l0_12.length c0_12]) (t := 76) ?hr ?_; (case hd => rfl); (case hg => rfl); (case hr => first | (go_simp; done) | (go_simp; rfl)); intro gb765 hg w13 hbox hb; have n0_ := Aside0.mk (below_step BL hb); have n1_ := Aside0.mk (hbox); have n2_ := Aside0.mk ((by rw [hg]; exact (below_size BL) : w.heap.size ≤ gb765)); have n3_ := Aside0.mk ((by rw [hg]; exact (below_size BL) : w.heap.size ≤ gb765)); clear HB; have HB := n0_; have BK765 := n1_; have GW765 := n2_; have GE765 := n3_; clear n0_ n1_ n2_ n3_; clear hb hbox hg) | ((with_reducible refine gate_dst (N := 3) rfl ?_); refine box_event ?hg (N := 3) ?hd (cs := #[.int .i64 a1_0, .int .i64 a1_1, .slice A1_2 l1_2.length c1_2, .slice A1_3 l1_3.length c1_3, .slice A1_4 l1_4.length c1_4, .slice A1_5 l1_5.length c1_5, .int .i64 a1_6, .slice A1_7 l1_7.length c1_7, .slice A1_8 l1_8.length c1_8, .slice A1_9 l1_9.length c1_9, .slice A1_10 l1_10.length c1_10, .slice A1_11 l1_11.length c1_11, .slice A1_12 l1_12.length c1_12]) (t := 76) ?hr ?_; (case hd => rfl); (case hg => rfl); (case hr => first | (go_simp; done) | (go_simp; rfl)); intro gb766 hg w14 hbox hb; have n0_ := Aside0.mk (blk_below (g := gb765) (o := .cells #[.int .i64 a0_0, .int .i64 a0_1, .slice A0_2 l0_2.length c0_2, .slice A0_3 l0_3.length c0_3, .slice A0_4 l0_4.length c0_4, .slice A0_5 l0_5.length c0_5, .int .i64 a0_6, .slice A0_7 l0_7.length c0_7, .slice A0_8 l0_8.length c0_8, .slice A0_9 l0_9.length c0_9, .slice A0_10 l0_10.length c0_10, .slice A0_11 l0_11.length c0_11, .slice A0_12 l0_12.length c0_12] 76 (0, 0)) (by (with_reducible repeat (first | refine blk_drewN ?_ _ | refine blk_drew ?_ | refine blk_alloc ?_ _)); exact BK765.out) hb); have n1_ := Aside0.mk (below_step BG hb); have n2_ := Aside0.mk (hbox); have n3_ := Aside0.mk ((by rw [hg]; exact (below_size BG) : w.heap.size ≤ gb766)); have n4_ := Aside0.mk ((by rw [hg]; exact (below_size BG) : w.heap.size ≤ gb766)); have n5_ := Aside0.mk ((by rw [hg]; exact Nat.ne_of_lt (blk_lt (g := gb765) (o := .cells #[.int .i64 a0_0, .int .i64 a0_1, .slice A0_2 l0_2.length c0_2, .slice A0_3 l0_3.length c0_3, .slice A0_4 l0_4.length c0_4, .slice A0_5 l0_5.length c0_5, .int .i64 a0_6, .slice A0_7 l0_7.length c0_7, .slice A0_8 l0_8.length c0_8, .slice A0_9 l0_9.length c0_9, .slice A0_10 l0_10.length c0_10, .slice A0_11 l0_11.length c0_11, .slice A0_12 l0_12.length c0_12] 76 (0, 0)) (by (with_reducible repeat (first | refine blk_drewN ?_ _ | refine blk_drew ?_ | refine blk_alloc ?_ _)); exact BK765.out)) : gb765 ≠ gb766)); have n6_ := Aside0.mk ((by rw [hg]; exact Nat.ne_of_gt (blk_lt (g := gb765) (o := .cells #[.int .i64 a0_0, .int .i64 a0_1, .slice A0_2 l0_2.length c0_2, .slice A0_3 l0_3.length c0_3, .slice A0_4 l0_4.length c0_4, .slice A0_5 l0_5.length c0_5, .int .i64 a0_6, .slice A0_7 l0_7.length c0_7, .slice A0_8 l0_8.length c0_8, .slice A0_9 l0_9.length c0_9, .slice A0_10 l0_10.length c0_10, .slice A0_11 l0_11.length c0_11, .slice A0_12 l0_12.length c0_12] 76 (0, 0)) (by (with_reducible repeat (first | refine blk_drewN ?_ _ | refine blk_drew ?_ | refine blk_alloc ?_ _)); exact BK765.out)) : gb766 ≠ gb765)); clear BK765; clear HB; have BK765 := n0_; have HB := n1_; have BK766 := n2_; have GW766 := n3_; have GE766 := n4_; have NB765_766 := n5_; have NB766_765 := n6_; clear n0_ n1_ n2_ n3_ n4_ n5_ n6_; clear hb hbox hg; have hnb15 := NB765_766.out; have hnc15 := NB766_765.out; obtain ⟨hcz16_0, hcz16_1, hcz16_2, hcz16_3, hcz16_4, hcz16_5, hcz16_6, hcz16_7, hcz16_8, hcz16_9, hcz16_10, hcz16_11, hcz16_12, hfz16_0, hfz16_1, hfz16_2, hfz16_3, hfz16_4, hfz16_5, hfz16_6, hfz16_7, hfz16_8, hfz16_9, hfz16_10, hfz16_11, hfz16_12⟩ := bk13 BK765.out; obtain ⟨hcz17_0, hcz17_1, hcz17_2, hcz17_3, hcz17_4, hcz17_5, hcz17_6, hcz17_7, hcz17_8, hcz17_9, hcz17_10, hcz17_11, hcz17_12, hfz17_0, hfz17_1, hfz17_2, hfz17_3, hfz17_4, hfz17_5, hfz17_6, hfz17_7, hfz17_8, hfz17_9, hfz17_10, hfz17_11, hfz17_12⟩ := bk13 BK766.out) | ((with_reducible refine gate_callee (f := 25) rfl ?_); refine goesL_ (some 9) rfl rfl Try.func25 (by kernel_rfl) rfl #[.agg #[.int .i64 a0_0, .int .i64 a0_1, .slice A0_2 l0_2.length c0_2, .slice A0_3 l0_3.length c0_3, .slice A0_4 l0_4.length c0_4], .agg #[.int .i64 a1_0, .int .i64 a1_1, .slice A1_2 l1_2.length c1_2, .slice A1_3 l1_3.length c1_3, .slice A1_4 l1_4.length c1_4]] rfl AQ ?_; (with_reducible refine (laws_eqThree.calls k a0_0 a0_1 _ _ l0_2 _ _ l0_3 _ _ l0_4 a1_0 a1_1 _ _ l1_2 _ _ l1_3 _ _ l1_4 true _ ?side1 ?side2 ?side3 ?side4 ?side5 ?side6 ?side7 ?side8 ?side9 ?side10 ?side11 ?side12 A3.out).mono ?_); (case side1 => repeat (first | exact (Kd.C_below HR0_2.out HB.out) | (with_reducible refine Kd.C_alloc ?_ _) | (with_reducible refine Kd.C_drewN ?_ _) | (with_reducible refine Kd.C_drew ?_))); (case side2 => exact HC0_2.out); (case side3 => repeat (first | exact (Kd.C_below HR0_3.out HB.out) | (with_reducible refine Kd.C_alloc ?_ _) | (with_reducible refine Kd.C_drewN ?_ _) | (with_reducible refine Kd.C_drew ?_))); (case side4 => exact HC0_3.out); (case side5 => repeat (first | exact (Kd.C_below HR0_4.out HB.out) | (with_reducible refine Kd.C_alloc ?_ _) | (with_reducible refine Kd.C_drewN ?_ _) | (with_reducible refine Kd.C_drew ?_))); (case side6 => exact HC0_4.out); (case side7 => repeat (first | exact (Kd.C_below HR1_2.out HB.out) | (with_reducible refine Kd.C_alloc ?_ _) | (with_reducible refine Kd.C_drewN ?_ _) | (with_reducible refine Kd.C_drew ?_))); (case side8 => exact HC1_2.out); (case side9 => repeat (first | exact (Kd.C_below HR1_3.out HB.out) | (with_reducible refine Kd.C_alloc ?_ _) | (with_reducible refine Kd.C_drewN ?_ _) | (with_reducible refine Kd.C_drew ?_))); (case side10 => exact HC1_3.out); (case side11 => repeat (first | exact (Kd.C_below HR1_4.out HB.out) | (with_reducible refine Kd.C_alloc ?_ _) | (with_reducible refine Kd.C_drewN ?_ _) | (with_reducible refine Kd.C_drew ?_))); (case side12 => exact HC1_4.out); rintro e w18 ⟨rfl, hb⟩; refine ⟨_, rfl, ?_⟩; have n0_ := Aside0.mk (blk_below (g := gb765) (o := .cells #[.int .i64 a0_0, .int .i64 a0_1, .slice A0_2 l0_2.length c0_2, .slice A0_3 l0_3.length c0_3, .slice A0_4 l0_4.length c0_4, .slice A0_5 l0_5.length c0_5, .int .i64 a0_6, .slice A0_7 l0_7.length c0_7, .slice A0_8 l0_8.length c0_8, .slice A0_9 l0_9.length c0_9, .slice A0_10 l0_10.length c0_10, .slice A0_11 l0_11.length c0_11, .slice A0_12 l0_12.length c0_12] 76 (0, 0)) (by (with_reducible repeat (first | refine blk_drewN ?_ _ | refine blk_drew ?_ | refine blk_alloc ?_ _)); exact BK765.out) hb); have n1_ := Aside0.mk (blk_below (g := gb766) (o := .cells #[.int .i64 a1_0, .int .i64 a1_1, .slice A1_2 l1_2.length c1_2, .slice A1_3 l1_3.length c1_3, .slice A1_4 l1_4.length c1_4, .slice A1_5 l1_5.length c1_5, .int .i64 a1_6, .slice A1_7 l1_7.length c1_7, .slice A1_8 l1_8.length c1_8, .slice A1_9 l1_9.length c1_9, .slice A1_10 l1_10.length c1_10, .slice A1_11 l1_11.length c1_11, .slice A1_12 l1_12.length c1_12] 76 (0, 0)) (by (with_reducible repeat (first | refine blk_drewN ?_ _ | refine blk_drew ?_ | refine blk_alloc ?_ _)); exact BK766.out) hb); have n2_ := Aside0.mk (below_step BG hb); clear BK765; clear BK766; clear HB; have BK765 := n0_; have BK766 := n1_; have HB := n2_; clear n0_ n1_ n2_; (try clear hb); (try clear hb2); (try clear hk); (try clear hi); obtain ⟨hcz19_0, hcz19_1, hcz19_2, hcz19_3, hcz19_4, hcz19_5, hcz19_6, hcz19_7, hcz19_8, hcz19_9, hcz19_10, hcz19_11, hcz19_12, hfz19_0, hfz19_1, hfz19_2, hfz19_3, hfz19_4, hfz19_5, hfz19_6, hfz19_7, hfz19_8, hfz19_9, hfz19_10, hfz19_11, hfz19_12⟩ := bk13 BK765.out; obtain ⟨hcz20_0, hcz20_1, hcz20_2, hcz20_3, hcz20_4, hcz20_5, hcz20_6, hcz20_7, hcz20_8, hcz20_9, hcz20_10, hcz20_11, hcz20_12, hfz20_0, hfz20_1, hfz20_2, hfz20_3, hfz20_4, hfz20_5, hfz20_6, hfz20_7, hfz20_8, hfz20_9, hfz20_10, hfz20_11, hfz20_12⟩ := bk13 BK766.out) | ((with_reducible refine gate_callee (f := 98) rfl ?_); refine goesL_ (some 15) rfl rfl Try.func98 (by kernel_rfl) rfl #[.agg #[.slice A0_5 l0_5.length c0_5, .int .i64 a0_6, .slice A0_7 l0_7.length c0_7, .slice A0_8 l0_8.length c0_8, .slice A0_9 l0_9.length c0_9], .agg #[.slice A1_5 l1_5.length c1_5, .int .i64 a1_6, .slice A1_7 l1_7.length c1_7, .slice A1_8 l1_8.length c1_8, .slice A1_9 l1_9.length c1_9]] rfl AQ ?_; (with_reducible refine (laws_eqPool.calls k _ _ l0_5 a0_6 _ _ l0_7 _ _ l0_8 _ _ l0_9 _ _ l1_5 a1_6 _ _ l1_7 _ _ l1_8 _ _ l1_9 true _ ?side1 ?side2 ?side3 ?side4 ?side5 ?side6 ?side7 ?side8 ?side9 ?side10 ?side11 ?side12 ?side13 ?side14 ?side15 ?side16 A5.out).mono ?_); (case side1 => repeat (first | exact (Kd.C_below HR0_5.out HB.out) | (with_reducible refine Kd.C_alloc ?_ _) | (with_reducible refine Kd.C_drewN ?_ _) | (with_reducible refine Kd.C_drew ?_))); (case side2 => exact HC0_5.out); (case side3 => repeat (first | exact (Kd.C_below HR0_7.out HB.out) | (with_reducible refine Kd.C_alloc ?_ _) | (with_reducible refine Kd.C_drewN ?_ _) | (with_reducible refine Kd.C_drew ?_))); (case side4 => exact HC0_7.out); (case side5 => repeat (first | exact (Kd.C_below HR0_8.out HB.out) | (with_reducible refine Kd.C_alloc ?_ _) | (with_reducible refine Kd.C_drewN ?_ _) | (with_reducible refine Kd.C_drew ?_))); (case side6 => exact HC0_8.out); (case side7 => repeat (first | exact (Kd.C_below HR0_9.out HB.out) | (with_reducible refine Kd.C_alloc ?_ _) | (with_reducible refine Kd.C_drewN ?_ _) | (with_reducible refine Kd.C_drew ?_))); (case side8 => exact HC0_9.out); (case side9 => repeat (first | exact (Kd.C_below HR1_5.out HB.out) | (with_reducible refine Kd.C_alloc ?_ _) | (with_reducible refine Kd.C_drewN ?_ _) | (with_reducible refine Kd.C_drew ?_))); (case side10 => exact HC1_5.out); (case side11 => repeat (first | exact (Kd.C_below HR1_7.out HB.out) | (with_reducible refine Kd.C_alloc ?_ _) | (with_reducible refine Kd.C_drewN ?_ _) | (with_reducible refine Kd.C_drew ?_))); (case side12 => exact HC1_7.out); (case side13 => repeat (first | exact (Kd.C_below HR1_8.out HB.out) | (with_reducible refine Kd.C_alloc ?_ _) | (with_reducible refine Kd.C_drewN ?_ _) | (with_reducible refine Kd.C_drew ?_))); (case side14 => exact HC1_8.out); (case side15 => repeat (first | exact (Kd.C_below HR1_9.out HB.out) | (with_reducible refine Kd.C_alloc ?_ _) | (with_reducible refine Kd.C_drewN ?_ _) | (with_reducible refine Kd.C_drew ?_))); (case side16 => exact HC1_9.out); rintro e w21 ⟨rfl, hb⟩; refine ⟨_, rfl, ?_⟩; have n0_ := Aside0.mk (blk_below (g := gb765) (o := .cells #[.int .i64 a0_0, .int .i64 a0_1, .slice A0_2 l0_2.length c0_2, .slice A0_3 l0_3.length c0_3, .slice A0_4 l0_4.length c0_4, .slice A0_5 l0_5.length c0_5, .int .i64 a0_6, .slice A0_7 l0_7.length c0_7, .slice A0_8 l0_8.length c0_8, .slice A0_9 l0_9.length c0_9, .slice A0_10 l0_10.length c0_10, .slice A0_11 l0_11.length c0_11, .slice A0_12 l0_12.length c0_12] 76 (0, 0)) (by (with_reducible repeat (first | refine blk_drewN ?_ _ | refine blk_drew ?_ | refine blk_alloc ?_ _)); exact BK765.out) hb); have n1_ := Aside0.mk (blk_below (g := gb766) (o := .cells #[.int .i64 a1_0, .int .i64 a1_1, .slice A1_2 l1_2.length c1_2, .slice A1_3 l1_3.length c1_3, .slice A1_4 l1_4.length c1_4, .slice A1_5 l1_5.length c1_5, .int .i64 a1_6, .slice A1_7 l1_7.length c1_7, .slice A1_8 l1_8.length c1_8, .slice A1_9 l1_9.length c1_9, .slice A1_10 l1_10.length c1_10, .slice A1_11 l1_11.length c1_11, .slice A1_12 l1_12.length c1_12] 76 (0, 0)) (by (with_reducible repeat (first | refine blk_drewN ?_ _ | refine blk_drew ?_ | refine blk_alloc ?_ _)); exact BK766.out) hb); have n2_ := Aside0.mk (below_step BG hb); clear BK765; clear BK766; clear HB; have BK765 := n0_; have BK766 := n1_; have HB := n2_; clear n0_ n1_ n2_; (try clear hb); (try clear hb2); (try clear hk); (try clear hi); obtain ⟨hcz22_0, hcz22_1, hcz22_2, hcz22_3, hcz22_4, hcz22_5, hcz22_6, hcz22_7, hcz22_8, hcz22_9, hcz22_10, hcz22_11, hcz22_12, hfz22_0, hfz22_1, hfz22_2, hfz22_3, hfz22_4, hfz22_5, hfz22_6, hfz22_7, hfz22_8, hfz22_9, hfz22_10, hfz22_11, hfz22_12⟩ := bk13 BK765.out; obtain ⟨hcz23_0, hcz23_1, hcz23_2, hcz23_3, hcz23_4, hcz23_5, hcz23_6, hcz23_7, hcz23_8, hcz23_9, hcz23_10, hcz23_11, hcz23_12, hfz23_0, hfz23_1, hfz23_2, hfz23_3, hfz23_4, hfz23_5, hfz23_6, hfz23_7, hfz23_8, hfz23_9, hfz23_10, hfz23_11, hfz23_12⟩ := bk13 BK766.out) | ((with_reducible refine gate_callee (f := 99) rfl ?_); refine goesL_ (some 21) rfl rfl Try.func99 (by kernel_rfl) rfl #[.slice A0_10 l0_10.length c0_10, .slice A1_10 l1_10.length c1_10] rfl AQ ?_; (with_reducible refine (laws_eqSpotS.calls k _ _ l0_10 _ _ l1_10 true _ ?side1 ?side2 ?side3 ?side4 A7.out).mono ?_); (case side1 => repeat (first | exact (Kd.C_below HR0_10.out HB.out) | (with_reducible refine Kd.C_alloc ?_ _) | (with_reducible refine Kd.C_drewN ?_ _) | (with_reducible refine Kd.C_drew ?_))); (case side2 => exact HC0_10.out); (case side3 => repeat (first | exact (Kd.C_below HR1_10.out HB.out) | (with_reducible refine Kd.C_alloc ?_ _) | (with_reducible refine Kd.C_drewN ?_ _) | (with_reducible refine Kd.C_drew ?_))); (case side4 => exact HC1_10.out); rintro e w24 ⟨rfl, hb⟩; refine ⟨_, rfl, ?_⟩; have n0_ := Aside0.mk (blk_below (g := gb765) (o := .cells #[.int .i64 a0_0, .int .i64 a0_1, .slice A0_2 l0_2.length c0_2, .slice A0_3 l0_3.length c0_3, .slice A0_4 l0_4.length c0_4, .slice A0_5 l0_5.length c0_5, .int .i64 a0_6, .slice A0_7 l0_7.length c0_7, .slice A0_8 l0_8.length c0_8, .slice A0_9 l0_9.length c0_9, .slice A0_10 l0_10.length c0_10, .slice A0_11 l0_11.length c0_11, .slice A0_12 l0_12.length c0_12] 76 (0, 0)) (by (with_reducible repeat (first | refine blk_drewN ?_ _ | refine blk_drew ?_ | refine blk_alloc ?_ _)); exact BK765.out) hb); have n1_ := Aside0.mk (blk_below (g := gb766) (o := .cells #[.int .i64 a1_0, .int .i64 a1_1, .slice A1_2 l1_2.length c1_2, .slice A1_3 l1_3.length c1_3, .slice A1_4 l1_4.length c1_4, .slice A1_5 l1_5.length c1_5, .int .i64 a1_6, .slice A1_7 l1_7.length c1_7, .slice A1_8 l1_8.length c1_8, .slice A1_9 l1_9.length c1_9, .slice A1_10 l1_10.length c1_10, .slice A1_11 l1_11.length c1_11, .slice A1_12 l1_12.length c1_12] 76 (0, 0)) (by (with_reducible repeat (first | refine blk_drewN ?_ _ | refine blk_drew ?_ | refine blk_alloc ?_ _)); exact BK766.out) hb); have n2_ := Aside0.mk (below_step BG hb); clear BK765; clear BK766; clear HB; have BK765 := n0_; have BK766 := n1_; have HB := n2_; clear n0_ n1_ n2_; (try clear hb); (try clear hb2); (try clear hk); (try clear hi); obtain ⟨hcz25_0, hcz25_1, hcz25_2, hcz25_3, hcz25_4, hcz25_5, hcz25_6, hcz25_7, hcz25_8, hcz25_9, hcz25_10, hcz25_11, hcz25_12, hfz25_0, hfz25_1, hfz25_2, hfz25_3, hfz25_4, hfz25_5, hfz25_6, hfz25_7, hfz25_8, hfz25_9, hfz25_10, hfz25_11, hfz25_12⟩ := bk13 BK765.out; obtain ⟨hcz26_0, hcz26_1, hcz26_2, hcz26_3, hcz26_4, hcz26_5, hcz26_6, hcz26_7, hcz26_8, hcz26_9, hcz26_10, hcz26_11, hcz26_12, hfz26_0, hfz26_1, hfz26_2, hfz26_3, hfz26_4, hfz26_5, hfz26_6, hfz26_7, hfz26_8, hfz26_9, hfz26_10, hfz26_11, hfz26_12⟩ := bk13 BK766.out) | ((with_reducible refine gate_callee (f := 100) rfl ?_); refine goesL_ (some 27) rfl rfl Try.func100 (by kernel_rfl) rfl #[.slice A0_11 l0_11.length c0_11, .slice A1_11 l1_11.length c1_11] rfl AQ ?_; (with_reducible refine (laws_eqUserS.calls k _ _ l0_11 _ _ l1_11 true _ ?side1 ?side2 ?side3 ?side4 A9.out).mono ?_); (case side1 => repeat (first | exact (Kd.C_below HR0_11.out HB.out) | (with_reducible refine Kd.C_alloc ?_ _) | (with_reducible refine Kd.C_drewN ?_ _) | (with_reducible refine Kd.C_drew ?_))); (case side2 => exact HC0_11.out); (case side3 => repeat (first | exact (Kd.C_below HR1_11.out HB.out) | (with_reducible refine Kd.C_alloc ?_ _) | (with_reducible refine Kd.C_drewN ?_ _) | (with_reducible refine Kd.C_drew ?_))); (case side4 => exact HC1_11.out); rintro e w27 ⟨rfl, hb⟩; refine ⟨_, rfl, ?_⟩; have n0_ := Aside0.mk (blk_below (g := gb765) (o := .cells #[.int .i64 a0_0, .int .i64 a0_1, .slice A0_2 l0_2.length c0_2, .slice A0_3 l0_3.length c0_3, .slice A0_4 l0_4.length c0_4, .slice A0_5 l0_5.length c0_5, .int .i64 a0_6, .slice A0_7 l0_7.length c0_7, .slice A0_8 l0_8.length c0_8, .slice A0_9 l0_9.length c0_9, .slice A0_10 l0_10.length c0_10, .slice A0_11 l0_11.length c0_11, .slice A0_12 l0_12.length c0_12] 76 (0, 0)) (by (with_reducible repeat (first | refine blk_drewN ?_ _ | refine blk_drew ?_ | refine blk_alloc ?_ _)); exact BK765.out) hb); have n1_ := Aside0.mk (blk_below (g := gb766) (o := .cells #[.int .i64 a1_0, .int .i64 a1_1, .slice A1_2 l1_2.length c1_2, .slice A1_3 l1_3.length c1_3, .slice A1_4 l1_4.length c1_4, .slice A1_5 l1_5.length c1_5, .int .i64 a1_6, .slice A1_7 l1_7.length c1_7, .slice A1_8 l1_8.length c1_8, .slice A1_9 l1_9.length c1_9, .slice A1_10 l1_10.length c1_10, .slice A1_11 l1_11.length c1_11, .slice A1_12 l1_12.length c1_12] 76 (0, 0)) (by (with_reducible repeat (first | refine blk_drewN ?_ _ | refine blk_drew ?_ | refine blk_alloc ?_ _)); exact BK766.out) hb); have n2_ := Aside0.mk (below_step BG hb); clear BK765; clear BK766; clear HB; have BK765 := n0_; have BK766 := n1_; have HB := n2_; clear n0_ n1_ n2_; (try clear hb); (try clear hb2); (try clear hk); (try clear hi); obtain ⟨hcz28_0, hcz28_1, hcz28_2, hcz28_3, hcz28_4, hcz28_5, hcz28_6, hcz28_7, hcz28_8, hcz28_9, hcz28_10, hcz28_11, hcz28_12, hfz28_0, hfz28_1, hfz28_2, hfz28_3, hfz28_4, hfz28_5, hfz28_6, hfz28_7, hfz28_8, hfz28_9, hfz28_10, hfz28_11, hfz28_12⟩ := bk13 BK765.out; obtain ⟨hcz29_0, hcz29_1, hcz29_2, hcz29_3, hcz29_4, hcz29_5, hcz29_6, hcz29_7, hcz29_8, hcz29_9, hcz29_10, hcz29_11, hcz29_12, hfz29_0, hfz29_1, hfz29_2, hfz29_3, hfz29_4, hfz29_5, hfz29_6, hfz29_7, hfz29_8, hfz29_9, hfz29_10, hfz29_11, hfz29_12⟩ := bk13 BK766.out) | ((with_reducible refine gate_callee (f := 101) rfl ?_); refine goesL_ (some 33) rfl rfl Try.func101 (by kernel_rfl) rfl #[.slice A0_12 l0_12.length c0_12, .slice A1_12 l1_12.length c1_12] rfl AQ ?_; (with_reducible refine (laws_eqDeedS.calls k _ _ l0_12 _ _ l1_12 true _ ?side1 ?side2 ?side3 ?side4 A11.out).mono ?_); (case side1 => repeat (first | exact (Kd.C_below HR0_12.out HB.out) | (with_reducible refine Kd.C_alloc ?_ _) | (with_reducible refine Kd.C_drewN ?_ _) | (with_reducible refine Kd.C_drew ?_))); (case side2 => exact HC0_12.out); (case side3 => repeat (first | exact (Kd.C_below HR1_12.out HB.out) | (with_reducible refine Kd.C_alloc ?_ _) | (with_reducible refine Kd.C_drewN ?_ _) | (with_reducible refine Kd.C_drew ?_))); (case side4 => exact HC1_12.out); rintro e w30 ⟨rfl, hb⟩; refine ⟨_, rfl, ?_⟩; have n0_ := Aside0.mk (blk_below (g := gb765) (o := .cells #[.int .i64 a0_0, .int .i64 a0_1, .slice A0_2 l0_2.length c0_2, .slice A0_3 l0_3.length c0_3, .slice A0_4 l0_4.length c0_4, .slice A0_5 l0_5.length c0_5, .int .i64 a0_6, .slice A0_7 l0_7.length c0_7, .slice A0_8 l0_8.length c0_8, .slice A0_9 l0_9.length c0_9, .slice A0_10 l0_10.length c0_10, .slice A0_11 l0_11.length c0_11, .slice A0_12 l0_12.length c0_12] 76 (0, 0)) (by (with_reducible repeat (first | refine blk_drewN ?_ _ | refine blk_drew ?_ | refine blk_alloc ?_ _)); exact BK765.out) hb); have n1_ := Aside0.mk (blk_below (g := gb766) (o := .cells #[.int .i64 a1_0, .int .i64 a1_1, .slice A1_2 l1_2.length c1_2, .slice A1_3 l1_3.length c1_3, .slice A1_4 l1_4.length c1_4, .slice A1_5 l1_5.length c1_5, .int .i64 a1_6, .slice A1_7 l1_7.length c1_7, .slice A1_8 l1_8.length c1_8, .slice A1_9 l1_9.length c1_9, .slice A1_10 l1_10.length c1_10, .slice A1_11 l1_11.length c1_11, .slice A1_12 l1_12.length c1_12] 76 (0, 0)) (by (with_reducible repeat (first | refine blk_drewN ?_ _ | refine blk_drew ?_ | refine blk_alloc ?_ _)); exact BK766.out) hb); have n2_ := Aside0.mk (below_step BG hb); clear BK765; clear BK766; clear HB; have BK765 := n0_; have BK766 := n1_; have HB := n2_; clear n0_ n1_ n2_; (try clear hb); (try clear hb2); (try clear hk); (try clear hi)))
            go_ret
            exact ⟨by first | rfl | (simp [errW_none, errW_some] <;> rfl) | (simp [*, errW_none, errW_some] <;> rfl), BG⟩
          · replace c12 := Bool.eq_false_iff.mpr c12
            subst c12
            have H1 : (none) = some r := by rw [if_neg (show ¬ (false = true) by decide)] at H; exact H
            clear H
            have H := H1
            clear H1
            exact absurd H (by simp)
        · replace c10 := Bool.eq_false_iff.mpr c10
          subst c10
          have H1 : (none) = some r := by rw [if_neg (show ¬ (false = true) by decide)] at H; exact H
          clear H
          have H := H1
          clear H1
          exact absurd H (by simp)
      · replace c8 := Bool.eq_false_iff.mpr c8
        subst c8
        have H1 : (none) = some r := by rw [if_neg (show ¬ (false = true) by decide)] at H; exact H
        clear H
        have H := H1
        clear H1
        exact absurd H (by simp)
    · replace c6 := Bool.eq_false_iff.mpr c6
      subst c6
      have H1 : (none) = some r := by rw [if_neg (show ¬ (false = true) by decide)] at H; exact H
      clear H
      have H := H1
      clear H1
      exact absurd H (by simp)
  · replace c4 := Bool.eq_false_iff.mpr c4
    subst c4
    have H1 : (none) = some r := by rw [if_neg (show ¬ (false = true) by decide)] at H; exact H
    clear H
    have H := H1
    clear H1
    exact absurd H (by simp)
end Go.Proofs.Ytmbfjhhlpnjeoaa.G

namespace Go.Proofs.Ytmbfjhhlpnjeoaa.G
open Go.RowKit Go.Proofs.YtmbfjhhlpnjeoaaW.PrintWords Go.Proofs.YtmbfjhhlpnjeoaaW.PrintLast Go.Proofs.YtmbfjhhlpnjeoaaW.PrintMore Go.Proofs.Ytmbfjhhlpnjeoaa.Sh
attribute [local go_sem] max2_int min2_int max_two min_two max_three min_three max_four min_four
set_option linter.unusedVariables false
set_option linter.unusedSimpArgs false
def laws_FnExactPlaceOf.f (k : Nat) (a0_0 : Int) (a0_1 : Int) (l0_2 : List (S161)) (l0_3 : List (S161)) (l0_4 : List Int) (l0_5 : List Int) (a0_6 : Int) (l0_7 : List Int) (l0_8 : List (S221)) (l0_9 : List Int) (l0_10 : List (S174)) (l0_11 : List (S179)) (l0_12 : List (S186)) (a1 : ByteArray) : Option (Bool) := if (a1.size : Int) > 1048576 then (some true) else ((laws_szDesk.f k a0_0 a0_1 l0_2 l0_3 l0_4 l0_5 a0_6 l0_7 l0_8 l0_9 l0_10 l0_11 l0_12 1048576).bind fun t773 => (if t773 < 0 then (some true) else ((laws_toDesk.f k a0_0 a0_1 l0_2 l0_3 l0_4 l0_5 a0_6 l0_7 l0_8 l0_9 l0_10 l0_11 l0_12).bind fun bt774 => ((spec_PlaceOf.f k bt774.1 bt774.2.1 bt774.2.2.1 bt774.2.2.2.1 bt774.2.2.2.2.1 bt774.2.2.2.2.2.1 bt774.2.2.2.2.2.2.1 bt774.2.2.2.2.2.2.2.1 bt774.2.2.2.2.2.2.2.2.1 bt774.2.2.2.2.2.2.2.2.2.1 bt774.2.2.2.2.2.2.2.2.2.2.1 bt774.2.2.2.2.2.2.2.2.2.2.2.1 bt774.2.2.2.2.2.2.2.2.2.2.2.2 a1).bind fun t807 => ((laws_toDesk.f k a0_0 a0_1 l0_2 l0_3 l0_4 l0_5 a0_6 l0_7 l0_8 l0_9 l0_10 l0_11 l0_12).bind fun bt808 => ((impl_PlaceOf.f k bt808.1 bt808.2.1 bt808.2.2.1 bt808.2.2.2.1 bt808.2.2.2.2.1 bt808.2.2.2.2.2.1 bt808.2.2.2.2.2.2.1 bt808.2.2.2.2.2.2.2.1 bt808.2.2.2.2.2.2.2.2.1 bt808.2.2.2.2.2.2.2.2.2.1 bt808.2.2.2.2.2.2.2.2.2.2.1 bt808.2.2.2.2.2.2.2.2.2.2.2.1 bt808.2.2.2.2.2.2.2.2.2.2.2.2 a1).bind fun t842 => (if t842 = t807 then ((laws_toDesk.f k a0_0 a0_1 l0_2 l0_3 l0_4 l0_5 a0_6 l0_7 l0_8 l0_9 l0_10 l0_11 l0_12).bind fun bt843 => ((laws_eqDesk.f k bt808.1 bt808.2.1 bt808.2.2.1 bt808.2.2.2.1 bt808.2.2.2.2.1 bt808.2.2.2.2.2.1 bt808.2.2.2.2.2.2.1 bt808.2.2.2.2.2.2.2.1 bt808.2.2.2.2.2.2.2.2.1 bt808.2.2.2.2.2.2.2.2.2.1 bt808.2.2.2.2.2.2.2.2.2.2.1 bt808.2.2.2.2.2.2.2.2.2.2.2.1 bt808.2.2.2.2.2.2.2.2.2.2.2.2 bt843.1 bt843.2.1 bt843.2.2.1 bt843.2.2.2.1 bt843.2.2.2.2.1 bt843.2.2.2.2.2.1 bt843.2.2.2.2.2.2.1 bt843.2.2.2.2.2.2.2.1 bt843.2.2.2.2.2.2.2.2.1 bt843.2.2.2.2.2.2.2.2.2.1 bt843.2.2.2.2.2.2.2.2.2.2.1 bt843.2.2.2.2.2.2.2.2.2.2.2.1 bt843.2.2.2.2.2.2.2.2.2.2.2.2).bind fun t876 => (if t876 = true then (some true) else (none)))) else (none))))))))
theorem laws_FnExactPlaceOf.mono : ∀ a0 a1 a2 a3 a4 a5 a6 a7 a8 a9 a10 a11 a12 a13 k, LeO (laws_FnExactPlaceOf.f k a0 a1 a2 a3 a4 a5 a6 a7 a8 a9 a10 a11 a12 a13) (laws_FnExactPlaceOf.f (k + 1) a0 a1 a2 a3 a4 a5 a6 a7 a8 a9 a10 a11 a12 a13) := by
  intro a0 a1 a2 a3 a4 a5 a6 a7 a8 a9 a10 a11 a12 a13 k
  unfold laws_FnExactPlaceOf.f
  repeat' first
      | (with_reducible exact impl_PlaceOf.mono _ _ _ _ _ _ _ _ _ _ _ _ _ _ _)
      | (with_reducible exact laws_eqDesk.mono _ _ _ _ _ _ _ _ _ _ _ _ _ _ _ _ _ _ _ _ _ _ _ _ _ _ _)
      | (with_reducible exact laws_szDesk.mono _ _ _ _ _ _ _ _ _ _ _ _ _ _ _)
      | (with_reducible exact laws_toDesk.mono _ _ _ _ _ _ _ _ _ _ _ _ _ _)
      | (with_reducible exact spec_PlaceOf.mono _ _ _ _ _ _ _ _ _ _ _ _ _ _ _)
      | (with_reducible exact LeO.refl _)
      | (with_reducible exact LeO.none _)
      | (with_reducible refine LeO.ite ?_ ?_)
      | (with_reducible refine LeO.bind ?_ (fun _ => ?_))
      | exact impl_PlaceOf.mono _ _ _ _ _ _ _ _ _ _ _ _ _ _ _
      | exact laws_eqDesk.mono _ _ _ _ _ _ _ _ _ _ _ _ _ _ _ _ _ _ _ _ _ _ _ _ _ _ _
      | exact laws_szDesk.mono _ _ _ _ _ _ _ _ _ _ _ _ _ _ _
      | exact laws_toDesk.mono _ _ _ _ _ _ _ _ _ _ _ _ _ _
      | exact spec_PlaceOf.mono _ _ _ _ _ _ _ _ _ _ _ _ _ _ _
      | exact LeO.none _
      | refine LeO.ite ?_ ?_
      | refine LeO.bind ?_ (fun _ => ?_)
set_option maxHeartbeats 8000000 in
set_option maxRecDepth 100000 in
theorem laws_FnExactPlaceOf.calls (k : Nat) (a0_0 : Int) (a0_1 : Int) (A0_2 : Option Addr) (c0_2 : Nat) (l0_2 : List (S161)) (A0_3 : Option Addr) (c0_3 : Nat) (l0_3 : List (S161)) (A0_4 : Option Addr) (c0_4 : Nat) (l0_4 : List Int) (A0_5 : Option Addr) (c0_5 : Nat) (l0_5 : List Int) (a0_6 : Int) (A0_7 : Option Addr) (c0_7 : Nat) (l0_7 : List Int) (A0_8 : Option Addr) (c0_8 : Nat) (l0_8 : List (S221)) (A0_9 : Option Addr) (c0_9 : Nat) (l0_9 : List Int) (A0_10 : Option Addr) (c0_10 : Nat) (l0_10 : List (S174)) (A0_11 : Option Addr) (c0_11 : Nat) (l0_11 : List (S179)) (A0_12 : Option Addr) (c0_12 : Nat) (l0_12 : List (S186)) (a1 : ByteArray) (r : Bool) (w : World) (hr0_2 : Kd.C k161 w A0_2 l0_2.length l0_2) (hc0_2 : l0_2.length ≤ c0_2) (hr0_3 : Kd.C k161 w A0_3 l0_3.length l0_3) (hc0_3 : l0_3.length ≤ c0_3) (hr0_4 : Kd.C (Kd.int .i64) w A0_4 l0_4.length l0_4) (hc0_4 : l0_4.length ≤ c0_4) (hr0_5 : Kd.C (Kd.int .i64) w A0_5 l0_5.length l0_5) (hc0_5 : l0_5.length ≤ c0_5) (hr0_7 : Kd.C (Kd.int .i64) w A0_7 l0_7.length l0_7) (hc0_7 : l0_7.length ≤ c0_7) (hr0_8 : Kd.C k221 w A0_8 l0_8.length l0_8) (hc0_8 : l0_8.length ≤ c0_8) (hr0_9 : Kd.C (Kd.int .i64) w A0_9 l0_9.length l0_9) (hc0_9 : l0_9.length ≤ c0_9) (hr0_10 : Kd.C k174 w A0_10 l0_10.length l0_10) (hc0_10 : l0_10.length ≤ c0_10) (hr0_11 : Kd.C k179 w A0_11 l0_11.length l0_11) (hc0_11 : l0_11.length ≤ c0_11) (hr0_12 : Kd.C k186 w A0_12 l0_12.length l0_12) (hc0_12 : l0_12.length ≤ c0_12) (h : laws_FnExactPlaceOf.f k a0_0 a0_1 l0_2 l0_3 l0_4 l0_5 a0_6 l0_7 l0_8 l0_9 l0_10 l0_11 l0_12 a1 = some r) :
    Calls Try.prog 8 #[.agg #[.int .i64 a0_0, .int .i64 a0_1, .slice A0_2 l0_2.length c0_2, .slice A0_3 l0_3.length c0_3, .slice A0_4 l0_4.length c0_4, .slice A0_5 l0_5.length c0_5, .int .i64 a0_6, .slice A0_7 l0_7.length c0_7, .slice A0_8 l0_8.length c0_8, .slice A0_9 l0_9.length c0_9, .slice A0_10 l0_10.length c0_10, .slice A0_11 l0_11.length c0_11, .slice A0_12 l0_12.length c0_12], .string a1] w fun e w' => e = .returned (.bool r) ∧ Below w.heap.size w w' := by
  have hu64 := Try.underlying64
  have hu76 := Try.underlying76
  have HR0_2 := Aside0.mk hr0_2
  have HC0_2 := Aside0.mk hc0_2
  clear hr0_2 hc0_2
  have HR0_3 := Aside0.mk hr0_3
  have HC0_3 := Aside0.mk hc0_3
  clear hr0_3 hc0_3
  have HR0_4 := Aside0.mk hr0_4
  have HC0_4 := Aside0.mk hc0_4
  clear hr0_4 hc0_4
  have HR0_5 := Aside0.mk hr0_5
  have HC0_5 := Aside0.mk hc0_5
  clear hr0_5 hc0_5
  have HR0_7 := Aside0.mk hr0_7
  have HC0_7 := Aside0.mk hc0_7
  clear hr0_7 hc0_7
  have HR0_8 := Aside0.mk hr0_8
  have HC0_8 := Aside0.mk hc0_8
  clear hr0_8 hc0_8
  have HR0_9 := Aside0.mk hr0_9
  have HC0_9 := Aside0.mk hc0_9
  clear hr0_9 hc0_9
  have HR0_10 := Aside0.mk hr0_10
  have HC0_10 := Aside0.mk hc0_10
  clear hr0_10 hc0_10
  have HR0_11 := Aside0.mk hr0_11
  have HC0_11 := Aside0.mk hc0_11
  clear hr0_11 hc0_11
  have HR0_12 := Aside0.mk hr0_12
  have HC0_12 := Aside0.mk hc0_12
  clear hr0_12 hc0_12
  have HB := Aside0.mk (Below.refl w.heap.size w)
  have H : (if (a1.size : Int) > 1048576 then (some true) else ((laws_szDesk.f k a0_0 a0_1 l0_2 l0_3 l0_4 l0_5 a0_6 l0_7 l0_8 l0_9 l0_10 l0_11 l0_12 1048576).bind fun t773 => (if t773 < 0 then (some true) else ((laws_toDesk.f k a0_0 a0_1 l0_2 l0_3 l0_4 l0_5 a0_6 l0_7 l0_8 l0_9 l0_10 l0_11 l0_12).bind fun bt774 => ((spec_PlaceOf.f k bt774.1 bt774.2.1 bt774.2.2.1 bt774.2.2.2.1 bt774.2.2.2.2.1 bt774.2.2.2.2.2.1 bt774.2.2.2.2.2.2.1 bt774.2.2.2.2.2.2.2.1 bt774.2.2.2.2.2.2.2.2.1 bt774.2.2.2.2.2.2.2.2.2.1 bt774.2.2.2.2.2.2.2.2.2.2.1 bt774.2.2.2.2.2.2.2.2.2.2.2.1 bt774.2.2.2.2.2.2.2.2.2.2.2.2 a1).bind fun t807 => ((laws_toDesk.f k a0_0 a0_1 l0_2 l0_3 l0_4 l0_5 a0_6 l0_7 l0_8 l0_9 l0_10 l0_11 l0_12).bind fun bt808 => ((impl_PlaceOf.f k bt808.1 bt808.2.1 bt808.2.2.1 bt808.2.2.2.1 bt808.2.2.2.2.1 bt808.2.2.2.2.2.1 bt808.2.2.2.2.2.2.1 bt808.2.2.2.2.2.2.2.1 bt808.2.2.2.2.2.2.2.2.1 bt808.2.2.2.2.2.2.2.2.2.1 bt808.2.2.2.2.2.2.2.2.2.2.1 bt808.2.2.2.2.2.2.2.2.2.2.2.1 bt808.2.2.2.2.2.2.2.2.2.2.2.2 a1).bind fun t842 => (if t842 = t807 then ((laws_toDesk.f k a0_0 a0_1 l0_2 l0_3 l0_4 l0_5 a0_6 l0_7 l0_8 l0_9 l0_10 l0_11 l0_12).bind fun bt843 => ((laws_eqDesk.f k bt808.1 bt808.2.1 bt808.2.2.1 bt808.2.2.2.1 bt808.2.2.2.2.1 bt808.2.2.2.2.2.1 bt808.2.2.2.2.2.2.1 bt808.2.2.2.2.2.2.2.1 bt808.2.2.2.2.2.2.2.2.1 bt808.2.2.2.2.2.2.2.2.2.1 bt808.2.2.2.2.2.2.2.2.2.2.1 bt808.2.2.2.2.2.2.2.2.2.2.2.1 bt808.2.2.2.2.2.2.2.2.2.2.2.2 bt843.1 bt843.2.1 bt843.2.2.1 bt843.2.2.2.1 bt843.2.2.2.2.1 bt843.2.2.2.2.2.1 bt843.2.2.2.2.2.2.1 bt843.2.2.2.2.2.2.2.1 bt843.2.2.2.2.2.2.2.2.1 bt843.2.2.2.2.2.2.2.2.2.1 bt843.2.2.2.2.2.2.2.2.2.2.1 bt843.2.2.2.2.2.2.2.2.2.2.2.1 bt843.2.2.2.2.2.2.2.2.2.2.2.2).bind fun t876 => (if t876 = true then (some true) else (none)))) else (none))))))))) = some r := h
  clear h
  by_cases c3 : (a1.size : Int) > 1048576
  · rw [if_pos c3] at H
    have c3b0 : decide (1048576 < (a1.size : Int)) = true := decide_eq_true c3
    have c3b1 : decide (1048576 < a1.size) = true := decide_eq_true (by omega)
    clear c3
    obtain rfl := Option.some.inj H
    go_enter Try.func8, Try.ntmps8
    go_wp2_with (first | ((with_reducible refine gate_dst (N := 2) rfl ?_); refine box_event ?hg (N := 2) ?hd (cs := #[.int .i64 a0_0, .int .i64 a0_1, .slice A0_2 l0_2.length c0_2, .slice A0_3 l0_3.length c0_3, .slice A0_4 l0_4.length c0_4, .slice A0_5 l0_5.length c0_5, .int .i64 a0_6, .slice A0_7 l0_7.length c0_7, .slice A0_8 l0_8.length c0_8, .slice A0_9 l0_9.length c0_9, .slice A0_10 l0_10.length c0_10, .slice A0_11 l0_11.length c0_11, .slice A0_12 l0_12.length c0_12]) (t := 64) ?hr ?_; (case hd => rfl); (case hg => rfl); (case hr => first | (go_simp; done) | (go_simp; rfl)); intro gb772 hg w4 hbox hb; have n0_ := Aside0.mk (below_step BL hb); have n1_ := Aside0.mk (hbox); have n2_ := Aside0.mk ((by rw [hg]; exact (below_size BL) : w.heap.size ≤ gb772)); have n3_ := Aside0.mk ((by rw [hg]; exact (below_size BL) : w.heap.size ≤ gb772)); clear HB; have HB := n0_; have BK772 := n1_; have GW772 := n2_; have GE772 := n3_; clear n0_ n1_ n2_ n3_; clear hb hbox hg))
    go_ret
    exact ⟨by first | rfl | (simp [errW_none, errW_some] <;> rfl) | (simp [*, errW_none, errW_some] <;> rfl), BG⟩
  · rw [if_neg c3] at H
    have c3b0 : decide (1048576 < (a1.size : Int)) = false := decide_eq_false c3
    have c3b1 : decide (1048576 < a1.size) = false := decide_eq_false (by omega)
    clear c3
    replace H := Option.bind_eq_some_iff.mp H
    obtain ⟨t773, A50, H⟩ := H
    replace H : (if t773 < 0 then (some true) else ((laws_toDesk.f k a0_0 a0_1 l0_2 l0_3 l0_4 l0_5 a0_6 l0_7 l0_8 l0_9 l0_10 l0_11 l0_12).bind fun bt774 => ((spec_PlaceOf.f k bt774.1 bt774.2.1 bt774.2.2.1 bt774.2.2.2.1 bt774.2.2.2.2.1 bt774.2.2.2.2.2.1 bt774.2.2.2.2.2.2.1 bt774.2.2.2.2.2.2.2.1 bt774.2.2.2.2.2.2.2.2.1 bt774.2.2.2.2.2.2.2.2.2.1 bt774.2.2.2.2.2.2.2.2.2.2.1 bt774.2.2.2.2.2.2.2.2.2.2.2.1 bt774.2.2.2.2.2.2.2.2.2.2.2.2 a1).bind fun t807 => ((laws_toDesk.f k a0_0 a0_1 l0_2 l0_3 l0_4 l0_5 a0_6 l0_7 l0_8 l0_9 l0_10 l0_11 l0_12).bind fun bt808 => ((impl_PlaceOf.f k bt808.1 bt808.2.1 bt808.2.2.1 bt808.2.2.2.1 bt808.2.2.2.2.1 bt808.2.2.2.2.2.1 bt808.2.2.2.2.2.2.1 bt808.2.2.2.2.2.2.2.1 bt808.2.2.2.2.2.2.2.2.1 bt808.2.2.2.2.2.2.2.2.2.1 bt808.2.2.2.2.2.2.2.2.2.2.1 bt808.2.2.2.2.2.2.2.2.2.2.2.1 bt808.2.2.2.2.2.2.2.2.2.2.2.2 a1).bind fun t842 => (if t842 = t807 then ((laws_toDesk.f k a0_0 a0_1 l0_2 l0_3 l0_4 l0_5 a0_6 l0_7 l0_8 l0_9 l0_10 l0_11 l0_12).bind fun bt843 => ((laws_eqDesk.f k bt808.1 bt808.2.1 bt808.2.2.1 bt808.2.2.2.1 bt808.2.2.2.2.1 bt808.2.2.2.2.2.1 bt808.2.2.2.2.2.2.1 bt808.2.2.2.2.2.2.2.1 bt808.2.2.2.2.2.2.2.2.1 bt808.2.2.2.2.2.2.2.2.2.1 bt808.2.2.2.2.2.2.2.2.2.2.1 bt808.2.2.2.2.2.2.2.2.2.2.2.1 bt808.2.2.2.2.2.2.2.2.2.2.2.2 bt843.1 bt843.2.1 bt843.2.2.1 bt843.2.2.2.1 bt843.2.2.2.2.1 bt843.2.2.2.2.2.1 bt843.2.2.2.2.2.2.1 bt843.2.2.2.2.2.2.2.1 bt843.2.2.2.2.2.2.2.2.1 bt843.2.2.2.2.2.2.2.2.2.1 bt843.2.2.2.2.2.2.2.2.2.2.1 bt843.2.2.2.2.2.2.2.2.2.2.2.1 bt843.2.2.2.2.2.2.2.2.2.2.2.2).bind fun t876 => (if t876 = true then (some true) else (none)))) else (none))))))) = some r := H
    have A5 := Aside0.mk A50
    clear A50
    by_cases c6 : t773 < 0
    · rw [if_pos c6] at H
      have c6b0 : decide (t773 < 0) = true := decide_eq_true c6
      clear c6
      obtain rfl := Option.some.inj H
      go_enter Try.func8, Try.ntmps8
      go_wp2_with (first | ((with_reducible refine gate_dst (N := 2) rfl ?_); refine box_event ?hg (N := 2) ?hd (cs := #[.int .i64 a0_0, .int .i64 a0_1, .slice A0_2 l0_2.length c0_2, .slice A0_3 l0_3.length c0_3, .slice A0_4 l0_4.length c0_4, .slice A0_5 l0_5.length c0_5, .int .i64 a0_6, .slice A0_7 l0_7.length c0_7, .slice A0_8 l0_8.length c0_8, .slice A0_9 l0_9.length c0_9, .slice A0_10 l0_10.length c0_10, .slice A0_11 l0_11.length c0_11, .slice A0_12 l0_12.length c0_12]) (t := 64) ?hr ?_; (case hd => rfl); (case hg => rfl); (case hr => first | (go_simp; done) | (go_simp; rfl)); intro gb772 hg w7 hbox hb; have n0_ := Aside0.mk (below_step BL hb); have n1_ := Aside0.mk (hbox); have n2_ := Aside0.mk ((by rw [hg]; exact (below_size BL) : w.heap.size ≤ gb772)); have n3_ := Aside0.mk ((by rw [hg]; exact (below_size BL) : w.heap.size ≤ gb772)); clear HB; have HB := n0_; have BK772 := n1_; have GW772 := n2_; have GE772 := n3_; clear n0_ n1_ n2_ n3_; clear hb hbox hg; obtain ⟨hcz8_0, hcz8_1, hcz8_2, hcz8_3, hcz8_4, hcz8_5, hcz8_6, hcz8_7, hcz8_8, hcz8_9, hcz8_10, hcz8_11, hcz8_12, hfz8_0, hfz8_1, hfz8_2, hfz8_3, hfz8_4, hfz8_5, hfz8_6, hfz8_7, hfz8_8, hfz8_9, hfz8_10, hfz8_11, hfz8_12⟩ := bk13 BK772.out) | ((with_reducible refine gate_callee (f := 33) rfl ?_); refine goesL_ (some 14) rfl rfl Try.func33 (by kernel_rfl) rfl #[.agg #[.int .i64 a0_0, .int .i64 a0_1, .slice A0_2 l0_2.length c0_2, .slice A0_3 l0_3.length c0_3, .slice A0_4 l0_4.length c0_4, .slice A0_5 l0_5.length c0_5, .int .i64 a0_6, .slice A0_7 l0_7.length c0_7, .slice A0_8 l0_8.length c0_8, .slice A0_9 l0_9.length c0_9, .slice A0_10 l0_10.length c0_10, .slice A0_11 l0_11.length c0_11, .slice A0_12 l0_12.length c0_12], .int .i64 1048576] rfl AQ ?_; (with_reducible refine (laws_szDesk.calls k a0_0 a0_1 _ _ l0_2 _ _ l0_3 _ _ l0_4 _ _ l0_5 a0_6 _ _ l0_7 _ _ l0_8 _ _ l0_9 _ _ l0_10 _ _ l0_11 _ _ l0_12 1048576 t773 _ ?side1 ?side2 ?side3 ?side4 ?side5 ?side6 ?side7 ?side8 ?side9 ?side10 ?side11 ?side12 ?side13 ?side14 ?side15 ?side16 ?side17 ?side18 ?side19 ?side20 A5.out).mono ?_); (case side1 => repeat (first | exact (Kd.C_below HR0_2.out HB.out) | (with_reducible refine Kd.C_alloc ?_ _) | (with_reducible refine Kd.C_drewN ?_ _) | (with_reducible refine Kd.C_drew ?_))); (case side2 => exact HC0_2.out); (case side3 => repeat (first | exact (Kd.C_below HR0_3.out HB.out) | (with_reducible refine Kd.C_alloc ?_ _) | (with_reducible refine Kd.C_drewN ?_ _) | (with_reducible refine Kd.C_drew ?_))); (case side4 => exact HC0_3.out); (case side5 => repeat (first | exact (Kd.C_below HR0_4.out HB.out) | (with_reducible refine Kd.C_alloc ?_ _) | (with_reducible refine Kd.C_drewN ?_ _) | (with_reducible refine Kd.C_drew ?_))); (case side6 => exact HC0_4.out); (case side7 => repeat (first | exact (Kd.C_below HR0_5.out HB.out) | (with_reducible refine Kd.C_alloc ?_ _) | (with_reducible refine Kd.C_drewN ?_ _) | (with_reducible refine Kd.C_drew ?_))); (case side8 => exact HC0_5.out); (case side9 => repeat (first | exact (Kd.C_below HR0_7.out HB.out) | (with_reducible refine Kd.C_alloc ?_ _) | (with_reducible refine Kd.C_drewN ?_ _) | (with_reducible refine Kd.C_drew ?_))); (case side10 => exact HC0_7.out); (case side11 => repeat (first | exact (Kd.C_below HR0_8.out HB.out) | (with_reducible refine Kd.C_alloc ?_ _) | (with_reducible refine Kd.C_drewN ?_ _) | (with_reducible refine Kd.C_drew ?_))); (case side12 => exact HC0_8.out); (case side13 => repeat (first | exact (Kd.C_below HR0_9.out HB.out) | (with_reducible refine Kd.C_alloc ?_ _) | (with_reducible refine Kd.C_drewN ?_ _) | (with_reducible refine Kd.C_drew ?_))); (case side14 => exact HC0_9.out); (case side15 => repeat (first | exact (Kd.C_below HR0_10.out HB.out) | (with_reducible refine Kd.C_alloc ?_ _) | (with_reducible refine Kd.C_drewN ?_ _) | (with_reducible refine Kd.C_drew ?_))); (case side16 => exact HC0_10.out); (case side17 => repeat (first | exact (Kd.C_below HR0_11.out HB.out) | (with_reducible refine Kd.C_alloc ?_ _) | (with_reducible refine Kd.C_drewN ?_ _) | (with_reducible refine Kd.C_drew ?_))); (case side18 => exact HC0_11.out); (case side19 => repeat (first | exact (Kd.C_below HR0_12.out HB.out) | (with_reducible refine Kd.C_alloc ?_ _) | (with_reducible refine Kd.C_drewN ?_ _) | (with_reducible refine Kd.C_drew ?_))); (case side20 => exact HC0_12.out); rintro e w9 ⟨rfl, hb⟩; refine ⟨_, rfl, ?_⟩; have n0_ := Aside0.mk (blk_below (g := gb772) (o := .cells #[.int .i64 a0_0, .int .i64 a0_1, .slice A0_2 l0_2.length c0_2, .slice A0_3 l0_3.length c0_3, .slice A0_4 l0_4.length c0_4, .slice A0_5 l0_5.length c0_5, .int .i64 a0_6, .slice A0_7 l0_7.length c0_7, .slice A0_8 l0_8.length c0_8, .slice A0_9 l0_9.length c0_9, .slice A0_10 l0_10.length c0_10, .slice A0_11 l0_11.length c0_11, .slice A0_12 l0_12.length c0_12] 64 (0, 0)) (by (with_reducible repeat (first | refine blk_drewN ?_ _ | refine blk_drew ?_ | refine blk_alloc ?_ _)); exact BK772.out) hb); have n1_ := Aside0.mk (below_step BG hb); clear BK772; clear HB; have BK772 := n0_; have HB := n1_; clear n0_ n1_; (try clear hb); (try clear hb2); (try clear hk); (try clear hi)))
      go_ret
      exact ⟨by first | rfl | (simp [errW_none, errW_some] <;> rfl) | (simp [*, errW_none, errW_some] <;> rfl), BG⟩
    · rw [if_neg c6] at H
      have c6b0 : decide (t773 < 0) = false := decide_eq_false c6
      clear c6
      replace H := Option.bind_eq_some_iff.mp H
      obtain ⟨⟨t774, t775, t776, t779, t782, t785, t788, t789, t792, t795, t798, t801, t804⟩, A100, H⟩ := H
      replace H : ((spec_PlaceOf.f k t774 t775 t776 t779 t782 t785 t788 t789 t792 t795 t798 t801 t804 a1).bind fun t807 => ((laws_toDesk.f k a0_0 a0_1 l0_2 l0_3 l0_4 l0_5 a0_6 l0_7 l0_8 l0_9 l0_10 l0_11 l0_12).bind fun bt808 => ((impl_PlaceOf.f k bt808.1 bt808.2.1 bt808.2.2.1 bt808.2.2.2.1 bt808.2.2.2.2.1 bt808.2.2.2.2.2.1 bt808.2.2.2.2.2.2.1 bt808.2.2.2.2.2.2.2.1 bt808.2.2.2.2.2.2.2.2.1 bt808.2.2.2.2.2.2.2.2.2.1 bt808.2.2.2.2.2.2.2.2.2.2.1 bt808.2.2.2.2.2.2.2.2.2.2.2.1 bt808.2.2.2.2.2.2.2.2.2.2.2.2 a1).bind fun t842 => (if t842 = t807 then ((laws_toDesk.f k a0_0 a0_1 l0_2 l0_3 l0_4 l0_5 a0_6 l0_7 l0_8 l0_9 l0_10 l0_11 l0_12).bind fun bt843 => ((laws_eqDesk.f k bt808.1 bt808.2.1 bt808.2.2.1 bt808.2.2.2.1 bt808.2.2.2.2.1 bt808.2.2.2.2.2.1 bt808.2.2.2.2.2.2.1 bt808.2.2.2.2.2.2.2.1 bt808.2.2.2.2.2.2.2.2.1 bt808.2.2.2.2.2.2.2.2.2.1 bt808.2.2.2.2.2.2.2.2.2.2.1 bt808.2.2.2.2.2.2.2.2.2.2.2.1 bt808.2.2.2.2.2.2.2.2.2.2.2.2 bt843.1 bt843.2.1 bt843.2.2.1 bt843.2.2.2.1 bt843.2.2.2.2.1 bt843.2.2.2.2.2.1 bt843.2.2.2.2.2.2.1 bt843.2.2.2.2.2.2.2.1 bt843.2.2.2.2.2.2.2.2.1 bt843.2.2.2.2.2.2.2.2.2.1 bt843.2.2.2.2.2.2.2.2.2.2.1 bt843.2.2.2.2.2.2.2.2.2.2.2.1 bt843.2.2.2.2.2.2.2.2.2.2.2.2).bind fun t876 => (if t876 = true then (some true) else (none)))) else (none))))) = some r := H
      have A10 := Aside0.mk A100
      clear A100
      replace H := Option.bind_eq_some_iff.mp H
      obtain ⟨t807, A110, H⟩ := H
      replace H : ((laws_toDesk.f k a0_0 a0_1 l0_2 l0_3 l0_4 l0_5 a0_6 l0_7 l0_8 l0_9 l0_10 l0_11 l0_12).bind fun bt808 => ((impl_PlaceOf.f k bt808.1 bt808.2.1 bt808.2.2.1 bt808.2.2.2.1 bt808.2.2.2.2.1 bt808.2.2.2.2.2.1 bt808.2.2.2.2.2.2.1 bt808.2.2.2.2.2.2.2.1 bt808.2.2.2.2.2.2.2.2.1 bt808.2.2.2.2.2.2.2.2.2.1 bt808.2.2.2.2.2.2.2.2.2.2.1 bt808.2.2.2.2.2.2.2.2.2.2.2.1 bt808.2.2.2.2.2.2.2.2.2.2.2.2 a1).bind fun t842 => (if t842 = t807 then ((laws_toDesk.f k a0_0 a0_1 l0_2 l0_3 l0_4 l0_5 a0_6 l0_7 l0_8 l0_9 l0_10 l0_11 l0_12).bind fun bt843 => ((laws_eqDesk.f k bt808.1 bt808.2.1 bt808.2.2.1 bt808.2.2.2.1 bt808.2.2.2.2.1 bt808.2.2.2.2.2.1 bt808.2.2.2.2.2.2.1 bt808.2.2.2.2.2.2.2.1 bt808.2.2.2.2.2.2.2.2.1 bt808.2.2.2.2.2.2.2.2.2.1 bt808.2.2.2.2.2.2.2.2.2.2.1 bt808.2.2.2.2.2.2.2.2.2.2.2.1 bt808.2.2.2.2.2.2.2.2.2.2.2.2 bt843.1 bt843.2.1 bt843.2.2.1 bt843.2.2.2.1 bt843.2.2.2.2.1 bt843.2.2.2.2.2.1 bt843.2.2.2.2.2.2.1 bt843.2.2.2.2.2.2.2.1 bt843.2.2.2.2.2.2.2.2.1 bt843.2.2.2.2.2.2.2.2.2.1 bt843.2.2.2.2.2.2.2.2.2.2.1 bt843.2.2.2.2.2.2.2.2.2.2.2.1 bt843.2.2.2.2.2.2.2.2.2.2.2.2).bind fun t876 => (if t876 = true then (some true) else (none)))) else (none)))) = some r := H
      have A11 := Aside0.mk A110
      clear A110
      replace H := Option.bind_eq_some_iff.mp H
      obtain ⟨⟨t808, t809, t810, t813, t816, t819, t822, t823, t826, t829, t832, t835, t838⟩, A120, H⟩ := H
      replace H : ((impl_PlaceOf.f k t808 t809 t810 t813 t816 t819 t822 t823 t826 t829 t832 t835 t838 a1).bind fun t842 => (if t842 = t807 then ((laws_toDesk.f k a0_0 a0_1 l0_2 l0_3 l0_4 l0_5 a0_6 l0_7 l0_8 l0_9 l0_10 l0_11 l0_12).bind fun bt843 => ((laws_eqDesk.f k t808 t809 t810 t813 t816 t819 t822 t823 t826 t829 t832 t835 t838 bt843.1 bt843.2.1 bt843.2.2.1 bt843.2.2.2.1 bt843.2.2.2.2.1 bt843.2.2.2.2.2.1 bt843.2.2.2.2.2.2.1 bt843.2.2.2.2.2.2.2.1 bt843.2.2.2.2.2.2.2.2.1 bt843.2.2.2.2.2.2.2.2.2.1 bt843.2.2.2.2.2.2.2.2.2.2.1 bt843.2.2.2.2.2.2.2.2.2.2.2.1 bt843.2.2.2.2.2.2.2.2.2.2.2.2).bind fun t876 => (if t876 = true then (some true) else (none)))) else (none))) = some r := H
      have A12 := Aside0.mk A120
      clear A120
      replace H := Option.bind_eq_some_iff.mp H
      obtain ⟨t842, A130, H⟩ := H
      replace H : (if t842 = t807 then ((laws_toDesk.f k a0_0 a0_1 l0_2 l0_3 l0_4 l0_5 a0_6 l0_7 l0_8 l0_9 l0_10 l0_11 l0_12).bind fun bt843 => ((laws_eqDesk.f k t808 t809 t810 t813 t816 t819 t822 t823 t826 t829 t832 t835 t838 bt843.1 bt843.2.1 bt843.2.2.1 bt843.2.2.2.1 bt843.2.2.2.2.1 bt843.2.2.2.2.2.1 bt843.2.2.2.2.2.2.1 bt843.2.2.2.2.2.2.2.1 bt843.2.2.2.2.2.2.2.2.1 bt843.2.2.2.2.2.2.2.2.2.1 bt843.2.2.2.2.2.2.2.2.2.2.1 bt843.2.2.2.2.2.2.2.2.2.2.2.1 bt843.2.2.2.2.2.2.2.2.2.2.2.2).bind fun t876 => (if t876 = true then (some true) else (none)))) else (none)) = some r := H
      have A13 := Aside0.mk A130
      clear A130
      by_cases c14 : t842 = t807
      · rw [if_pos c14] at H
        have c14b0 : (t842 == t807) = true := beq_iff_eq.mpr c14
        have c14b1 : (t842 != t807) = false := bne_eq_false_iff_eq.mpr c14
        clear c14
        replace H := Option.bind_eq_some_iff.mp H
        obtain ⟨⟨t843, t844, t845, t848, t851, t854, t857, t858, t861, t864, t867, t870, t873⟩, A150, H⟩ := H
        replace H : ((laws_eqDesk.f k t808 t809 t810 t813 t816 t819 t822 t823 t826 t829 t832 t835 t838 t843 t844 t845 t848 t851 t854 t857 t858 t861 t864 t867 t870 t873).bind fun t876 => (if t876 = true then (some true) else (none))) = some r := H
        have A15 := Aside0.mk A150
        clear A150
        replace H := Option.bind_eq_some_iff.mp H
        obtain ⟨t876, A160, H⟩ := H
        replace H : (if t876 = true then (some true) else (none)) = some r := H
        have A16 := Aside0.mk A160
        clear A160
        by_cases c17 : t876 = true
        · subst c17
          have H1 : (some true) = some r := by rw [if_pos rfl] at H; exact H
          clear H
          have H := H1
          clear H1
          obtain rfl := Option.some.inj H
          go_enter Try.func8, Try.ntmps8
          try go_wp2_with (first | ((with_reducible refine gate_dst (N := 2) rfl ?_); refine box_event ?hg (N := 2) ?hd (cs := #[.int .i64 a0_0, .int .i64 a0_1, .slice A0_2 l0_2.length c0_2, .slice A0_3 l0_3.length c0_3, .slice A0_4 l0_4.length c0_4, .slice A0_5 l0_5.length c0_5, .int .i64 a0_6, .slice A0_7 l0_7.length c0_7, .slice A0_8 l0_8.length c0_8, .slice A0_9 l0_9.length c0_9, .slice A0_10 l0_10.length c0_10, .slice A0_11 l0_11.length c0_11, .slice A0_12 l0_12.length c0_12]) (t := 64) ?hr ?_; (case hd => rfl); (case hg => rfl); (case hr => first | (go_simp; done) | (go_simp; rfl)); intro gb772 hg w18 hbox hb; have n0_ := Aside0.mk (below_step BL hb); have n1_ := Aside0.mk (hbox); have n2_ := Aside0.mk ((by rw [hg]; exact (below_size BL) : w.heap.size ≤ gb772)); have n3_ := Aside0.mk ((by rw [hg]; exact (below_size BL) : w.heap.size ≤ gb772)); clear HB; have HB := n0_; have BK772 := n1_; have GW772 := n2_; have GE772 := n3_; clear n0_ n1_ n2_ n3_; clear hb hbox hg; obtain ⟨hcz19_0, hcz19_1, hcz19_2, hcz19_3, hcz19_4, hcz19_5, hcz19_6, hcz19_7, hcz19_8, hcz19_9, hcz19_10, hcz19_11, hcz19_12, hfz19_0, hfz19_1, hfz19_2, hfz19_3, hfz19_4, hfz19_5, hfz19_6, hfz19_7, hfz19_8, hfz19_9, hfz19_10, hfz19_11, hfz19_12⟩ := bk13 BK772.out) | ((with_reducible refine gate_callee (f := 33) rfl ?_); refine goesL_ (some 14) rfl rfl Try.func33 (by kernel_rfl) rfl #[.agg #[.int .i64 a0_0, .int .i64 a0_1, .slice A0_2 l0_2.length c0_2, .slice A0_3 l0_3.length c0_3, .slice A0_4 l0_4.length c0_4, .slice A0_5 l0_5.length c0_5, .int .i64 a0_6, .slice A0_7 l0_7.length c0_7, .slice A0_8 l0_8.length c0_8, .slice A0_9 l0_9.length c0_9, .slice A0_10 l0_10.length c0_10, .slice A0_11 l0_11.length c0_11, .slice A0_12 l0_12.length c0_12], .int .i64 1048576] rfl AQ ?_; (with_reducible refine (laws_szDesk.calls k a0_0 a0_1 _ _ l0_2 _ _ l0_3 _ _ l0_4 _ _ l0_5 a0_6 _ _ l0_7 _ _ l0_8 _ _ l0_9 _ _ l0_10 _ _ l0_11 _ _ l0_12 1048576 t773 _ ?side1 ?side2 ?side3 ?side4 ?side5 ?side6 ?side7 ?side8 ?side9 ?side10 ?side11 ?side12 ?side13 ?side14 ?side15 ?side16 ?side17 ?side18 ?side19 ?side20 A5.out).mono ?_); (case side1 => repeat (first | exact (Kd.C_below HR0_2.out HB.out) | (with_reducible refine Kd.C_alloc ?_ _) | (with_reducible refine Kd.C_drewN ?_ _) | (with_reducible refine Kd.C_drew ?_))); (case side2 => exact HC0_2.out); (case side3 => repeat (first | exact (Kd.C_below HR0_3.out HB.out) | (with_reducible refine Kd.C_alloc ?_ _) | (with_reducible refine Kd.C_drewN ?_ _) | (with_reducible refine Kd.C_drew ?_))); (case side4 => exact HC0_3.out); (case side5 => repeat (first | exact (Kd.C_below HR0_4.out HB.out) | (with_reducible refine Kd.C_alloc ?_ _) | (with_reducible refine Kd.C_drewN ?_ _) | (with_reducible refine Kd.C_drew ?_))); (case side6 => exact HC0_4.out); (case side7 => repeat (first | exact (Kd.C_below HR0_5.out HB.out) | (with_reducible refine Kd.C_alloc ?_ _) | (with_reducible refine Kd.C_drewN ?_ _) | (with_reducible refine Kd.C_drew ?_))); (case side8 => exact HC0_5.out); (case side9 => repeat (first | exact (Kd.C_below HR0_7.out HB.out) | (with_reducible refine Kd.C_alloc ?_ _) | (with_reducible refine Kd.C_drewN ?_ _) | (with_reducible refine Kd.C_drew ?_))); (case side10 => exact HC0_7.out); (case side11 => repeat (first | exact (Kd.C_below HR0_8.out HB.out) | (with_reducible refine Kd.C_alloc ?_ _) | (with_reducible refine Kd.C_drewN ?_ _) | (with_reducible refine Kd.C_drew ?_))); (case side12 => exact HC0_8.out); (case side13 => repeat (first | exact (Kd.C_below HR0_9.out HB.out) | (with_reducible refine Kd.C_alloc ?_ _) | (with_reducible refine Kd.C_drewN ?_ _) | (with_reducible refine Kd.C_drew ?_))); (case side14 => exact HC0_9.out); (case side15 => repeat (first | exact (Kd.C_below HR0_10.out HB.out) | (with_reducible refine Kd.C_alloc ?_ _) | (with_reducible refine Kd.C_drewN ?_ _) | (with_reducible refine Kd.C_drew ?_))); (case side16 => exact HC0_10.out); (case side17 => repeat (first | exact (Kd.C_below HR0_11.out HB.out) | (with_reducible refine Kd.C_alloc ?_ _) | (with_reducible refine Kd.C_drewN ?_ _) | (with_reducible refine Kd.C_drew ?_))); (case side18 => exact HC0_11.out); (case side19 => repeat (first | exact (Kd.C_below HR0_12.out HB.out) | (with_reducible refine Kd.C_alloc ?_ _) | (with_reducible refine Kd.C_drewN ?_ _) | (with_reducible refine Kd.C_drew ?_))); (case side20 => exact HC0_12.out); rintro e w20 ⟨rfl, hb⟩; refine ⟨_, rfl, ?_⟩; have n0_ := Aside0.mk (blk_below (g := gb772) (o := .cells #[.int .i64 a0_0, .int .i64 a0_1, .slice A0_2 l0_2.length c0_2, .slice A0_3 l0_3.length c0_3, .slice A0_4 l0_4.length c0_4, .slice A0_5 l0_5.length c0_5, .int .i64 a0_6, .slice A0_7 l0_7.length c0_7, .slice A0_8 l0_8.length c0_8, .slice A0_9 l0_9.length c0_9, .slice A0_10 l0_10.length c0_10, .slice A0_11 l0_11.length c0_11, .slice A0_12 l0_12.length c0_12] 64 (0, 0)) (by (with_reducible repeat (first | refine blk_drewN ?_ _ | refine blk_drew ?_ | refine blk_alloc ?_ _)); exact BK772.out) hb); have n1_ := Aside0.mk (below_step BG hb); clear BK772; clear HB; have BK772 := n0_; have HB := n1_; clear n0_ n1_; (try clear hb); (try clear hb2); (try clear hk); (try clear hi); obtain ⟨hcz21_0, hcz21_1, hcz21_2, hcz21_3, hcz21_4, hcz21_5, hcz21_6, hcz21_7, hcz21_8, hcz21_9, hcz21_10, hcz21_11, hcz21_12, hfz21_0, hfz21_1, hfz21_2, hfz21_3, hfz21_4, hfz21_5, hfz21_6, hfz21_7, hfz21_8, hfz21_9, hfz21_10, hfz21_11, hfz21_12⟩ := bk13 BK772.out) | ((with_reducible refine gate_callee (f := 35) rfl ?_); refine goesL_ (some 18) rfl rfl Try.func35 (by kernel_rfl) rfl #[.agg #[.int .i64 a0_0, .int .i64 a0_1, .slice A0_2 l0_2.length c0_2, .slice A0_3 l0_3.length c0_3, .slice A0_4 l0_4.length c0_4, .slice A0_5 l0_5.length c0_5, .int .i64 a0_6, .slice A0_7 l0_7.length c0_7, .slice A0_8 l0_8.length c0_8, .slice A0_9 l0_9.length c0_9, .slice A0_10 l0_10.length c0_10, .slice A0_11 l0_11.length c0_11, .slice A0_12 l0_12.length c0_12]] rfl AQ ?_; (with_reducible refine (laws_toDesk.calls k a0_0 a0_1 _ _ l0_2 _ _ l0_3 _ _ l0_4 _ _ l0_5 a0_6 _ _ l0_7 _ _ l0_8 _ _ l0_9 _ _ l0_10 _ _ l0_11 _ _ l0_12 t774 t775 t776 t779 t782 t785 t788 t789 t792 t795 t798 t801 t804 _ ?side1 ?side2 ?side3 ?side4 ?side5 ?side6 ?side7 ?side8 ?side9 ?side10 ?side11 ?side12 ?side13 ?side14 ?side15 ?side16 ?side17 ?side18 ?side19 ?side20 A10.out).mono ?_); (case side1 => repeat (first | exact (Kd.C_below HR0_2.out HB.out) | (with_reducible refine Kd.C_alloc ?_ _) | (with_reducible refine Kd.C_drewN ?_ _) | (with_reducible refine Kd.C_drew ?_))); (case side2 => exact HC0_2.out); (case side3 => repeat (first | exact (Kd.C_below HR0_3.out HB.out) | (with_reducible refine Kd.C_alloc ?_ _) | (with_reducible refine Kd.C_drewN ?_ _) | (with_reducible refine Kd.C_drew ?_))); (case side4 => exact HC0_3.out); (case side5 => repeat (first | exact (Kd.C_below HR0_4.out HB.out) | (with_reducible refine Kd.C_alloc ?_ _) | (with_reducible refine Kd.C_drewN ?_ _) | (with_reducible refine Kd.C_drew ?_))); (case side6 => exact HC0_4.out); (case side7 => repeat (first | exact (Kd.C_below HR0_5.out HB.out) | (with_reducible refine Kd.C_alloc ?_ _) | (with_reducible refine Kd.C_drewN ?_ _) | (with_reducible refine Kd.C_drew ?_))); (case side8 => exact HC0_5.out); (case side9 => repeat (first | exact (Kd.C_below HR0_7.out HB.out) | (with_reducible refine Kd.C_alloc ?_ _) | (with_reducible refine Kd.C_drewN ?_ _) | (with_reducible refine Kd.C_drew ?_))); (case side10 => exact HC0_7.out); (case side11 => repeat (first | exact (Kd.C_below HR0_8.out HB.out) | (with_reducible refine Kd.C_alloc ?_ _) | (with_reducible refine Kd.C_drewN ?_ _) | (with_reducible refine Kd.C_drew ?_))); (case side12 => exact HC0_8.out); (case side13 => repeat (first | exact (Kd.C_below HR0_9.out HB.out) | (with_reducible refine Kd.C_alloc ?_ _) | (with_reducible refine Kd.C_drewN ?_ _) | (with_reducible refine Kd.C_drew ?_))); (case side14 => exact HC0_9.out); (case side15 => repeat (first | exact (Kd.C_below HR0_10.out HB.out) | (with_reducible refine Kd.C_alloc ?_ _) | (with_reducible refine Kd.C_drewN ?_ _) | (with_reducible refine Kd.C_drew ?_))); (case side16 => exact HC0_10.out); (case side17 => repeat (first | exact (Kd.C_below HR0_11.out HB.out) | (with_reducible refine Kd.C_alloc ?_ _) | (with_reducible refine Kd.C_drewN ?_ _) | (with_reducible refine Kd.C_drew ?_))); (case side18 => exact HC0_11.out); (case side19 => repeat (first | exact (Kd.C_below HR0_12.out HB.out) | (with_reducible refine Kd.C_alloc ?_ _) | (with_reducible refine Kd.C_drewN ?_ _) | (with_reducible refine Kd.C_drew ?_))); (case side20 => exact HC0_12.out); rintro e w22 ⟨v777, v780, v783, v786, v790, v793, v796, v799, v802, v805, rfl, ho0, ho1, ho2, ho3, ho4, ho5, ho6, ho7, ho8, ho9, hb⟩; refine ⟨_, rfl, ?_⟩; have n0_ := Aside0.mk (Kd.R_lower ho0 (below_size BG)); have n1_ := Aside0.mk (Kd.R_lower ho1 (below_size BG)); have n2_ := Aside0.mk (Kd.R_lower ho2 (below_size BG)); have n3_ := Aside0.mk (Kd.R_lower ho3 (below_size BG)); have n4_ := Aside0.mk (Kd.R_lower ho4 (below_size BG)); have n5_ := Aside0.mk (Kd.R_lower ho5 (below_size BG)); have n6_ := Aside0.mk (Kd.R_lower ho6 (below_size BG)); have n7_ := Aside0.mk (Kd.R_lower ho7 (below_size BG)); have n8_ := Aside0.mk (Kd.S_lower ho8 (below_size BG)); have n9_ := Aside0.mk (Kd.R_lower ho9 (below_size BG)); have n10_ := Aside0.mk (blk_below (g := gb772) (o := .cells #[.int .i64 a0_0, .int .i64 a0_1, .slice A0_2 l0_2.length c0_2, .slice A0_3 l0_3.length c0_3, .slice A0_4 l0_4.length c0_4, .slice A0_5 l0_5.length c0_5, .int .i64 a0_6, .slice A0_7 l0_7.length c0_7, .slice A0_8 l0_8.length c0_8, .slice A0_9 l0_9.length c0_9, .slice A0_10 l0_10.length c0_10, .slice A0_11 l0_11.length c0_11, .slice A0_12 l0_12.length c0_12] 64 (0, 0)) (by (with_reducible repeat (first | refine blk_drewN ?_ _ | refine blk_drew ?_ | refine blk_alloc ?_ _)); exact BK772.out) hb); have n11_ := Aside0.mk (below_step BG hb); clear BK772; clear HB; have HO778 := n0_; have HO781 := n1_; have HO784 := n2_; have HO787 := n3_; have HO791 := n4_; have HO794 := n5_; have HO797 := n6_; have HO800 := n7_; have HO803 := n8_; have HO806 := n9_; have BK772 := n10_; have HB := n11_; clear n0_ n1_ n2_ n3_ n4_ n5_ n6_ n7_ n8_ n9_ n10_ n11_; (try clear hb); (try clear hb2); (try clear hk); (try clear hi); (try clear ho0); (try clear ho1); (try clear ho2); (try clear ho3); (try clear ho4); (try clear ho5); (try clear ho6); (try clear ho7); (try clear ho8); (try clear ho9); obtain ⟨Ao23, co23, eo23⟩ := Kd.R_slice HO778.out; subst eo23; obtain ⟨Ao24, co24, eo24⟩ := Kd.R_slice HO781.out; subst eo24; obtain ⟨Ao25, co25, eo25⟩ := Kd.R_slice HO784.out; subst eo25; obtain ⟨Ao26, co26, eo26⟩ := Kd.R_slice HO787.out; subst eo26; obtain ⟨Ao27, co27, eo27⟩ := Kd.R_slice HO791.out; subst eo27; obtain ⟨Ao28, co28, eo28⟩ := Kd.R_slice HO794.out; subst eo28; obtain ⟨Ao29, co29, eo29⟩ := Kd.R_slice HO797.out; subst eo29; obtain ⟨Ao30, co30, eo30⟩ := Kd.R_slice HO800.out; subst eo30; obtain ⟨Ao31, co31, eo31⟩ := Kd.S_slice HO803.out; subst eo31; obtain ⟨Ao32, co32, eo32⟩ := Kd.R_slice HO806.out; subst eo32) | ((with_reducible refine gate_callee (f := 34) rfl ?_); refine goesL_ (some 20) rfl rfl Try.func34 (by kernel_rfl) rfl #[.agg #[.int .i64 t774, .int .i64 t775, .slice Ao23 t776.length co23, .slice Ao24 t779.length co24, .slice Ao25 t782.length co25, .slice Ao26 t785.length co26, .int .i64 t788, .slice Ao27 t789.length co27, .slice Ao28 t792.length co28, .slice Ao29 t795.length co29, .slice Ao30 t798.length co30, .slice Ao31 t801.length co31, .slice Ao32 t804.length co32], .string a1] rfl AQ ?_; (with_reducible refine (spec_PlaceOf.calls k t774 t775 _ _ t776 _ _ t779 _ _ t782 _ _ t785 t788 _ _ t789 _ _ t792 _ _ t795 _ _ t798 _ _ t801 _ _ t804 a1 t807 _ ?side1 ?side2 ?side3 ?side4 ?side5 ?side6 ?side7 ?side8 ?side9 ?side10 ?side11 ?side12 ?side13 ?side14 ?side15 ?side16 ?side17 ?side18 ?side19 ?side20 A11.out).mono ?_); (case side1 => repeat (first | exact (Kd.R_reads' HO778.out).2.2 | (with_reducible refine Kd.C_alloc ?_ _) | (with_reducible refine Kd.C_drewN ?_ _) | (with_reducible refine Kd.C_drew ?_))); (case side2 => exact (Kd.R_reads' HO778.out).2.1); (case side3 => repeat (first | exact (Kd.R_reads' HO781.out).2.2 | (with_reducible refine Kd.C_alloc ?_ _) | (with_reducible refine Kd.C_drewN ?_ _) | (with_reducible refine Kd.C_drew ?_))); (case side4 => exact (Kd.R_reads' HO781.out).2.1); (case side5 => repeat (first | exact (Kd.R_reads' HO784.out).2.2 | (with_reducible refine Kd.C_alloc ?_ _) | (with_reducible refine Kd.C_drewN ?_ _) | (with_reducible refine Kd.C_drew ?_))); (case side6 => exact (Kd.R_reads' HO784.out).2.1); (case side7 => repeat (first | exact (Kd.R_reads' HO787.out).2.2 | (with_reducible refine Kd.C_alloc ?_ _) | (with_reducible refine Kd.C_drewN ?_ _) | (with_reducible refine Kd.C_drew ?_))); (case side8 => exact (Kd.R_reads' HO787.out).2.1); (case side9 => repeat (first | exact (Kd.R_reads' HO791.out).2.2 | (with_reducible refine Kd.C_alloc ?_ _) | (with_reducible refine Kd.C_drewN ?_ _) | (with_reducible refine Kd.C_drew ?_))); (case side10 => exact (Kd.R_reads' HO791.out).2.1); (case side11 => repeat (first | exact (Kd.R_reads' HO794.out).2.2 | (with_reducible refine Kd.C_alloc ?_ _) | (with_reducible refine Kd.C_drewN ?_ _) | (with_reducible refine Kd.C_drew ?_))); (case side12 => exact (Kd.R_reads' HO794.out).2.1); (case side13 => repeat (first | exact (Kd.R_reads' HO797.out).2.2 | (with_reducible refine Kd.C_alloc ?_ _) | (with_reducible refine Kd.C_drewN ?_ _) | (with_reducible refine Kd.C_drew ?_))); (case side14 => exact (Kd.R_reads' HO797.out).2.1); (case side15 => repeat (first | exact (Kd.R_reads' HO800.out).2.2 | (with_reducible refine Kd.C_alloc ?_ _) | (with_reducible refine Kd.C_drewN ?_ _) | (with_reducible refine Kd.C_drew ?_))); (case side16 => exact (Kd.R_reads' HO800.out).2.1); (case side17 => repeat (first | exact (Kd.S_reads' HO803.out).2.2 | (with_reducible refine Kd.C_alloc ?_ _) | (with_reducible refine Kd.C_drewN ?_ _) | (with_reducible refine Kd.C_drew ?_))); (case side18 => exact (Kd.S_reads' HO803.out).2.1); (case side19 => repeat (first | exact (Kd.R_reads' HO806.out).2.2 | (with_reducible refine Kd.C_alloc ?_ _) | (with_reducible refine Kd.C_drewN ?_ _) | (with_reducible refine Kd.C_drew ?_))); (case side20 => exact (Kd.R_reads' HO806.out).2.1); rintro e w33 ⟨rfl, hb⟩; refine ⟨_, rfl, ?_⟩; have n0_ := Aside0.mk (Kd.R_below (by (with_reducible repeat (first | apply Kd.R_alloc | apply Kd.R_drewN | apply Kd.R_drew)); exact HO778.out) hb); have n1_ := Aside0.mk (Kd.R_below (by (with_reducible repeat (first | apply Kd.R_alloc | apply Kd.R_drewN | apply Kd.R_drew)); exact HO781.out) hb); have n2_ := Aside0.mk (Kd.R_below (by (with_reducible repeat (first | apply Kd.R_alloc | apply Kd.R_drewN | apply Kd.R_drew)); exact HO784.out) hb); have n3_ := Aside0.mk (Kd.R_below (by (with_reducible repeat (first | apply Kd.R_alloc | apply Kd.R_drewN | apply Kd.R_drew)); exact HO787.out) hb); have n4_ := Aside0.mk (Kd.R_below (by (with_reducible repeat (first | apply Kd.R_alloc | apply Kd.R_drewN | apply Kd.R_drew)); exact HO791.out) hb); have n5_ := Aside0.mk (Kd.R_below (by (with_reducible repeat (first | apply Kd.R_alloc | apply Kd.R_drewN | apply Kd.R_drew)); exact HO794.out) hb); have n6_ := Aside0.mk (Kd.R_below (by (with_reducible repeat (first | apply Kd.R_alloc | apply Kd.R_drewN | apply Kd.R_drew)); exact HO797.out) hb); have n7_ := Aside0.mk (Kd.R_below (by (with_reducible repeat (first | apply Kd.R_alloc | apply Kd.R_drewN | apply Kd.R_drew)); exact HO800.out) hb); have n8_ := Aside0.mk (Kd.S_below (by (with_reducible repeat (first | apply Kd.S_alloc | apply Kd.S_drewN | apply Kd.S_drew)); exact HO803.out) hb); have n9_ := Aside0.mk (Kd.R_below (by (with_reducible repeat (first | apply Kd.R_alloc | apply Kd.R_drewN | apply Kd.R_drew)); exact HO806.out) hb); have n10_ := Aside0.mk (blk_below (g := gb772) (o := .cells #[.int .i64 a0_0, .int .i64 a0_1, .slice A0_2 l0_2.length c0_2, .slice A0_3 l0_3.length c0_3, .slice A0_4 l0_4.length c0_4, .slice A0_5 l0_5.length c0_5, .int .i64 a0_6, .slice A0_7 l0_7.length c0_7, .slice A0_8 l0_8.length c0_8, .slice A0_9 l0_9.length c0_9, .slice A0_10 l0_10.length c0_10, .slice A0_11 l0_11.length c0_11, .slice A0_12 l0_12.length c0_12] 64 (0, 0)) (by (with_reducible repeat (first | refine blk_drewN ?_ _ | refine blk_drew ?_ | refine blk_alloc ?_ _)); exact BK772.out) hb); have n11_ := Aside0.mk (below_step BG hb); clear HO778; clear HO781; clear HO784; clear HO787; clear HO791; clear HO794; clear HO797; clear HO800; clear HO803; clear HO806; clear BK772; clear HB; have HO778 := n0_; have HO781 := n1_; have HO784 := n2_; have HO787 := n3_; have HO791 := n4_; have HO794 := n5_; have HO797 := n6_; have HO800 := n7_; have HO803 := n8_; have HO806 := n9_; have BK772 := n10_; have HB := n11_; clear n0_ n1_ n2_ n3_ n4_ n5_ n6_ n7_ n8_ n9_ n10_ n11_; (try clear hb); (try clear hb2); (try clear hk); (try clear hi); obtain ⟨hcz34_0, hcz34_1, hcz34_2, hcz34_3, hcz34_4, hcz34_5, hcz34_6, hcz34_7, hcz34_8, hcz34_9, hcz34_10, hcz34_11, hcz34_12, hfz34_0, hfz34_1, hfz34_2, hfz34_3, hfz34_4, hfz34_5, hfz34_6, hfz34_7, hfz34_8, hfz34_9, hfz34_10, hfz34_11, hfz34_12⟩ := bk13 BK772.out) | ((with_reducible refine gate_callee (f := 35) rfl ?_); refine goesL_ (some 22) rfl rfl Try.func35 (by kernel_rfl) rfl #[.agg #[.int .i64 a0_0, .int .i64 a0_1, .slice A0_2 l0_2.length c0_2, .slice A0_3 l0_3.length c0_3, .slice A0_4 l0_4.length c0_4, .slice A0_5 l0_5.length c0_5, .int .i64 a0_6, .slice A0_7 l0_7.length c0_7, .slice A0_8 l0_8.length c0_8, .slice A0_9 l0_9.length c0_9, .slice A0_10 l0_10.length c0_10, .slice A0_11 l0_11.length c0_11, .slice A0_12 l0_12.length c0_12]] rfl AQ ?_; (with_reducible refine (laws_toDesk.calls k a0_0 a0_1 _ _ l0_2 _ _ l0_3 _ _ l0_4 _ _ l0_5 a0_6 _ _ l0_7 _ _ l0_8 _ _ l0_9 _ _ l0_10 _ _ l0_11 _ _ l0_12 t808 t809 t810 t813 t816 t819 t822 t823 t826 t829 t832 t835 t838 _ ?side1 ?side2 ?side3 ?side4 ?side5 ?side6 ?side7 ?side8 ?side9 ?side10 ?side11 ?side12 ?side13 ?side14 ?side15 ?side16 ?side17 ?side18 ?side19 ?side20 A12.out).mono ?_); (case side1 => repeat (first | exact (Kd.C_below HR0_2.out HB.out) | (with_reducible refine Kd.C_alloc ?_ _) | (with_reducible refine Kd.C_drewN ?_ _) | (with_reducible refine Kd.C_drew ?_))); (case side2 => exact HC0_2.out); (case side3 => repeat (first | exact (Kd.C_below HR0_3.out HB.out) | (with_reducible refine Kd.C_alloc ?_ _) | (with_reducible refine Kd.C_drewN ?_ _) | (with_reducible refine Kd.C_drew ?_))); (case side4 => exact HC0_3.out); (case side5 => repeat (first | exact (Kd.C_below HR0_4.out HB.out) | (with_reducible refine Kd.C_alloc ?_ _) | (with_reducible refine Kd.C_drewN ?_ _) | (with_reducible refine Kd.C_drew ?_))); (case side6 => exact HC0_4.out); (case side7 => repeat (first | exact (Kd.C_below HR0_5.out HB.out) | (with_reducible refine Kd.C_alloc ?_ _) | (with_reducible refine Kd.C_drewN ?_ _) | (with_reducible refine Kd.C_drew ?_))); (case side8 => exact HC0_5.out); (case side9 => repeat (first | exact (Kd.C_below HR0_7.out HB.out) | (with_reducible refine Kd.C_alloc ?_ _) | (with_reducible refine Kd.C_drewN ?_ _) | (with_reducible refine Kd.C_drew ?_))); (case side10 => exact HC0_7.out); (case side11 => repeat (first | exact (Kd.C_below HR0_8.out HB.out) | (with_reducible refine Kd.C_alloc ?_ _) | (with_reducible refine Kd.C_drewN ?_ _) | (with_reducible refine Kd.C_drew ?_))); (case side12 => exact HC0_8.out); (case side13 => repeat (first | exact (Kd.C_below HR0_9.out HB.out) | (with_reducible refine Kd.C_alloc ?_ _) | (with_reducible refine Kd.C_drewN ?_ _) | (with_reducible refine Kd.C_drew ?_))); (case side14 => exact HC0_9.out); (case side15 => repeat (first | exact (Kd.C_below HR0_10.out HB.out) | (with_reducible refine Kd.C_alloc ?_ _) | (with_reducible refine Kd.C_drewN ?_ _) | (with_reducible refine Kd.C_drew ?_))); (case side16 => exact HC0_10.out); (case side17 => repeat (first | exact (Kd.C_below HR0_11.out HB.out) | (with_reducible refine Kd.C_alloc ?_ _) | (with_reducible refine Kd.C_drewN ?_ _) | (with_reducible refine Kd.C_drew ?_))); (case side18 => exact HC0_11.out); (case side19 => repeat (first | exact (Kd.C_below HR0_12.out HB.out) | (with_reducible refine Kd.C_alloc ?_ _) | (with_reducible refine Kd.C_drewN ?_ _) | (with_reducible refine Kd.C_drew ?_))); (case side20 => exact HC0_12.out); rintro e w35 ⟨v811, v814, v817, v820, v824, v827, v830, v833, v836, v839, rfl, ho0, ho1, ho2, ho3, ho4, ho5, ho6, ho7, ho8, ho9, hb⟩; refine ⟨_, rfl, ?_⟩; have n0_ := Aside0.mk (Kd.R_mono (Kd.R_told (Kd.R_told (Kd.R_old (by (with_reducible repeat (first | apply Kd.R_alloc | apply Kd.R_drewN | apply Kd.R_drew)); exact HO778.out) hb) (Kd.R_base ho0)) (Kd.R_base ho1)) (fun _ h_ => h_.1)); have n1_ := Aside0.mk (Kd.R_mono (Kd.R_told (Kd.R_told (Kd.R_old (by (with_reducible repeat (first | apply Kd.R_alloc | apply Kd.R_drewN | apply Kd.R_drew)); exact HO781.out) hb) (Kd.R_base ho0)) (Kd.R_base ho1)) (fun _ h_ => h_.1)); have n2_ := Aside0.mk (Kd.R_mono (Kd.R_told (Kd.R_told (Kd.R_told (Kd.R_told (Kd.R_old (by (with_reducible repeat (first | apply Kd.R_alloc | apply Kd.R_drewN | apply Kd.R_drew)); exact HO784.out) hb) (Kd.R_base ho2)) (Kd.R_base ho3)) (Kd.R_base ho4)) (Kd.R_base ho6)) (fun _ h_ => h_.1)); have n3_ := Aside0.mk (Kd.R_mono (Kd.R_told (Kd.R_told (Kd.R_told (Kd.R_told (Kd.R_old (by (with_reducible repeat (first | apply Kd.R_alloc | apply Kd.R_drewN | apply Kd.R_drew)); exact HO787.out) hb) (Kd.R_base ho2)) (Kd.R_base ho3)) (Kd.R_base ho4)) (Kd.R_base ho6)) (fun _ h_ => h_.1)); have n4_ := Aside0.mk (Kd.R_mono (Kd.R_told (Kd.R_told (Kd.R_told (Kd.R_told (Kd.R_old (by (with_reducible repeat (first | apply Kd.R_alloc | apply Kd.R_drewN | apply Kd.R_drew)); exact HO791.out) hb) (Kd.R_base ho2)) (Kd.R_base ho3)) (Kd.R_base ho4)) (Kd.R_base ho6)) (fun _ h_ => h_.1)); have n5_ := Aside0.mk (Kd.R_elder' (by (with_reducible repeat (first | apply Kd.R_alloc | apply Kd.R_drewN | apply Kd.R_drew)); exact HO794.out) (Kd.R_base ho5) hb); have n6_ := Aside0.mk (Kd.R_mono (Kd.R_told (Kd.R_told (Kd.R_told (Kd.R_told (Kd.R_old (by (with_reducible repeat (first | apply Kd.R_alloc | apply Kd.R_drewN | apply Kd.R_drew)); exact HO797.out) hb) (Kd.R_base ho2)) (Kd.R_base ho3)) (Kd.R_base ho4)) (Kd.R_base ho6)) (fun _ h_ => h_.1)); have n7_ := Aside0.mk (Kd.R_elder' (by (with_reducible repeat (first | apply Kd.R_alloc | apply Kd.R_drewN | apply Kd.R_drew)); exact HO800.out) (Kd.R_base ho7) hb); have n8_ := Aside0.mk (Kd.S_elder' (by (with_reducible repeat (first | apply Kd.S_alloc | apply Kd.S_drewN | apply Kd.S_drew)); exact HO803.out) (Kd.S_base ho8) hb); have n9_ := Aside0.mk (Kd.R_elder' (by (with_reducible repeat (first | apply Kd.R_alloc | apply Kd.R_drewN | apply Kd.R_drew)); exact HO806.out) (Kd.R_base ho9) hb); have n10_ := Aside0.mk (Kd.R_lower (Kd.R_new' (Kd.R_new' ho0 (Kd.R_lt (by (with_reducible repeat (first | apply Kd.R_alloc | apply Kd.R_drewN | apply Kd.R_drew)); exact HO778.out))) (Kd.R_lt (by (with_reducible repeat (first | apply Kd.R_alloc | apply Kd.R_drewN | apply Kd.R_drew)); exact HO781.out))) (below_size BG)); have n11_ := Aside0.mk (Kd.R_lower (Kd.R_new' (Kd.R_new' ho1 (Kd.R_lt (by (with_reducible repeat (first | apply Kd.R_alloc | apply Kd.R_drewN | apply Kd.R_drew)); exact HO778.out))) (Kd.R_lt (by (with_reducible repeat (first | apply Kd.R_alloc | apply Kd.R_drewN | apply Kd.R_drew)); exact HO781.out))) (below_size BG)); have n12_ := Aside0.mk (Kd.R_lower (Kd.R_new' (Kd.R_new' (Kd.R_new' (Kd.R_new' ho2 (Kd.R_lt (by (with_reducible repeat (first | apply Kd.R_alloc | apply Kd.R_drewN | apply Kd.R_drew)); exact HO784.out))) (Kd.R_lt (by (with_reducible repeat (first | apply Kd.R_alloc | apply Kd.R_drewN | apply Kd.R_drew)); exact HO787.out))) (Kd.R_lt (by (with_reducible repeat (first | apply Kd.R_alloc | apply Kd.R_drewN | apply Kd.R_drew)); exact HO791.out))) (Kd.R_lt (by (with_reducible repeat (first | apply Kd.R_alloc | apply Kd.R_drewN | apply Kd.R_drew)); exact HO797.out))) (below_size BG)); have n13_ := Aside0.mk (Kd.R_lower (Kd.R_new' (Kd.R_new' (Kd.R_new' (Kd.R_new' ho3 (Kd.R_lt (by (with_reducible repeat (first | apply Kd.R_alloc | apply Kd.R_drewN | apply Kd.R_drew)); exact HO784.out))) (Kd.R_lt (by (with_reducible repeat (first | apply Kd.R_alloc | apply Kd.R_drewN | apply Kd.R_drew)); exact HO787.out))) (Kd.R_lt (by (with_reducible repeat (first | apply Kd.R_alloc | apply Kd.R_drewN | apply Kd.R_drew)); exact HO791.out))) (Kd.R_lt (by (with_reducible repeat (first | apply Kd.R_alloc | apply Kd.R_drewN | apply Kd.R_drew)); exact HO797.out))) (below_size BG)); have n14_ := Aside0.mk (Kd.R_lower (Kd.R_new' (Kd.R_new' (Kd.R_new' (Kd.R_new' ho4 (Kd.R_lt (by (with_reducible repeat (first | apply Kd.R_alloc | apply Kd.R_drewN | apply Kd.R_drew)); exact HO784.out))) (Kd.R_lt (by (with_reducible repeat (first | apply Kd.R_alloc | apply Kd.R_drewN | apply Kd.R_drew)); exact HO787.out))) (Kd.R_lt (by (with_reducible repeat (first | apply Kd.R_alloc | apply Kd.R_drewN | apply Kd.R_drew)); exact HO791.out))) (Kd.R_lt (by (with_reducible repeat (first | apply Kd.R_alloc | apply Kd.R_drewN | apply Kd.R_drew)); exact HO797.out))) (below_size BG)); have n15_ := Aside0.mk (Kd.R_lower (Kd.R_new' ho5 (Kd.R_lt (by (with_reducible repeat (first | apply Kd.R_alloc | apply Kd.R_drewN | apply Kd.R_drew)); exact HO794.out))) (below_size BG)); have n16_ := Aside0.mk (Kd.R_lower (Kd.R_new' (Kd.R_new' (Kd.R_new' (Kd.R_new' ho6 (Kd.R_lt (by (with_reducible repeat (first | apply Kd.R_alloc | apply Kd.R_drewN | apply Kd.R_drew)); exact HO784.out))) (Kd.R_lt (by (with_reducible repeat (first | apply Kd.R_alloc | apply Kd.R_drewN | apply Kd.R_drew)); exact HO787.out))) (Kd.R_lt (by (with_reducible repeat (first | apply Kd.R_alloc | apply Kd.R_drewN | apply Kd.R_drew)); exact HO791.out))) (Kd.R_lt (by (with_reducible repeat (first | apply Kd.R_alloc | apply Kd.R_drewN | apply Kd.R_drew)); exact HO797.out))) (below_size BG)); have n17_ := Aside0.mk (Kd.R_lower (Kd.R_new' ho7 (Kd.R_lt (by (with_reducible repeat (first | apply Kd.R_alloc | apply Kd.R_drewN | apply Kd.R_drew)); exact HO800.out))) (below_size BG)); have n18_ := Aside0.mk (Kd.S_lower (Kd.S_new' ho8 (Kd.S_lt (by (with_reducible repeat (first | apply Kd.S_alloc | apply Kd.S_drewN | apply Kd.S_drew)); exact HO803.out))) (below_size BG)); have n19_ := Aside0.mk (Kd.R_lower (Kd.R_new' ho9 (Kd.R_lt (by (with_reducible repeat (first | apply Kd.R_alloc | apply Kd.R_drewN | apply Kd.R_drew)); exact HO806.out))) (below_size BG)); have n20_ := Aside0.mk (blk_below (g := gb772) (o := .cells #[.int .i64 a0_0, .int .i64 a0_1, .slice A0_2 l0_2.length c0_2, .slice A0_3 l0_3.length c0_3, .slice A0_4 l0_4.length c0_4, .slice A0_5 l0_5.length c0_5, .int .i64 a0_6, .slice A0_7 l0_7.length c0_7, .slice A0_8 l0_8.length c0_8, .slice A0_9 l0_9.length c0_9, .slice A0_10 l0_10.length c0_10, .slice A0_11 l0_11.length c0_11, .slice A0_12 l0_12.length c0_12] 64 (0, 0)) (by (with_reducible repeat (first | refine blk_drewN ?_ _ | refine blk_drew ?_ | refine blk_alloc ?_ _)); exact BK772.out) hb); have n21_ := Aside0.mk (below_step BG hb); clear HO778; clear HO781; clear HO784; clear HO787; clear HO791; clear HO794; clear HO797; clear HO800; clear HO803; clear HO806; clear BK772; clear HB; have HO778 := n0_; have HO781 := n1_; have HO784 := n2_; have HO787 := n3_; have HO791 := n4_; have HO794 := n5_; have HO797 := n6_; have HO800 := n7_; have HO803 := n8_; have HO806 := n9_; have HO812 := n10_; have HO815 := n11_; have HO818 := n12_; have HO821 := n13_; have HO825 := n14_; have HO828 := n15_; have HO831 := n16_; have HO834 := n17_; have HO837 := n18_; have HO840 := n19_; have BK772 := n20_; have HB := n21_; clear n0_ n1_ n2_ n3_ n4_ n5_ n6_ n7_ n8_ n9_ n10_ n11_ n12_ n13_ n14_ n15_ n16_ n17_ n18_ n19_ n20_ n21_; (try clear hb); (try clear hb2); (try clear hk); (try clear hi); (try clear ho0); (try clear ho1); (try clear ho2); (try clear ho3); (try clear ho4); (try clear ho5); (try clear ho6); (try clear ho7); (try clear ho8); (try clear ho9)) | ((with_reducible refine gate_dst (N := 7) rfl ?_); refine box_event ?hg (N := 7) ?hd (cs := #[.int .i64 0, .int .i64 0, .slice none 0 0, .slice none 0 0, .slice none 0 0, .slice none 0 0, .int .i64 0, .slice none 0 0, .slice none 0 0, .slice none 0 0, .slice none 0 0, .slice none 0 0, .slice none 0 0]) (t := 76) ?hr ?_; (case hd => rfl); (case hg => rfl); (case hr => first | (go_simp; done) | (go_simp; rfl)); intro gb841 hg w36 hbox hb; have n0_ := Aside0.mk (Kd.R_below (by (with_reducible repeat (first | apply Kd.R_alloc | apply Kd.R_drewN | apply Kd.R_drew)); exact HO778.out) hb); have n1_ := Aside0.mk (Kd.R_below (by (with_reducible repeat (first | apply Kd.R_alloc | apply Kd.R_drewN | apply Kd.R_drew)); exact HO781.out) hb); have n2_ := Aside0.mk (Kd.R_below (by (with_reducible repeat (first | apply Kd.R_alloc | apply Kd.R_drewN | apply Kd.R_drew)); exact HO784.out) hb); have n3_ := Aside0.mk (Kd.R_below (by (with_reducible repeat (first | apply Kd.R_alloc | apply Kd.R_drewN | apply Kd.R_drew)); exact HO787.out) hb); have n4_ := Aside0.mk (Kd.R_below (by (with_reducible repeat (first | apply Kd.R_alloc | apply Kd.R_drewN | apply Kd.R_drew)); exact HO791.out) hb); have n5_ := Aside0.mk (Kd.R_below (by (with_reducible repeat (first | apply Kd.R_alloc | apply Kd.R_drewN | apply Kd.R_drew)); exact HO794.out) hb); have n6_ := Aside0.mk (Kd.R_below (by (with_reducible repeat (first | apply Kd.R_alloc | apply Kd.R_drewN | apply Kd.R_drew)); exact HO797.out) hb); have n7_ := Aside0.mk (Kd.R_below (by (with_reducible repeat (first | apply Kd.R_alloc | apply Kd.R_drewN | apply Kd.R_drew)); exact HO800.out) hb); have n8_ := Aside0.mk (Kd.S_below (by (with_reducible repeat (first | apply Kd.S_alloc | apply Kd.S_drewN | apply Kd.S_drew)); exact HO803.out) hb); have n9_ := Aside0.mk (Kd.R_below (by (with_reducible repeat (first | apply Kd.R_alloc | apply Kd.R_drewN | apply Kd.R_drew)); exact HO806.out) hb); have n10_ := Aside0.mk (Kd.R_below (by (with_reducible repeat (first | apply Kd.R_alloc | apply Kd.R_drewN | apply Kd.R_drew)); exact HO812.out) hb); have n11_ := Aside0.mk (Kd.R_below (by (with_reducible repeat (first | apply Kd.R_alloc | apply Kd.R_drewN | apply Kd.R_drew)); exact HO815.out) hb); have n12_ := Aside0.mk (Kd.R_below (by (with_reducible repeat (first | apply Kd.R_alloc | apply Kd.R_drewN | apply Kd.R_drew)); exact HO818.out) hb); have n13_ := Aside0.mk (Kd.R_below (by (with_reducible repeat (first | apply Kd.R_alloc | apply Kd.R_drewN | apply Kd.R_drew)); exact HO821.out) hb); have n14_ := Aside0.mk (Kd.R_below (by (with_reducible repeat (first | apply Kd.R_alloc | apply Kd.R_drewN | apply Kd.R_drew)); exact HO825.out) hb); have n15_ := Aside0.mk (Kd.R_below (by (with_reducible repeat (first | apply Kd.R_alloc | apply Kd.R_drewN | apply Kd.R_drew)); exact HO828.out) hb); have n16_ := Aside0.mk (Kd.R_below (by (with_reducible repeat (first | apply Kd.R_alloc | apply Kd.R_drewN | apply Kd.R_drew)); exact HO831.out) hb); have n17_ := Aside0.mk (Kd.R_below (by (with_reducible repeat (first | apply Kd.R_alloc | apply Kd.R_drewN | apply Kd.R_drew)); exact HO834.out) hb); have n18_ := Aside0.mk (Kd.S_below (by (with_reducible repeat (first | apply Kd.S_alloc | apply Kd.S_drewN | apply Kd.S_drew)); exact HO837.out) hb); have n19_ := Aside0.mk (Kd.R_below (by (with_reducible repeat (first | apply Kd.R_alloc | apply Kd.R_drewN | apply Kd.R_drew)); exact HO840.out) hb); have n20_ := Aside0.mk (blk_below (g := gb772) (o := .cells #[.int .i64 a0_0, .int .i64 a0_1, .slice A0_2 l0_2.length c0_2, .slice A0_3 l0_3.length c0_3, .slice A0_4 l0_4.length c0_4, .slice A0_5 l0_5.length c0_5, .int .i64 a0_6, .slice A0_7 l0_7.length c0_7, .slice A0_8 l0_8.length c0_8, .slice A0_9 l0_9.length c0_9, .slice A0_10 l0_10.length c0_10, .slice A0_11 l0_11.length c0_11, .slice A0_12 l0_12.length c0_12] 64 (0, 0)) (by (with_reducible repeat (first | refine blk_drewN ?_ _ | refine blk_drew ?_ | refine blk_alloc ?_ _)); exact BK772.out) hb); have n21_ := Aside0.mk (below_step BG hb); have n22_ := Aside0.mk (hbox); have n23_ := Aside0.mk ((by rw [hg]; exact (below_size BG) : w.heap.size ≤ gb841)); have n24_ := Aside0.mk ((by rw [hg]; exact (below_size BG) : w.heap.size ≤ gb841)); have n25_ := Aside0.mk ((by rw [hg]; exact Nat.ne_of_lt (blk_lt (g := gb772) (o := .cells #[.int .i64 a0_0, .int .i64 a0_1, .slice A0_2 l0_2.length c0_2, .slice A0_3 l0_3.length c0_3, .slice A0_4 l0_4.length c0_4, .slice A0_5 l0_5.length c0_5, .int .i64 a0_6, .slice A0_7 l0_7.length c0_7, .slice A0_8 l0_8.length c0_8, .slice A0_9 l0_9.length c0_9, .slice A0_10 l0_10.length c0_10, .slice A0_11 l0_11.length c0_11, .slice A0_12 l0_12.length c0_12] 64 (0, 0)) (by (with_reducible repeat (first | refine blk_drewN ?_ _ | refine blk_drew ?_ | refine blk_alloc ?_ _)); exact BK772.out)) : gb772 ≠ gb841)); have n26_ := Aside0.mk ((by rw [hg]; exact Nat.ne_of_gt (blk_lt (g := gb772) (o := .cells #[.int .i64 a0_0, .int .i64 a0_1, .slice A0_2 l0_2.length c0_2, .slice A0_3 l0_3.length c0_3, .slice A0_4 l0_4.length c0_4, .slice A0_5 l0_5.length c0_5, .int .i64 a0_6, .slice A0_7 l0_7.length c0_7, .slice A0_8 l0_8.length c0_8, .slice A0_9 l0_9.length c0_9, .slice A0_10 l0_10.length c0_10, .slice A0_11 l0_11.length c0_11, .slice A0_12 l0_12.length c0_12] 64 (0, 0)) (by (with_reducible repeat (first | refine blk_drewN ?_ _ | refine blk_drew ?_ | refine blk_alloc ?_ _)); exact BK772.out)) : gb841 ≠ gb772)); clear HO778; clear HO781; clear HO784; clear HO787; clear HO791; clear HO794; clear HO797; clear HO800; clear HO803; clear HO806; clear HO812; clear HO815; clear HO818; clear HO821; clear HO825; clear HO828; clear HO831; clear HO834; clear HO837; clear HO840; clear BK772; clear HB; have HO778 := n0_; have HO781 := n1_; have HO784 := n2_; have HO787 := n3_; have HO791 := n4_; have HO794 := n5_; have HO797 := n6_; have HO800 := n7_; have HO803 := n8_; have HO806 := n9_; have HO812 := n10_; have HO815 := n11_; have HO818 := n12_; have HO821 := n13_; have HO825 := n14_; have HO828 := n15_; have HO831 := n16_; have HO834 := n17_; have HO837 := n18_; have HO840 := n19_; have BK772 := n20_; have HB := n21_; have BK841 := n22_; have GW841 := n23_; have GE841 := n24_; have NB772_841 := n25_; have NB841_772 := n26_; clear n0_ n1_ n2_ n3_ n4_ n5_ n6_ n7_ n8_ n9_ n10_ n11_ n12_ n13_ n14_ n15_ n16_ n17_ n18_ n19_ n20_ n21_ n22_ n23_ n24_ n25_ n26_; clear hb hbox hg; have hnb37 := NB841_772.out; have hnc37 := NB772_841.out; obtain ⟨hcz38_0, hcz38_1, hcz38_2, hcz38_3, hcz38_4, hcz38_5, hcz38_6, hcz38_7, hcz38_8, hcz38_9, hcz38_10, hcz38_11, hcz38_12, hfz38_0, hfz38_1, hfz38_2, hfz38_3, hfz38_4, hfz38_5, hfz38_6, hfz38_7, hfz38_8, hfz38_9, hfz38_10, hfz38_11, hfz38_12⟩ := bk13 BK841.out; obtain ⟨Ao39, co39, eo39⟩ := Kd.R_slice HO812.out; subst eo39; obtain ⟨Ao40, co40, eo40⟩ := Kd.R_slice HO815.out; subst eo40; obtain ⟨Ao41, co41, eo41⟩ := Kd.R_slice HO818.out; subst eo41; obtain ⟨Ao42, co42, eo42⟩ := Kd.R_slice HO821.out; subst eo42; obtain ⟨Ao43, co43, eo43⟩ := Kd.R_slice HO825.out; subst eo43; obtain ⟨Ao44, co44, eo44⟩ := Kd.R_slice HO828.out; subst eo44; obtain ⟨Ao45, co45, eo45⟩ := Kd.R_slice HO831.out; subst eo45; obtain ⟨Ao46, co46, eo46⟩ := Kd.R_slice HO834.out; subst eo46; obtain ⟨Ao47, co47, eo47⟩ := Kd.S_slice HO837.out; subst eo47; obtain ⟨Ao48, co48, eo48⟩ := Kd.R_slice HO840.out; subst eo48) | ((with_reducible refine gate_callee (f := 36) rfl ?_); refine goesL_ (some 25) rfl rfl Try.func36 (by kernel_rfl) rfl #[.agg #[.int .i64 t808, .int .i64 t809, .slice Ao39 t810.length co39, .slice Ao40 t813.length co40, .slice Ao41 t816.length co41, .slice Ao42 t819.length co42, .int .i64 t822, .slice Ao43 t823.length co43, .slice Ao44 t826.length co44, .slice Ao45 t829.length co45, .slice Ao46 t832.length co46, .slice Ao47 t835.length co47, .slice Ao48 t838.length co48], .string a1] rfl AQ ?_; (with_reducible refine (impl_PlaceOf.calls k t808 t809 _ _ t810 _ _ t813 _ _ t816 _ _ t819 t822 _ _ t823 _ _ t826 _ _ t829 _ _ t832 _ _ t835 _ _ t838 a1 t842 _ ?side1 ?side2 ?side3 ?side4 ?side5 ?side6 ?side7 ?side8 ?side9 ?side10 ?side11 ?side12 ?side13 ?side14 ?side15 ?side16 ?side17 ?side18 ?side19 ?side20 A13.out).mono ?_); (case side1 => refine (Kd.R_reads' (e := 23) (base := w.heap.size) (ok := fun k_ => ((some k_ ≠ (.slice Ao40 t813.length co40 : Value).ownBlock ∧ some k_ ≠ (.slice Ao23 t776.length co23 : Value).ownBlock) ∧ some k_ ≠ (.slice Ao24 t779.length co24 : Value).ownBlock)) (n := t810.length) (c := co39) ?_).2.2; exact (by (with_reducible repeat (first | apply Kd.R_alloc | apply Kd.R_drewN | apply Kd.R_drew)); exact (Kd.R_mono (Kd.R_far (p := ⟨gb841, 12, none⟩) (Kd.R_far (p := ⟨gb841, 11, none⟩) (Kd.R_far (p := ⟨gb841, 10, none⟩) (Kd.R_far (p := ⟨gb841, 9, none⟩) (Kd.R_far (p := ⟨gb841, 8, none⟩) (Kd.R_far (p := ⟨gb841, 7, none⟩) (Kd.R_far (p := ⟨gb841, 6, none⟩) (Kd.R_far (p := ⟨gb841, 5, none⟩) (Kd.R_far (p := ⟨gb841, 4, none⟩) (Kd.R_far (p := ⟨gb841, 3, none⟩) (Kd.R_far (p := ⟨gb841, 2, none⟩) (Kd.R_far (p := ⟨gb841, 1, none⟩) (Kd.R_far (p := ⟨gb841, 0, none⟩) (Kd.R_types HO812.out BK841.out (by decide)) (fun _ hk => hk.2) (.int .i64 t808)) (fun _ hk => hk.2) (.int .i64 t809)) (fun _ hk => hk.2) (.slice Ao39 t810.length co39)) (fun _ hk => hk.2) (.slice Ao40 t813.length co40)) (fun _ hk => hk.2) (.slice Ao41 t816.length co41)) (fun _ hk => hk.2) (.slice Ao42 t819.length co42)) (fun _ hk => hk.2) (.int .i64 t822)) (fun _ hk => hk.2) (.slice Ao43 t823.length co43)) (fun _ hk => hk.2) (.slice Ao44 t826.length co44)) (fun _ hk => hk.2) (.slice Ao45 t829.length co45)) (fun _ hk => hk.2) (.slice Ao46 t832.length co46)) (fun _ hk => hk.2) (.slice Ao47 t835.length co47)) (fun _ hk => hk.2) (.slice Ao48 t838.length co48)) (fun _ h_ => h_.1)))); (case side2 => exact (Kd.R_reads' HO812.out).2.1); (case side3 => refine (Kd.R_reads' (e := 23) (base := w.heap.size) (ok := fun k_ => ((some k_ ≠ (.slice Ao39 t810.length co39 : Value).ownBlock ∧ some k_ ≠ (.slice Ao23 t776.length co23 : Value).ownBlock) ∧ some k_ ≠ (.slice Ao24 t779.length co24 : Value).ownBlock)) (n := t813.length) (c := co40) ?_).2.2; exact (by (with_reducible repeat (first | apply Kd.R_alloc | apply Kd.R_drewN | apply Kd.R_drew)); exact (Kd.R_mono (Kd.R_far (p := ⟨gb841, 12, none⟩) (Kd.R_far (p := ⟨gb841, 11, none⟩) (Kd.R_far (p := ⟨gb841, 10, none⟩) (Kd.R_far (p := ⟨gb841, 9, none⟩) (Kd.R_far (p := ⟨gb841, 8, none⟩) (Kd.R_far (p := ⟨gb841, 7, none⟩) (Kd.R_far (p := ⟨gb841, 6, none⟩) (Kd.R_far (p := ⟨gb841, 5, none⟩) (Kd.R_far (p := ⟨gb841, 4, none⟩) (Kd.R_far (p := ⟨gb841, 3, none⟩) (Kd.R_far (p := ⟨gb841, 2, none⟩) (Kd.R_far (p := ⟨gb841, 1, none⟩) (Kd.R_far (p := ⟨gb841, 0, none⟩) (Kd.R_types HO815.out BK841.out (by decide)) (fun _ hk => hk.2) (.int .i64 t808)) (fun _ hk => hk.2) (.int .i64 t809)) (fun _ hk => hk.2) (.slice Ao39 t810.length co39)) (fun _ hk => hk.2) (.slice Ao40 t813.length co40)) (fun _ hk => hk.2) (.slice Ao41 t816.length co41)) (fun _ hk => hk.2) (.slice Ao42 t819.length co42)) (fun _ hk => hk.2) (.int .i64 t822)) (fun _ hk => hk.2) (.slice Ao43 t823.length co43)) (fun _ hk => hk.2) (.slice Ao44 t826.length co44)) (fun _ hk => hk.2) (.slice Ao45 t829.length co45)) (fun _ hk => hk.2) (.slice Ao46 t832.length co46)) (fun _ hk => hk.2) (.slice Ao47 t835.length co47)) (fun _ hk => hk.2) (.slice Ao48 t838.length co48)) (fun _ h_ => h_.1)))); (case side4 => exact (Kd.R_reads' HO815.out).2.1); (case side5 => refine (Kd.R_reads' (e := 3) (base := w.heap.size) (ok := fun k_ => (((((some k_ ≠ (.slice Ao42 t819.length co42 : Value).ownBlock ∧ (some k_ ≠ (.slice Ao43 t823.length co43 : Value).ownBlock ∧ some k_ ≠ (.slice Ao45 t829.length co45 : Value).ownBlock)) ∧ some k_ ≠ (.slice Ao25 t782.length co25 : Value).ownBlock) ∧ some k_ ≠ (.slice Ao26 t785.length co26 : Value).ownBlock) ∧ some k_ ≠ (.slice Ao27 t789.length co27 : Value).ownBlock) ∧ some k_ ≠ (.slice Ao29 t795.length co29 : Value).ownBlock)) (n := t816.length) (c := co41) ?_).2.2; exact (by (with_reducible repeat (first | apply Kd.R_alloc | apply Kd.R_drewN | apply Kd.R_drew)); exact (Kd.R_mono (Kd.R_far (p := ⟨gb841, 12, none⟩) (Kd.R_far (p := ⟨gb841, 11, none⟩) (Kd.R_far (p := ⟨gb841, 10, none⟩) (Kd.R_far (p := ⟨gb841, 9, none⟩) (Kd.R_far (p := ⟨gb841, 8, none⟩) (Kd.R_far (p := ⟨gb841, 7, none⟩) (Kd.R_far (p := ⟨gb841, 6, none⟩) (Kd.R_far (p := ⟨gb841, 5, none⟩) (Kd.R_far (p := ⟨gb841, 4, none⟩) (Kd.R_far (p := ⟨gb841, 3, none⟩) (Kd.R_far (p := ⟨gb841, 2, none⟩) (Kd.R_far (p := ⟨gb841, 1, none⟩) (Kd.R_far (p := ⟨gb841, 0, none⟩) (Kd.R_types HO818.out BK841.out (by decide)) (fun _ hk => hk.2) (.int .i64 t808)) (fun _ hk => hk.2) (.int .i64 t809)) (fun _ hk => hk.2) (.slice Ao39 t810.length co39)) (fun _ hk => hk.2) (.slice Ao40 t813.length co40)) (fun _ hk => hk.2) (.slice Ao41 t816.length co41)) (fun _ hk => hk.2) (.slice Ao42 t819.length co42)) (fun _ hk => hk.2) (.int .i64 t822)) (fun _ hk => hk.2) (.slice Ao43 t823.length co43)) (fun _ hk => hk.2) (.slice Ao44 t826.length co44)) (fun _ hk => hk.2) (.slice Ao45 t829.length co45)) (fun _ hk => hk.2) (.slice Ao46 t832.length co46)) (fun _ hk => hk.2) (.slice Ao47 t835.length co47)) (fun _ hk => hk.2) (.slice Ao48 t838.length co48)) (fun _ h_ => h_.1)))); (case side6 => exact (Kd.R_reads' HO818.out).2.1); (case side7 => refine (Kd.R_reads' (e := 3) (base := w.heap.size) (ok := fun k_ => (((((some k_ ≠ (.slice Ao41 t816.length co41 : Value).ownBlock ∧ (some k_ ≠ (.slice Ao43 t823.length co43 : Value).ownBlock ∧ some k_ ≠ (.slice Ao45 t829.length co45 : Value).ownBlock)) ∧ some k_ ≠ (.slice Ao25 t782.length co25 : Value).ownBlock) ∧ some k_ ≠ (.slice Ao26 t785.length co26 : Value).ownBlock) ∧ some k_ ≠ (.slice Ao27 t789.length co27 : Value).ownBlock) ∧ some k_ ≠ (.slice Ao29 t795.length co29 : Value).ownBlock)) (n := t819.length) (c := co42) ?_).2.2; exact (by (with_reducible repeat (first | apply Kd.R_alloc | apply Kd.R_drewN | apply Kd.R_drew)); exact (Kd.R_mono (Kd.R_far (p := ⟨gb841, 12, none⟩) (Kd.R_far (p := ⟨gb841, 11, none⟩) (Kd.R_far (p := ⟨gb841, 10, none⟩) (Kd.R_far (p := ⟨gb841, 9, none⟩) (Kd.R_far (p := ⟨gb841, 8, none⟩) (Kd.R_far (p := ⟨gb841, 7, none⟩) (Kd.R_far (p := ⟨gb841, 6, none⟩) (Kd.R_far (p := ⟨gb841, 5, none⟩) (Kd.R_far (p := ⟨gb841, 4, none⟩) (Kd.R_far (p := ⟨gb841, 3, none⟩) (Kd.R_far (p := ⟨gb841, 2, none⟩) (Kd.R_far (p := ⟨gb841, 1, none⟩) (Kd.R_far (p := ⟨gb841, 0, none⟩) (Kd.R_types HO821.out BK841.out (by decide)) (fun _ hk => hk.2) (.int .i64 t808)) (fun _ hk => hk.2) (.int .i64 t809)) (fun _ hk => hk.2) (.slice Ao39 t810.length co39)) (fun _ hk => hk.2) (.slice Ao40 t813.length co40)) (fun _ hk => hk.2) (.slice Ao41 t816.length co41)) (fun _ hk => hk.2) (.slice Ao42 t819.length co42)) (fun _ hk => hk.2) (.int .i64 t822)) (fun _ hk => hk.2) (.slice Ao43 t823.length co43)) (fun _ hk => hk.2) (.slice Ao44 t826.length co44)) (fun _ hk => hk.2) (.slice Ao45 t829.length co45)) (fun _ hk => hk.2) (.slice Ao46 t832.length co46)) (fun _ hk => hk.2) (.slice Ao47 t835.length co47)) (fun _ hk => hk.2) (.slice Ao48 t838.length co48)) (fun _ h_ => h_.1)))); (case side8 => exact (Kd.R_reads' HO821.out).2.1); (case side9 => refine (Kd.R_reads' (e := 3) (base := w.heap.size) (ok := fun k_ => (((((some k_ ≠ (.slice Ao41 t816.length co41 : Value).ownBlock ∧ (some k_ ≠ (.slice Ao42 t819.length co42 : Value).ownBlock ∧ some k_ ≠ (.slice Ao45 t829.length co45 : Value).ownBlock)) ∧ some k_ ≠ (.slice Ao25 t782.length co25 : Value).ownBlock) ∧ some k_ ≠ (.slice Ao26 t785.length co26 : Value).ownBlock) ∧ some k_ ≠ (.slice Ao27 t789.length co27 : Value).ownBlock) ∧ some k_ ≠ (.slice Ao29 t795.length co29 : Value).ownBlock)) (n := t823.length) (c := co43) ?_).2.2; exact (by (with_reducible repeat (first | apply Kd.R_alloc | apply Kd.R_drewN | apply Kd.R_drew)); exact (Kd.R_mono (Kd.R_far (p := ⟨gb841, 12, none⟩) (Kd.R_far (p := ⟨gb841, 11, none⟩) (Kd.R_far (p := ⟨gb841, 10, none⟩) (Kd.R_far (p := ⟨gb841, 9, none⟩) (Kd.R_far (p := ⟨gb841, 8, none⟩) (Kd.R_far (p := ⟨gb841, 7, none⟩) (Kd.R_far (p := ⟨gb841, 6, none⟩) (Kd.R_far (p := ⟨gb841, 5, none⟩) (Kd.R_far (p := ⟨gb841, 4, none⟩) (Kd.R_far (p := ⟨gb841, 3, none⟩) (Kd.R_far (p := ⟨gb841, 2, none⟩) (Kd.R_far (p := ⟨gb841, 1, none⟩) (Kd.R_far (p := ⟨gb841, 0, none⟩) (Kd.R_types HO825.out BK841.out (by decide)) (fun _ hk => hk.2) (.int .i64 t808)) (fun _ hk => hk.2) (.int .i64 t809)) (fun _ hk => hk.2) (.slice Ao39 t810.length co39)) (fun _ hk => hk.2) (.slice Ao40 t813.length co40)) (fun _ hk => hk.2) (.slice Ao41 t816.length co41)) (fun _ hk => hk.2) (.slice Ao42 t819.length co42)) (fun _ hk => hk.2) (.int .i64 t822)) (fun _ hk => hk.2) (.slice Ao43 t823.length co43)) (fun _ hk => hk.2) (.slice Ao44 t826.length co44)) (fun _ hk => hk.2) (.slice Ao45 t829.length co45)) (fun _ hk => hk.2) (.slice Ao46 t832.length co46)) (fun _ hk => hk.2) (.slice Ao47 t835.length co47)) (fun _ hk => hk.2) (.slice Ao48 t838.length co48)) (fun _ h_ => h_.1)))); (case side10 => exact (Kd.R_reads' HO825.out).2.1); (case side11 => refine (Kd.R_reads' (e := 219) (base := w.heap.size) (ok := fun k_ => (True ∧ some k_ ≠ (.slice Ao28 t792.length co28 : Value).ownBlock)) (n := t826.length) (c := co44) ?_).2.2; exact (by (with_reducible repeat (first | apply Kd.R_alloc | apply Kd.R_drewN | apply Kd.R_drew)); exact (Kd.R_mono (Kd.R_far (p := ⟨gb841, 12, none⟩) (Kd.R_far (p := ⟨gb841, 11, none⟩) (Kd.R_far (p := ⟨gb841, 10, none⟩) (Kd.R_far (p := ⟨gb841, 9, none⟩) (Kd.R_far (p := ⟨gb841, 8, none⟩) (Kd.R_far (p := ⟨gb841, 7, none⟩) (Kd.R_far (p := ⟨gb841, 6, none⟩) (Kd.R_far (p := ⟨gb841, 5, none⟩) (Kd.R_far (p := ⟨gb841, 4, none⟩) (Kd.R_far (p := ⟨gb841, 3, none⟩) (Kd.R_far (p := ⟨gb841, 2, none⟩) (Kd.R_far (p := ⟨gb841, 1, none⟩) (Kd.R_far (p := ⟨gb841, 0, none⟩) (Kd.R_types HO828.out BK841.out (by decide)) (fun _ hk => hk.2) (.int .i64 t808)) (fun _ hk => hk.2) (.int .i64 t809)) (fun _ hk => hk.2) (.slice Ao39 t810.length co39)) (fun _ hk => hk.2) (.slice Ao40 t813.length co40)) (fun _ hk => hk.2) (.slice Ao41 t816.length co41)) (fun _ hk => hk.2) (.slice Ao42 t819.length co42)) (fun _ hk => hk.2) (.int .i64 t822)) (fun _ hk => hk.2) (.slice Ao43 t823.length co43)) (fun _ hk => hk.2) (.slice Ao44 t826.length co44)) (fun _ hk => hk.2) (.slice Ao45 t829.length co45)) (fun _ hk => hk.2) (.slice Ao46 t832.length co46)) (fun _ hk => hk.2) (.slice Ao47 t835.length co47)) (fun _ hk => hk.2) (.slice Ao48 t838.length co48)) (fun _ h_ => h_.1)))); (case side12 => exact (Kd.R_reads' HO828.out).2.1); (case side13 => refine (Kd.R_reads' (e := 3) (base := w.heap.size) (ok := fun k_ => (((((some k_ ≠ (.slice Ao41 t816.length co41 : Value).ownBlock ∧ (some k_ ≠ (.slice Ao42 t819.length co42 : Value).ownBlock ∧ some k_ ≠ (.slice Ao43 t823.length co43 : Value).ownBlock)) ∧ some k_ ≠ (.slice Ao25 t782.length co25 : Value).ownBlock) ∧ some k_ ≠ (.slice Ao26 t785.length co26 : Value).ownBlock) ∧ some k_ ≠ (.slice Ao27 t789.length co27 : Value).ownBlock) ∧ some k_ ≠ (.slice Ao29 t795.length co29 : Value).ownBlock)) (n := t829.length) (c := co45) ?_).2.2; exact (by (with_reducible repeat (first | apply Kd.R_alloc | apply Kd.R_drewN | apply Kd.R_drew)); exact (Kd.R_mono (Kd.R_far (p := ⟨gb841, 12, none⟩) (Kd.R_far (p := ⟨gb841, 11, none⟩) (Kd.R_far (p := ⟨gb841, 10, none⟩) (Kd.R_far (p := ⟨gb841, 9, none⟩) (Kd.R_far (p := ⟨gb841, 8, none⟩) (Kd.R_far (p := ⟨gb841, 7, none⟩) (Kd.R_far (p := ⟨gb841, 6, none⟩) (Kd.R_far (p := ⟨gb841, 5, none⟩) (Kd.R_far (p := ⟨gb841, 4, none⟩) (Kd.R_far (p := ⟨gb841, 3, none⟩) (Kd.R_far (p := ⟨gb841, 2, none⟩) (Kd.R_far (p := ⟨gb841, 1, none⟩) (Kd.R_far (p := ⟨gb841, 0, none⟩) (Kd.R_types HO831.out BK841.out (by decide)) (fun _ hk => hk.2) (.int .i64 t808)) (fun _ hk => hk.2) (.int .i64 t809)) (fun _ hk => hk.2) (.slice Ao39 t810.length co39)) (fun _ hk => hk.2) (.slice Ao40 t813.length co40)) (fun _ hk => hk.2) (.slice Ao41 t816.length co41)) (fun _ hk => hk.2) (.slice Ao42 t819.length co42)) (fun _ hk => hk.2) (.int .i64 t822)) (fun _ hk => hk.2) (.slice Ao43 t823.length co43)) (fun _ hk => hk.2) (.slice Ao44 t826.length co44)) (fun _ hk => hk.2) (.slice Ao45 t829.length co45)) (fun _ hk => hk.2) (.slice Ao46 t832.length co46)) (fun _ hk => hk.2) (.slice Ao47 t835.length co47)) (fun _ hk => hk.2) (.slice Ao48 t838.length co48)) (fun _ h_ => h_.1)))); (case side14 => exact (Kd.R_reads' HO831.out).2.1); (case side15 => refine (Kd.R_reads' (e := 124) (base := w.heap.size) (ok := fun k_ => (True ∧ some k_ ≠ (.slice Ao30 t798.length co30 : Value).ownBlock)) (n := t832.length) (c := co46) ?_).2.2; exact (by (with_reducible repeat (first | apply Kd.R_alloc | apply Kd.R_drewN | apply Kd.R_drew)); exact (Kd.R_mono (Kd.R_far (p := ⟨gb841, 12, none⟩) (Kd.R_far (p := ⟨gb841, 11, none⟩) (Kd.R_far (p := ⟨gb841, 10, none⟩) (Kd.R_far (p := ⟨gb841, 9, none⟩) (Kd.R_far (p := ⟨gb841, 8, none⟩) (Kd.R_far (p := ⟨gb841, 7, none⟩) (Kd.R_far (p := ⟨gb841, 6, none⟩) (Kd.R_far (p := ⟨gb841, 5, none⟩) (Kd.R_far (p := ⟨gb841, 4, none⟩) (Kd.R_far (p := ⟨gb841, 3, none⟩) (Kd.R_far (p := ⟨gb841, 2, none⟩) (Kd.R_far (p := ⟨gb841, 1, none⟩) (Kd.R_far (p := ⟨gb841, 0, none⟩) (Kd.R_types HO834.out BK841.out (by decide)) (fun _ hk => hk.2) (.int .i64 t808)) (fun _ hk => hk.2) (.int .i64 t809)) (fun _ hk => hk.2) (.slice Ao39 t810.length co39)) (fun _ hk => hk.2) (.slice Ao40 t813.length co40)) (fun _ hk => hk.2) (.slice Ao41 t816.length co41)) (fun _ hk => hk.2) (.slice Ao42 t819.length co42)) (fun _ hk => hk.2) (.int .i64 t822)) (fun _ hk => hk.2) (.slice Ao43 t823.length co43)) (fun _ hk => hk.2) (.slice Ao44 t826.length co44)) (fun _ hk => hk.2) (.slice Ao45 t829.length co45)) (fun _ hk => hk.2) (.slice Ao46 t832.length co46)) (fun _ hk => hk.2) (.slice Ao47 t835.length co47)) (fun _ hk => hk.2) (.slice Ao48 t838.length co48)) (fun _ h_ => h_.1)))); (case side16 => exact (Kd.R_reads' HO834.out).2.1); (case side17 => refine (Kd.S_reads' (e := 142) (base := w.heap.size) (ok := fun k_ => (True ∧ some k_ ≠ (.slice Ao31 t801.length co31 : Value).ownBlock)) (n := t835.length) (c := co47) ?_).2.2; exact (by (with_reducible repeat (first | apply Kd.S_alloc | apply Kd.S_drewN | apply Kd.S_drew)); exact (Kd.S_mono (Kd.S_far (p := ⟨gb841, 12, none⟩) (Kd.S_far (p := ⟨gb841, 11, none⟩) (Kd.S_far (p := ⟨gb841, 10, none⟩) (Kd.S_far (p := ⟨gb841, 9, none⟩) (Kd.S_far (p := ⟨gb841, 8, none⟩) (Kd.S_far (p := ⟨gb841, 7, none⟩) (Kd.S_far (p := ⟨gb841, 6, none⟩) (Kd.S_far (p := ⟨gb841, 5, none⟩) (Kd.S_far (p := ⟨gb841, 4, none⟩) (Kd.S_far (p := ⟨gb841, 3, none⟩) (Kd.S_far (p := ⟨gb841, 2, none⟩) (Kd.S_far (p := ⟨gb841, 1, none⟩) (Kd.S_far (p := ⟨gb841, 0, none⟩) (Kd.S_types HO837.out BK841.out (by decide)) (fun _ hk => hk.2) (.int .i64 t808)) (fun _ hk => hk.2) (.int .i64 t809)) (fun _ hk => hk.2) (.slice Ao39 t810.length co39)) (fun _ hk => hk.2) (.slice Ao40 t813.length co40)) (fun _ hk => hk.2) (.slice Ao41 t816.length co41)) (fun _ hk => hk.2) (.slice Ao42 t819.length co42)) (fun _ hk => hk.2) (.int .i64 t822)) (fun _ hk => hk.2) (.slice Ao43 t823.length co43)) (fun _ hk => hk.2) (.slice Ao44 t826.length co44)) (fun _ hk => hk.2) (.slice Ao45 t829.length co45)) (fun _ hk => hk.2) (.slice Ao46 t832.length co46)) (fun _ hk => hk.2) (.slice Ao47 t835.length co47)) (fun _ hk => hk.2) (.slice Ao48 t838.length co48)) (fun _ h_ => h_.1)))); (case side18 => exact (Kd.S_reads' HO837.out).2.1); (case side19 => refine (Kd.R_reads' (e := 184) (base := w.heap.size) (ok := fun k_ => (True ∧ some k_ ≠ (.slice Ao32 t804.length co32 : Value).ownBlock)) (n := t838.length) (c := co48) ?_).2.2; exact (by (with_reducible repeat (first | apply Kd.R_alloc | apply Kd.R_drewN | apply Kd.R_drew)); exact (Kd.R_mono (Kd.R_far (p := ⟨gb841, 12, none⟩) (Kd.R_far (p := ⟨gb841, 11, none⟩) (Kd.R_far (p := ⟨gb841, 10, none⟩) (Kd.R_far (p := ⟨gb841, 9, none⟩) (Kd.R_far (p := ⟨gb841, 8, none⟩) (Kd.R_far (p := ⟨gb841, 7, none⟩) (Kd.R_far (p := ⟨gb841, 6, none⟩) (Kd.R_far (p := ⟨gb841, 5, none⟩) (Kd.R_far (p := ⟨gb841, 4, none⟩) (Kd.R_far (p := ⟨gb841, 3, none⟩) (Kd.R_far (p := ⟨gb841, 2, none⟩) (Kd.R_far (p := ⟨gb841, 1, none⟩) (Kd.R_far (p := ⟨gb841, 0, none⟩) (Kd.R_types HO840.out BK841.out (by decide)) (fun _ hk => hk.2) (.int .i64 t808)) (fun _ hk => hk.2) (.int .i64 t809)) (fun _ hk => hk.2) (.slice Ao39 t810.length co39)) (fun _ hk => hk.2) (.slice Ao40 t813.length co40)) (fun _ hk => hk.2) (.slice Ao41 t816.length co41)) (fun _ hk => hk.2) (.slice Ao42 t819.length co42)) (fun _ hk => hk.2) (.int .i64 t822)) (fun _ hk => hk.2) (.slice Ao43 t823.length co43)) (fun _ hk => hk.2) (.slice Ao44 t826.length co44)) (fun _ hk => hk.2) (.slice Ao45 t829.length co45)) (fun _ hk => hk.2) (.slice Ao46 t832.length co46)) (fun _ hk => hk.2) (.slice Ao47 t835.length co47)) (fun _ hk => hk.2) (.slice Ao48 t838.length co48)) (fun _ h_ => h_.1)))); (case side20 => exact (Kd.R_reads' HO840.out).2.1); rintro e w49 ⟨rfl, hb⟩; refine ⟨_, rfl, ?_⟩; have n0_ := Aside0.mk (Kd.R_below (by (with_reducible repeat (first | apply Kd.R_alloc | apply Kd.R_drewN | apply Kd.R_drew)); exact (Kd.R_mono (Kd.R_far (p := ⟨gb841, 12, none⟩) (Kd.R_far (p := ⟨gb841, 11, none⟩) (Kd.R_far (p := ⟨gb841, 10, none⟩) (Kd.R_far (p := ⟨gb841, 9, none⟩) (Kd.R_far (p := ⟨gb841, 8, none⟩) (Kd.R_far (p := ⟨gb841, 7, none⟩) (Kd.R_far (p := ⟨gb841, 6, none⟩) (Kd.R_far (p := ⟨gb841, 5, none⟩) (Kd.R_far (p := ⟨gb841, 4, none⟩) (Kd.R_far (p := ⟨gb841, 3, none⟩) (Kd.R_far (p := ⟨gb841, 2, none⟩) (Kd.R_far (p := ⟨gb841, 1, none⟩) (Kd.R_far (p := ⟨gb841, 0, none⟩) (Kd.R_types HO778.out BK841.out (by decide)) (fun _ hk => hk.2) (.int .i64 t808)) (fun _ hk => hk.2) (.int .i64 t809)) (fun _ hk => hk.2) (.slice Ao39 t810.length co39)) (fun _ hk => hk.2) (.slice Ao40 t813.length co40)) (fun _ hk => hk.2) (.slice Ao41 t816.length co41)) (fun _ hk => hk.2) (.slice Ao42 t819.length co42)) (fun _ hk => hk.2) (.int .i64 t822)) (fun _ hk => hk.2) (.slice Ao43 t823.length co43)) (fun _ hk => hk.2) (.slice Ao44 t826.length co44)) (fun _ hk => hk.2) (.slice Ao45 t829.length co45)) (fun _ hk => hk.2) (.slice Ao46 t832.length co46)) (fun _ hk => hk.2) (.slice Ao47 t835.length co47)) (fun _ hk => hk.2) (.slice Ao48 t838.length co48)) (fun _ h_ => h_.1))) hb); have n1_ := Aside0.mk (Kd.R_below (by (with_reducible repeat (first | apply Kd.R_alloc | apply Kd.R_drewN | apply Kd.R_drew)); exact (Kd.R_mono (Kd.R_far (p := ⟨gb841, 12, none⟩) (Kd.R_far (p := ⟨gb841, 11, none⟩) (Kd.R_far (p := ⟨gb841, 10, none⟩) (Kd.R_far (p := ⟨gb841, 9, none⟩) (Kd.R_far (p := ⟨gb841, 8, none⟩) (Kd.R_far (p := ⟨gb841, 7, none⟩) (Kd.R_far (p := ⟨gb841, 6, none⟩) (Kd.R_far (p := ⟨gb841, 5, none⟩) (Kd.R_far (p := ⟨gb841, 4, none⟩) (Kd.R_far (p := ⟨gb841, 3, none⟩) (Kd.R_far (p := ⟨gb841, 2, none⟩) (Kd.R_far (p := ⟨gb841, 1, none⟩) (Kd.R_far (p := ⟨gb841, 0, none⟩) (Kd.R_types HO781.out BK841.out (by decide)) (fun _ hk => hk.2) (.int .i64 t808)) (fun _ hk => hk.2) (.int .i64 t809)) (fun _ hk => hk.2) (.slice Ao39 t810.length co39)) (fun _ hk => hk.2) (.slice Ao40 t813.length co40)) (fun _ hk => hk.2) (.slice Ao41 t816.length co41)) (fun _ hk => hk.2) (.slice Ao42 t819.length co42)) (fun _ hk => hk.2) (.int .i64 t822)) (fun _ hk => hk.2) (.slice Ao43 t823.length co43)) (fun _ hk => hk.2) (.slice Ao44 t826.length co44)) (fun _ hk => hk.2) (.slice Ao45 t829.length co45)) (fun _ hk => hk.2) (.slice Ao46 t832.length co46)) (fun _ hk => hk.2) (.slice Ao47 t835.length co47)) (fun _ hk => hk.2) (.slice Ao48 t838.length co48)) (fun _ h_ => h_.1))) hb); have n2_ := Aside0.mk (Kd.R_below (by (with_reducible repeat (first | apply Kd.R_alloc | apply Kd.R_drewN | apply Kd.R_drew)); exact (Kd.R_mono (Kd.R_far (p := ⟨gb841, 12, none⟩) (Kd.R_far (p := ⟨gb841, 11, none⟩) (Kd.R_far (p := ⟨gb841, 10, none⟩) (Kd.R_far (p := ⟨gb841, 9, none⟩) (Kd.R_far (p := ⟨gb841, 8, none⟩) (Kd.R_far (p := ⟨gb841, 7, none⟩) (Kd.R_far (p := ⟨gb841, 6, none⟩) (Kd.R_far (p := ⟨gb841, 5, none⟩) (Kd.R_far (p := ⟨gb841, 4, none⟩) (Kd.R_far (p := ⟨gb841, 3, none⟩) (Kd.R_far (p := ⟨gb841, 2, none⟩) (Kd.R_far (p := ⟨gb841, 1, none⟩) (Kd.R_far (p := ⟨gb841, 0, none⟩) (Kd.R_types HO784.out BK841.out (by decide)) (fun _ hk => hk.2) (.int .i64 t808)) (fun _ hk => hk.2) (.int .i64 t809)) (fun _ hk => hk.2) (.slice Ao39 t810.length co39)) (fun _ hk => hk.2) (.slice Ao40 t813.length co40)) (fun _ hk => hk.2) (.slice Ao41 t816.length co41)) (fun _ hk => hk.2) (.slice Ao42 t819.length co42)) (fun _ hk => hk.2) (.int .i64 t822)) (fun _ hk => hk.2) (.slice Ao43 t823.length co43)) (fun _ hk => hk.2) (.slice Ao44 t826.length co44)) (fun _ hk => hk.2) (.slice Ao45 t829.length co45)) (fun _ hk => hk.2) (.slice Ao46 t832.length co46)) (fun _ hk => hk.2) (.slice Ao47 t835.length co47)) (fun _ hk => hk.2) (.slice Ao48 t838.length co48)) (fun _ h_ => h_.1))) hb); have n3_ := Aside0.mk (Kd.R_below (by (with_reducible repeat (first | apply Kd.R_alloc | apply Kd.R_drewN | apply Kd.R_drew)); exact (Kd.R_mono (Kd.R_far (p := ⟨gb841, 12, none⟩) (Kd.R_far (p := ⟨gb841, 11, none⟩) (Kd.R_far (p := ⟨gb841, 10, none⟩) (Kd.R_far (p := ⟨gb841, 9, none⟩) (Kd.R_far (p := ⟨gb841, 8, none⟩) (Kd.R_far (p := ⟨gb841, 7, none⟩) (Kd.R_far (p := ⟨gb841, 6, none⟩) (Kd.R_far (p := ⟨gb841, 5, none⟩) (Kd.R_far (p := ⟨gb841, 4, none⟩) (Kd.R_far (p := ⟨gb841, 3, none⟩) (Kd.R_far (p := ⟨gb841, 2, none⟩) (Kd.R_far (p := ⟨gb841, 1, none⟩) (Kd.R_far (p := ⟨gb841, 0, none⟩) (Kd.R_types HO787.out BK841.out (by decide)) (fun _ hk => hk.2) (.int .i64 t808)) (fun _ hk => hk.2) (.int .i64 t809)) (fun _ hk => hk.2) (.slice Ao39 t810.length co39)) (fun _ hk => hk.2) (.slice Ao40 t813.length co40)) (fun _ hk => hk.2) (.slice Ao41 t816.length co41)) (fun _ hk => hk.2) (.slice Ao42 t819.length co42)) (fun _ hk => hk.2) (.int .i64 t822)) (fun _ hk => hk.2) (.slice Ao43 t823.length co43)) (fun _ hk => hk.2) (.slice Ao44 t826.length co44)) (fun _ hk => hk.2) (.slice Ao45 t829.length co45)) (fun _ hk => hk.2) (.slice Ao46 t832.length co46)) (fun _ hk => hk.2) (.slice Ao47 t835.length co47)) (fun _ hk => hk.2) (.slice Ao48 t838.length co48)) (fun _ h_ => h_.1))) hb); have n4_ := Aside0.mk (Kd.R_below (by (with_reducible repeat (first | apply Kd.R_alloc | apply Kd.R_drewN | apply Kd.R_drew)); exact (Kd.R_mono (Kd.R_far (p := ⟨gb841, 12, none⟩) (Kd.R_far (p := ⟨gb841, 11, none⟩) (Kd.R_far (p := ⟨gb841, 10, none⟩) (Kd.R_far (p := ⟨gb841, 9, none⟩) (Kd.R_far (p := ⟨gb841, 8, none⟩) (Kd.R_far (p := ⟨gb841, 7, none⟩) (Kd.R_far (p := ⟨gb841, 6, none⟩) (Kd.R_far (p := ⟨gb841, 5, none⟩) (Kd.R_far (p := ⟨gb841, 4, none⟩) (Kd.R_far (p := ⟨gb841, 3, none⟩) (Kd.R_far (p := ⟨gb841, 2, none⟩) (Kd.R_far (p := ⟨gb841, 1, none⟩) (Kd.R_far (p := ⟨gb841, 0, none⟩) (Kd.R_types HO791.out BK841.out (by decide)) (fun _ hk => hk.2) (.int .i64 t808)) (fun _ hk => hk.2) (.int .i64 t809)) (fun _ hk => hk.2) (.slice Ao39 t810.length co39)) (fun _ hk => hk.2) (.slice Ao40 t813.length co40)) (fun _ hk => hk.2) (.slice Ao41 t816.length co41)) (fun _ hk => hk.2) (.slice Ao42 t819.length co42)) (fun _ hk => hk.2) (.int .i64 t822)) (fun _ hk => hk.2) (.slice Ao43 t823.length co43)) (fun _ hk => hk.2) (.slice Ao44 t826.length co44)) (fun _ hk => hk.2) (.slice Ao45 t829.length co45)) (fun _ hk => hk.2) (.slice Ao46 t832.length co46)) (fun _ hk => hk.2) (.slice Ao47 t835.length co47)) (fun _ hk => hk.2) (.slice Ao48 t838.length co48)) (fun _ h_ => h_.1))) hb); have n5_ := Aside0.mk (Kd.R_below (by (with_reducible repeat (first | apply Kd.R_alloc | apply Kd.R_drewN | apply Kd.R_drew)); exact (Kd.R_mono (Kd.R_far (p := ⟨gb841, 12, none⟩) (Kd.R_far (p := ⟨gb841, 11, none⟩) (Kd.R_far (p := ⟨gb841, 10, none⟩) (Kd.R_far (p := ⟨gb841, 9, none⟩) (Kd.R_far (p := ⟨gb841, 8, none⟩) (Kd.R_far (p := ⟨gb841, 7, none⟩) (Kd.R_far (p := ⟨gb841, 6, none⟩) (Kd.R_far (p := ⟨gb841, 5, none⟩) (Kd.R_far (p := ⟨gb841, 4, none⟩) (Kd.R_far (p := ⟨gb841, 3, none⟩) (Kd.R_far (p := ⟨gb841, 2, none⟩) (Kd.R_far (p := ⟨gb841, 1, none⟩) (Kd.R_far (p := ⟨gb841, 0, none⟩) (Kd.R_types HO794.out BK841.out (by decide)) (fun _ hk => hk.2) (.int .i64 t808)) (fun _ hk => hk.2) (.int .i64 t809)) (fun _ hk => hk.2) (.slice Ao39 t810.length co39)) (fun _ hk => hk.2) (.slice Ao40 t813.length co40)) (fun _ hk => hk.2) (.slice Ao41 t816.length co41)) (fun _ hk => hk.2) (.slice Ao42 t819.length co42)) (fun _ hk => hk.2) (.int .i64 t822)) (fun _ hk => hk.2) (.slice Ao43 t823.length co43)) (fun _ hk => hk.2) (.slice Ao44 t826.length co44)) (fun _ hk => hk.2) (.slice Ao45 t829.length co45)) (fun _ hk => hk.2) (.slice Ao46 t832.length co46)) (fun _ hk => hk.2) (.slice Ao47 t835.length co47)) (fun _ hk => hk.2) (.slice Ao48 t838.length co48)) (fun _ h_ => h_.1))) hb); have n6_ := Aside0.mk (Kd.R_below (by (with_reducible repeat (first | apply Kd.R_alloc | apply Kd.R_drewN | apply Kd.R_drew)); exact (Kd.R_mono (Kd.R_far (p := ⟨gb841, 12, none⟩) (Kd.R_far (p := ⟨gb841, 11, none⟩) (Kd.R_far (p := ⟨gb841, 10, none⟩) (Kd.R_far (p := ⟨gb841, 9, none⟩) (Kd.R_far (p := ⟨gb841, 8, none⟩) (Kd.R_far (p := ⟨gb841, 7, none⟩) (Kd.R_far (p := ⟨gb841, 6, none⟩) (Kd.R_far (p := ⟨gb841, 5, none⟩) (Kd.R_far (p := ⟨gb841, 4, none⟩) (Kd.R_far (p := ⟨gb841, 3, none⟩) (Kd.R_far (p := ⟨gb841, 2, none⟩) (Kd.R_far (p := ⟨gb841, 1, none⟩) (Kd.R_far (p := ⟨gb841, 0, none⟩) (Kd.R_types HO797.out BK841.out (by decide)) (fun _ hk => hk.2) (.int .i64 t808)) (fun _ hk => hk.2) (.int .i64 t809)) (fun _ hk => hk.2) (.slice Ao39 t810.length co39)) (fun _ hk => hk.2) (.slice Ao40 t813.length co40)) (fun _ hk => hk.2) (.slice Ao41 t816.length co41)) (fun _ hk => hk.2) (.slice Ao42 t819.length co42)) (fun _ hk => hk.2) (.int .i64 t822)) (fun _ hk => hk.2) (.slice Ao43 t823.length co43)) (fun _ hk => hk.2) (.slice Ao44 t826.length co44)) (fun _ hk => hk.2) (.slice Ao45 t829.length co45)) (fun _ hk => hk.2) (.slice Ao46 t832.length co46)) (fun _ hk => hk.2) (.slice Ao47 t835.length co47)) (fun _ hk => hk.2) (.slice Ao48 t838.length co48)) (fun _ h_ => h_.1))) hb); have n7_ := Aside0.mk (Kd.R_below (by (with_reducible repeat (first | apply Kd.R_alloc | apply Kd.R_drewN | apply Kd.R_drew)); exact (Kd.R_mono (Kd.R_far (p := ⟨gb841, 12, none⟩) (Kd.R_far (p := ⟨gb841, 11, none⟩) (Kd.R_far (p := ⟨gb841, 10, none⟩) (Kd.R_far (p := ⟨gb841, 9, none⟩) (Kd.R_far (p := ⟨gb841, 8, none⟩) (Kd.R_far (p := ⟨gb841, 7, none⟩) (Kd.R_far (p := ⟨gb841, 6, none⟩) (Kd.R_far (p := ⟨gb841, 5, none⟩) (Kd.R_far (p := ⟨gb841, 4, none⟩) (Kd.R_far (p := ⟨gb841, 3, none⟩) (Kd.R_far (p := ⟨gb841, 2, none⟩) (Kd.R_far (p := ⟨gb841, 1, none⟩) (Kd.R_far (p := ⟨gb841, 0, none⟩) (Kd.R_types HO800.out BK841.out (by decide)) (fun _ hk => hk.2) (.int .i64 t808)) (fun _ hk => hk.2) (.int .i64 t809)) (fun _ hk => hk.2) (.slice Ao39 t810.length co39)) (fun _ hk => hk.2) (.slice Ao40 t813.length co40)) (fun _ hk => hk.2) (.slice Ao41 t816.length co41)) (fun _ hk => hk.2) (.slice Ao42 t819.length co42)) (fun _ hk => hk.2) (.int .i64 t822)) (fun _ hk => hk.2) (.slice Ao43 t823.length co43)) (fun _ hk => hk.2) (.slice Ao44 t826.length co44)) (fun _ hk => hk.2) (.slice Ao45 t829.length co45)) (fun _ hk => hk.2) (.slice Ao46 t832.length co46)) (fun _ hk => hk.2) (.slice Ao47 t835.length co47)) (fun _ hk => hk.2) (.slice Ao48 t838.length co48)) (fun _ h_ => h_.1))) hb); have n8_ := Aside0.mk (Kd.S_below (by (with_reducible repeat (first | apply Kd.S_alloc | apply Kd.S_drewN | apply Kd.S_drew)); exact (Kd.S_mono (Kd.S_far (p := ⟨gb841, 12, none⟩) (Kd.S_far (p := ⟨gb841, 11, none⟩) (Kd.S_far (p := ⟨gb841, 10, none⟩) (Kd.S_far (p := ⟨gb841, 9, none⟩) (Kd.S_far (p := ⟨gb841, 8, none⟩) (Kd.S_far (p := ⟨gb841, 7, none⟩) (Kd.S_far (p := ⟨gb841, 6, none⟩) (Kd.S_far (p := ⟨gb841, 5, none⟩) (Kd.S_far (p := ⟨gb841, 4, none⟩) (Kd.S_far (p := ⟨gb841, 3, none⟩) (Kd.S_far (p := ⟨gb841, 2, none⟩) (Kd.S_far (p := ⟨gb841, 1, none⟩) (Kd.S_far (p := ⟨gb841, 0, none⟩) (Kd.S_types HO803.out BK841.out (by decide)) (fun _ hk => hk.2) (.int .i64 t808)) (fun _ hk => hk.2) (.int .i64 t809)) (fun _ hk => hk.2) (.slice Ao39 t810.length co39)) (fun _ hk => hk.2) (.slice Ao40 t813.length co40)) (fun _ hk => hk.2) (.slice Ao41 t816.length co41)) (fun _ hk => hk.2) (.slice Ao42 t819.length co42)) (fun _ hk => hk.2) (.int .i64 t822)) (fun _ hk => hk.2) (.slice Ao43 t823.length co43)) (fun _ hk => hk.2) (.slice Ao44 t826.length co44)) (fun _ hk => hk.2) (.slice Ao45 t829.length co45)) (fun _ hk => hk.2) (.slice Ao46 t832.length co46)) (fun _ hk => hk.2) (.slice Ao47 t835.length co47)) (fun _ hk => hk.2) (.slice Ao48 t838.length co48)) (fun _ h_ => h_.1))) hb); have n9_ := Aside0.mk (Kd.R_below (by (with_reducible repeat (first | apply Kd.R_alloc | apply Kd.R_drewN | apply Kd.R_drew)); exact (Kd.R_mono (Kd.R_far (p := ⟨gb841, 12, none⟩) (Kd.R_far (p := ⟨gb841, 11, none⟩) (Kd.R_far (p := ⟨gb841, 10, none⟩) (Kd.R_far (p := ⟨gb841, 9, none⟩) (Kd.R_far (p := ⟨gb841, 8, none⟩) (Kd.R_far (p := ⟨gb841, 7, none⟩) (Kd.R_far (p := ⟨gb841, 6, none⟩) (Kd.R_far (p := ⟨gb841, 5, none⟩) (Kd.R_far (p := ⟨gb841, 4, none⟩) (Kd.R_far (p := ⟨gb841, 3, none⟩) (Kd.R_far (p := ⟨gb841, 2, none⟩) (Kd.R_far (p := ⟨gb841, 1, none⟩) (Kd.R_far (p := ⟨gb841, 0, none⟩) (Kd.R_types HO806.out BK841.out (by decide)) (fun _ hk => hk.2) (.int .i64 t808)) (fun _ hk => hk.2) (.int .i64 t809)) (fun _ hk => hk.2) (.slice Ao39 t810.length co39)) (fun _ hk => hk.2) (.slice Ao40 t813.length co40)) (fun _ hk => hk.2) (.slice Ao41 t816.length co41)) (fun _ hk => hk.2) (.slice Ao42 t819.length co42)) (fun _ hk => hk.2) (.int .i64 t822)) (fun _ hk => hk.2) (.slice Ao43 t823.length co43)) (fun _ hk => hk.2) (.slice Ao44 t826.length co44)) (fun _ hk => hk.2) (.slice Ao45 t829.length co45)) (fun _ hk => hk.2) (.slice Ao46 t832.length co46)) (fun _ hk => hk.2) (.slice Ao47 t835.length co47)) (fun _ hk => hk.2) (.slice Ao48 t838.length co48)) (fun _ h_ => h_.1))) hb); have n10_ := Aside0.mk (Kd.R_below (by (with_reducible repeat (first | apply Kd.R_alloc | apply Kd.R_drewN | apply Kd.R_drew)); exact (Kd.R_mono (Kd.R_far (p := ⟨gb841, 12, none⟩) (Kd.R_far (p := ⟨gb841, 11, none⟩) (Kd.R_far (p := ⟨gb841, 10, none⟩) (Kd.R_far (p := ⟨gb841, 9, none⟩) (Kd.R_far (p := ⟨gb841, 8, none⟩) (Kd.R_far (p := ⟨gb841, 7, none⟩) (Kd.R_far (p := ⟨gb841, 6, none⟩) (Kd.R_far (p := ⟨gb841, 5, none⟩) (Kd.R_far (p := ⟨gb841, 4, none⟩) (Kd.R_far (p := ⟨gb841, 3, none⟩) (Kd.R_far (p := ⟨gb841, 2, none⟩) (Kd.R_far (p := ⟨gb841, 1, none⟩) (Kd.R_far (p := ⟨gb841, 0, none⟩) (Kd.R_types HO812.out BK841.out (by decide)) (fun _ hk => hk.2) (.int .i64 t808)) (fun _ hk => hk.2) (.int .i64 t809)) (fun _ hk => hk.2) (.slice Ao39 t810.length co39)) (fun _ hk => hk.2) (.slice Ao40 t813.length co40)) (fun _ hk => hk.2) (.slice Ao41 t816.length co41)) (fun _ hk => hk.2) (.slice Ao42 t819.length co42)) (fun _ hk => hk.2) (.int .i64 t822)) (fun _ hk => hk.2) (.slice Ao43 t823.length co43)) (fun _ hk => hk.2) (.slice Ao44 t826.length co44)) (fun _ hk => hk.2) (.slice Ao45 t829.length co45)) (fun _ hk => hk.2) (.slice Ao46 t832.length co46)) (fun _ hk => hk.2) (.slice Ao47 t835.length co47)) (fun _ hk => hk.2) (.slice Ao48 t838.length co48)) (fun _ h_ => h_.1))) hb); have n11_ := Aside0.mk (Kd.R_below (by (with_reducible repeat (first | apply Kd.R_alloc | apply Kd.R_drewN | apply Kd.R_drew)); exact (Kd.R_mono (Kd.R_far (p := ⟨gb841, 12, none⟩) (Kd.R_far (p := ⟨gb841, 11, none⟩) (Kd.R_far (p := ⟨gb841, 10, none⟩) (Kd.R_far (p := ⟨gb841, 9, none⟩) (Kd.R_far (p := ⟨gb841, 8, none⟩) (Kd.R_far (p := ⟨gb841, 7, none⟩) (Kd.R_far (p := ⟨gb841, 6, none⟩) (Kd.R_far (p := ⟨gb841, 5, none⟩) (Kd.R_far (p := ⟨gb841, 4, none⟩) (Kd.R_far (p := ⟨gb841, 3, none⟩) (Kd.R_far (p := ⟨gb841, 2, none⟩) (Kd.R_far (p := ⟨gb841, 1, none⟩) (Kd.R_far (p := ⟨gb841, 0, none⟩) (Kd.R_types HO815.out BK841.out (by decide)) (fun _ hk => hk.2) (.int .i64 t808)) (fun _ hk => hk.2) (.int .i64 t809)) (fun _ hk => hk.2) (.slice Ao39 t810.length co39)) (fun _ hk => hk.2) (.slice Ao40 t813.length co40)) (fun _ hk => hk.2) (.slice Ao41 t816.length co41)) (fun _ hk => hk.2) (.slice Ao42 t819.length co42)) (fun _ hk => hk.2) (.int .i64 t822)) (fun _ hk => hk.2) (.slice Ao43 t823.length co43)) (fun _ hk => hk.2) (.slice Ao44 t826.length co44)) (fun _ hk => hk.2) (.slice Ao45 t829.length co45)) (fun _ hk => hk.2) (.slice Ao46 t832.length co46)) (fun _ hk => hk.2) (.slice Ao47 t835.length co47)) (fun _ hk => hk.2) (.slice Ao48 t838.length co48)) (fun _ h_ => h_.1))) hb); have n12_ := Aside0.mk (Kd.R_below (by (with_reducible repeat (first | apply Kd.R_alloc | apply Kd.R_drewN | apply Kd.R_drew)); exact (Kd.R_mono (Kd.R_far (p := ⟨gb841, 12, none⟩) (Kd.R_far (p := ⟨gb841, 11, none⟩) (Kd.R_far (p := ⟨gb841, 10, none⟩) (Kd.R_far (p := ⟨gb841, 9, none⟩) (Kd.R_far (p := ⟨gb841, 8, none⟩) (Kd.R_far (p := ⟨gb841, 7, none⟩) (Kd.R_far (p := ⟨gb841, 6, none⟩) (Kd.R_far (p := ⟨gb841, 5, none⟩) (Kd.R_far (p := ⟨gb841, 4, none⟩) (Kd.R_far (p := ⟨gb841, 3, none⟩) (Kd.R_far (p := ⟨gb841, 2, none⟩) (Kd.R_far (p := ⟨gb841, 1, none⟩) (Kd.R_far (p := ⟨gb841, 0, none⟩) (Kd.R_types HO818.out BK841.out (by decide)) (fun _ hk => hk.2) (.int .i64 t808)) (fun _ hk => hk.2) (.int .i64 t809)) (fun _ hk => hk.2) (.slice Ao39 t810.length co39)) (fun _ hk => hk.2) (.slice Ao40 t813.length co40)) (fun _ hk => hk.2) (.slice Ao41 t816.length co41)) (fun _ hk => hk.2) (.slice Ao42 t819.length co42)) (fun _ hk => hk.2) (.int .i64 t822)) (fun _ hk => hk.2) (.slice Ao43 t823.length co43)) (fun _ hk => hk.2) (.slice Ao44 t826.length co44)) (fun _ hk => hk.2) (.slice Ao45 t829.length co45)) (fun _ hk => hk.2) (.slice Ao46 t832.length co46)) (fun _ hk => hk.2) (.slice Ao47 t835.length co47)) (fun _ hk => hk.2) (.slice Ao48 t838.length co48)) (fun _ h_ => h_.1))) hb); have n13_ := Aside0.mk (Kd.R_below (by (with_reducible repeat (first | apply Kd.R_alloc | apply Kd.R_drewN | apply Kd.R_drew)); exact (Kd.R_mono (Kd.R_far (p := ⟨gb841, 12, none⟩) (Kd.R_far (p := ⟨gb841, 11, none⟩) (Kd.R_far (p := ⟨gb841, 10, none⟩) (Kd.R_far (p := ⟨gb841, 9, none⟩) (Kd.R_far (p := ⟨gb841, 8, none⟩) (Kd.R_far (p := ⟨gb841, 7, none⟩) (Kd.R_far (p := ⟨gb841, 6, none⟩) (Kd.R_far (p := ⟨gb841, 5, none⟩) (Kd.R_far (p := ⟨gb841, 4, none⟩) (Kd.R_far (p := ⟨gb841, 3, none⟩) (Kd.R_far (p := ⟨gb841, 2, none⟩) (Kd.R_far (p := ⟨gb841, 1, none⟩) (Kd.R_far (p := ⟨gb841, 0, none⟩) (Kd.R_types HO821.out BK841.out (by decide)) (fun _ hk => hk.2) (.int .i64 t808)) (fun _ hk => hk.2) (.int .i64 t809)) (fun _ hk => hk.2) (.slice Ao39 t810.length co39)) (fun _ hk => hk.2) (.slice Ao40 t813.length co40)) (fun _ hk => hk.2) (.slice Ao41 t816.length co41)) (fun _ hk => hk.2) (.slice Ao42 t819.length co42)) (fun _ hk => hk.2) (.int .i64 t822)) (fun _ hk => hk.2) (.slice Ao43 t823.length co43)) (fun _ hk => hk.2) (.slice Ao44 t826.length co44)) (fun _ hk => hk.2) (.slice Ao45 t829.length co45)) (fun _ hk => hk.2) (.slice Ao46 t832.length co46)) (fun _ hk => hk.2) (.slice Ao47 t835.length co47)) (fun _ hk => hk.2) (.slice Ao48 t838.length co48)) (fun _ h_ => h_.1))) hb); have n14_ := Aside0.mk (Kd.R_below (by (with_reducible repeat (first | apply Kd.R_alloc | apply Kd.R_drewN | apply Kd.R_drew)); exact (Kd.R_mono (Kd.R_far (p := ⟨gb841, 12, none⟩) (Kd.R_far (p := ⟨gb841, 11, none⟩) (Kd.R_far (p := ⟨gb841, 10, none⟩) (Kd.R_far (p := ⟨gb841, 9, none⟩) (Kd.R_far (p := ⟨gb841, 8, none⟩) (Kd.R_far (p := ⟨gb841, 7, none⟩) (Kd.R_far (p := ⟨gb841, 6, none⟩) (Kd.R_far (p := ⟨gb841, 5, none⟩) (Kd.R_far (p := ⟨gb841, 4, none⟩) (Kd.R_far (p := ⟨gb841, 3, none⟩) (Kd.R_far (p := ⟨gb841, 2, none⟩) (Kd.R_far (p := ⟨gb841, 1, none⟩) (Kd.R_far (p := ⟨gb841, 0, none⟩) (Kd.R_types HO825.out BK841.out (by decide)) (fun _ hk => hk.2) (.int .i64 t808)) (fun _ hk => hk.2) (.int .i64 t809)) (fun _ hk => hk.2) (.slice Ao39 t810.length co39)) (fun _ hk => hk.2) (.slice Ao40 t813.length co40)) (fun _ hk => hk.2) (.slice Ao41 t816.length co41)) (fun _ hk => hk.2) (.slice Ao42 t819.length co42)) (fun _ hk => hk.2) (.int .i64 t822)) (fun _ hk => hk.2) (.slice Ao43 t823.length co43)) (fun _ hk => hk.2) (.slice Ao44 t826.length co44)) (fun _ hk => hk.2) (.slice Ao45 t829.length co45)) (fun _ hk => hk.2) (.slice Ao46 t832.length co46)) (fun _ hk => hk.2) (.slice Ao47 t835.length co47)) (fun _ hk => hk.2) (.slice Ao48 t838.length co48)) (fun _ h_ => h_.1))) hb); have n15_ := Aside0.mk (Kd.R_below (by (with_reducible repeat (first | apply Kd.R_alloc | apply Kd.R_drewN | apply Kd.R_drew)); exact (Kd.R_mono (Kd.R_far (p := ⟨gb841, 12, none⟩) (Kd.R_far (p := ⟨gb841, 11, none⟩) (Kd.R_far (p := ⟨gb841, 10, none⟩) (Kd.R_far (p := ⟨gb841, 9, none⟩) (Kd.R_far (p := ⟨gb841, 8, none⟩) (Kd.R_far (p := ⟨gb841, 7, none⟩) (Kd.R_far (p := ⟨gb841, 6, none⟩) (Kd.R_far (p := ⟨gb841, 5, none⟩) (Kd.R_far (p := ⟨gb841, 4, none⟩) (Kd.R_far (p := ⟨gb841, 3, none⟩) (Kd.R_far (p := ⟨gb841, 2, none⟩) (Kd.R_far (p := ⟨gb841, 1, none⟩) (Kd.R_far (p := ⟨gb841, 0, none⟩) (Kd.R_types HO828.out BK841.out (by decide)) (fun _ hk => hk.2) (.int .i64 t808)) (fun _ hk => hk.2) (.int .i64 t809)) (fun _ hk => hk.2) (.slice Ao39 t810.length co39)) (fun _ hk => hk.2) (.slice Ao40 t813.length co40)) (fun _ hk => hk.2) (.slice Ao41 t816.length co41)) (fun _ hk => hk.2) (.slice Ao42 t819.length co42)) (fun _ hk => hk.2) (.int .i64 t822)) (fun _ hk => hk.2) (.slice Ao43 t823.length co43)) (fun _ hk => hk.2) (.slice Ao44 t826.length co44)) (fun _ hk => hk.2) (.slice Ao45 t829.length co45)) (fun _ hk => hk.2) (.slice Ao46 t832.length co46)) (fun _ hk => hk.2) (.slice Ao47 t835.length co47)) (fun _ hk => hk.2) (.slice Ao48 t838.length co48)) (fun _ h_ => h_.1))) hb); have n16_ := Aside0.mk (Kd.R_below (by (with_reducible repeat (first | apply Kd.R_alloc | apply Kd.R_drewN | apply Kd.R_drew)); exact (Kd.R_mono (Kd.R_far (p := ⟨gb841, 12, none⟩) (Kd.R_far (p := ⟨gb841, 11, none⟩) (Kd.R_far (p := ⟨gb841, 10, none⟩) (Kd.R_far (p := ⟨gb841, 9, none⟩) (Kd.R_far (p := ⟨gb841, 8, none⟩) (Kd.R_far (p := ⟨gb841, 7, none⟩) (Kd.R_far (p := ⟨gb841, 6, none⟩) (Kd.R_far (p := ⟨gb841, 5, none⟩) (Kd.R_far (p := ⟨gb841, 4, none⟩) (Kd.R_far (p := ⟨gb841, 3, none⟩) (Kd.R_far (p := ⟨gb841, 2, none⟩) (Kd.R_far (p := ⟨gb841, 1, none⟩) (Kd.R_far (p := ⟨gb841, 0, none⟩) (Kd.R_types HO831.out BK841.out (by decide)) (fun _ hk => hk.2) (.int .i64 t808)) (fun _ hk => hk.2) (.int .i64 t809)) (fun _ hk => hk.2) (.slice Ao39 t810.length co39)) (fun _ hk => hk.2) (.slice Ao40 t813.length co40)) (fun _ hk => hk.2) (.slice Ao41 t816.length co41)) (fun _ hk => hk.2) (.slice Ao42 t819.length co42)) (fun _ hk => hk.2) (.int .i64 t822)) (fun _ hk => hk.2) (.slice Ao43 t823.length co43)) (fun _ hk => hk.2) (.slice Ao44 t826.length co44)) (fun _ hk => hk.2) (.slice Ao45 t829.length co45)) (fun _ hk => hk.2) (.slice Ao46 t832.length co46)) (fun _ hk => hk.2) (.slice Ao47 t835.length co47)) (fun _ hk => hk.2) (.slice Ao48 t838.length co48)) (fun _ h_ => h_.1))) hb); have n17_ := Aside0.mk (Kd.R_below (by (with_reducible repeat (first | apply Kd.R_alloc | apply Kd.R_drewN | apply Kd.R_drew)); exact (Kd.R_mono (Kd.R_far (p := ⟨gb841, 12, none⟩) (Kd.R_far (p := ⟨gb841, 11, none⟩) (Kd.R_far (p := ⟨gb841, 10, none⟩) (Kd.R_far (p := ⟨gb841, 9, none⟩) (Kd.R_far (p := ⟨gb841, 8, none⟩) (Kd.R_far (p := ⟨gb841, 7, none⟩) (Kd.R_far (p := ⟨gb841, 6, none⟩) (Kd.R_far (p := ⟨gb841, 5, none⟩) (Kd.R_far (p := ⟨gb841, 4, none⟩) (Kd.R_far (p := ⟨gb841, 3, none⟩) (Kd.R_far (p := ⟨gb841, 2, none⟩) (Kd.R_far (p := ⟨gb841, 1, none⟩) (Kd.R_far (p := ⟨gb841, 0, none⟩) (Kd.R_types HO834.out BK841.out (by decide)) (fun _ hk => hk.2) (.int .i64 t808)) (fun _ hk => hk.2) (.int .i64 t809)) (fun _ hk => hk.2) (.slice Ao39 t810.length co39)) (fun _ hk => hk.2) (.slice Ao40 t813.length co40)) (fun _ hk => hk.2) (.slice Ao41 t816.length co41)) (fun _ hk => hk.2) (.slice Ao42 t819.length co42)) (fun _ hk => hk.2) (.int .i64 t822)) (fun _ hk => hk.2) (.slice Ao43 t823.length co43)) (fun _ hk => hk.2) (.slice Ao44 t826.length co44)) (fun _ hk => hk.2) (.slice Ao45 t829.length co45)) (fun _ hk => hk.2) (.slice Ao46 t832.length co46)) (fun _ hk => hk.2) (.slice Ao47 t835.length co47)) (fun _ hk => hk.2) (.slice Ao48 t838.length co48)) (fun _ h_ => h_.1))) hb); have n18_ := Aside0.mk (Kd.S_below (by (with_reducible repeat (first | apply Kd.S_alloc | apply Kd.S_drewN | apply Kd.S_drew)); exact (Kd.S_mono (Kd.S_far (p := ⟨gb841, 12, none⟩) (Kd.S_far (p := ⟨gb841, 11, none⟩) (Kd.S_far (p := ⟨gb841, 10, none⟩) (Kd.S_far (p := ⟨gb841, 9, none⟩) (Kd.S_far (p := ⟨gb841, 8, none⟩) (Kd.S_far (p := ⟨gb841, 7, none⟩) (Kd.S_far (p := ⟨gb841, 6, none⟩) (Kd.S_far (p := ⟨gb841, 5, none⟩) (Kd.S_far (p := ⟨gb841, 4, none⟩) (Kd.S_far (p := ⟨gb841, 3, none⟩) (Kd.S_far (p := ⟨gb841, 2, none⟩) (Kd.S_far (p := ⟨gb841, 1, none⟩) (Kd.S_far (p := ⟨gb841, 0, none⟩) (Kd.S_types HO837.out BK841.out (by decide)) (fun _ hk => hk.2) (.int .i64 t808)) (fun _ hk => hk.2) (.int .i64 t809)) (fun _ hk => hk.2) (.slice Ao39 t810.length co39)) (fun _ hk => hk.2) (.slice Ao40 t813.length co40)) (fun _ hk => hk.2) (.slice Ao41 t816.length co41)) (fun _ hk => hk.2) (.slice Ao42 t819.length co42)) (fun _ hk => hk.2) (.int .i64 t822)) (fun _ hk => hk.2) (.slice Ao43 t823.length co43)) (fun _ hk => hk.2) (.slice Ao44 t826.length co44)) (fun _ hk => hk.2) (.slice Ao45 t829.length co45)) (fun _ hk => hk.2) (.slice Ao46 t832.length co46)) (fun _ hk => hk.2) (.slice Ao47 t835.length co47)) (fun _ hk => hk.2) (.slice Ao48 t838.length co48)) (fun _ h_ => h_.1))) hb); have n19_ := Aside0.mk (Kd.R_below (by (with_reducible repeat (first | apply Kd.R_alloc | apply Kd.R_drewN | apply Kd.R_drew)); exact (Kd.R_mono (Kd.R_far (p := ⟨gb841, 12, none⟩) (Kd.R_far (p := ⟨gb841, 11, none⟩) (Kd.R_far (p := ⟨gb841, 10, none⟩) (Kd.R_far (p := ⟨gb841, 9, none⟩) (Kd.R_far (p := ⟨gb841, 8, none⟩) (Kd.R_far (p := ⟨gb841, 7, none⟩) (Kd.R_far (p := ⟨gb841, 6, none⟩) (Kd.R_far (p := ⟨gb841, 5, none⟩) (Kd.R_far (p := ⟨gb841, 4, none⟩) (Kd.R_far (p := ⟨gb841, 3, none⟩) (Kd.R_far (p := ⟨gb841, 2, none⟩) (Kd.R_far (p := ⟨gb841, 1, none⟩) (Kd.R_far (p := ⟨gb841, 0, none⟩) (Kd.R_types HO840.out BK841.out (by decide)) (fun _ hk => hk.2) (.int .i64 t808)) (fun _ hk => hk.2) (.int .i64 t809)) (fun _ hk => hk.2) (.slice Ao39 t810.length co39)) (fun _ hk => hk.2) (.slice Ao40 t813.length co40)) (fun _ hk => hk.2) (.slice Ao41 t816.length co41)) (fun _ hk => hk.2) (.slice Ao42 t819.length co42)) (fun _ hk => hk.2) (.int .i64 t822)) (fun _ hk => hk.2) (.slice Ao43 t823.length co43)) (fun _ hk => hk.2) (.slice Ao44 t826.length co44)) (fun _ hk => hk.2) (.slice Ao45 t829.length co45)) (fun _ hk => hk.2) (.slice Ao46 t832.length co46)) (fun _ hk => hk.2) (.slice Ao47 t835.length co47)) (fun _ hk => hk.2) (.slice Ao48 t838.length co48)) (fun _ h_ => h_.1))) hb); have n20_ := Aside0.mk (blk_below (g := gb772) (o := .cells #[.int .i64 a0_0, .int .i64 a0_1, .slice A0_2 l0_2.length c0_2, .slice A0_3 l0_3.length c0_3, .slice A0_4 l0_4.length c0_4, .slice A0_5 l0_5.length c0_5, .int .i64 a0_6, .slice A0_7 l0_7.length c0_7, .slice A0_8 l0_8.length c0_8, .slice A0_9 l0_9.length c0_9, .slice A0_10 l0_10.length c0_10, .slice A0_11 l0_11.length c0_11, .slice A0_12 l0_12.length c0_12] 64 (0, 0)) (by (with_reducible repeat (first | refine blk_drewN ?_ _ | refine blk_drew ?_ | refine blk_alloc ?_ _)); refine blk_far ?_ NB772_841.out _; (with_reducible repeat (first | refine blk_drewN ?_ _ | refine blk_drew ?_ | refine blk_alloc ?_ _)); refine blk_far ?_ NB772_841.out _; (with_reducible repeat (first | refine blk_drewN ?_ _ | refine blk_drew ?_ | refine blk_alloc ?_ _)); refine blk_far ?_ NB772_841.out _; (with_reducible repeat (first | refine blk_drewN ?_ _ | refine blk_drew ?_ | refine blk_alloc ?_ _)); refine blk_far ?_ NB772_841.out _; (with_reducible repeat (first | refine blk_drewN ?_ _ | refine blk_drew ?_ | refine blk_alloc ?_ _)); refine blk_far ?_ NB772_841.out _; (with_reducible repeat (first | refine blk_drewN ?_ _ | refine blk_drew ?_ | refine blk_alloc ?_ _)); refine blk_far ?_ NB772_841.out _; (with_reducible repeat (first | refine blk_drewN ?_ _ | refine blk_drew ?_ | refine blk_alloc ?_ _)); refine blk_far ?_ NB772_841.out _; (with_reducible repeat (first | refine blk_drewN ?_ _ | refine blk_drew ?_ | refine blk_alloc ?_ _)); refine blk_far ?_ NB772_841.out _; (with_reducible repeat (first | refine blk_drewN ?_ _ | refine blk_drew ?_ | refine blk_alloc ?_ _)); refine blk_far ?_ NB772_841.out _; (with_reducible repeat (first | refine blk_drewN ?_ _ | refine blk_drew ?_ | refine blk_alloc ?_ _)); refine blk_far ?_ NB772_841.out _; (with_reducible repeat (first | refine blk_drewN ?_ _ | refine blk_drew ?_ | refine blk_alloc ?_ _)); refine blk_far ?_ NB772_841.out _; (with_reducible repeat (first | refine blk_drewN ?_ _ | refine blk_drew ?_ | refine blk_alloc ?_ _)); refine blk_far ?_ NB772_841.out _; (with_reducible repeat (first | refine blk_drewN ?_ _ | refine blk_drew ?_ | refine blk_alloc ?_ _)); refine blk_far ?_ NB772_841.out _; (with_reducible repeat (first | refine blk_drewN ?_ _ | refine blk_drew ?_ | refine blk_alloc ?_ _)); exact BK772.out) hb); have n21_ := Aside0.mk (blk_below (g := gb841) (o := .cells #[.int .i64 t808, .int .i64 t809, .slice Ao39 t810.length co39, .slice Ao40 t813.length co40, .slice Ao41 t816.length co41, .slice Ao42 t819.length co42, .int .i64 t822, .slice Ao43 t823.length co43, .slice Ao44 t826.length co44, .slice Ao45 t829.length co45, .slice Ao46 t832.length co46, .slice Ao47 t835.length co47, .slice Ao48 t838.length co48] 76 (0, 0)) (by (with_reducible repeat (first | refine blk_drewN ?_ _ | refine blk_drew ?_ | refine blk_alloc ?_ _)); refine blk_put (cs := #[.int .i64 t808, .int .i64 t809, .slice Ao39 t810.length co39, .slice Ao40 t813.length co40, .slice Ao41 t816.length co41, .slice Ao42 t819.length co42, .int .i64 t822, .slice Ao43 t823.length co43, .slice Ao44 t826.length co44, .slice Ao45 t829.length co45, .slice Ao46 t832.length co46, .slice Ao47 t835.length co47, .slice none 0 0]) ?_ 12 _ rfl; (with_reducible repeat (first | refine blk_drewN ?_ _ | refine blk_drew ?_ | refine blk_alloc ?_ _)); refine blk_put (cs := #[.int .i64 t808, .int .i64 t809, .slice Ao39 t810.length co39, .slice Ao40 t813.length co40, .slice Ao41 t816.length co41, .slice Ao42 t819.length co42, .int .i64 t822, .slice Ao43 t823.length co43, .slice Ao44 t826.length co44, .slice Ao45 t829.length co45, .slice Ao46 t832.length co46, .slice none 0 0, .slice none 0 0]) ?_ 11 _ rfl; (with_reducible repeat (first | refine blk_drewN ?_ _ | refine blk_drew ?_ | refine blk_alloc ?_ _)); refine blk_put (cs := #[.int .i64 t808, .int .i64 t809, .slice Ao39 t810.length co39, .slice Ao40 t813.length co40, .slice Ao41 t816.length co41, .slice Ao42 t819.length co42, .int .i64 t822, .slice Ao43 t823.length co43, .slice Ao44 t826.length co44, .slice Ao45 t829.length co45, .slice none 0 0, .slice none 0 0, .slice none 0 0]) ?_ 10 _ rfl; (with_reducible repeat (first | refine blk_drewN ?_ _ | refine blk_drew ?_ | refine blk_alloc ?_ _)); refine blk_put (cs := #[.int .i64 t808, .int .i64 t809, .slice Ao39 t810.length co39, .slice Ao40 t813.length co40, .slice Ao41 t816.length co41, .slice Ao42 t819.length co42, .int .i64 t822, .slice Ao43 t823.length co43, .slice Ao44 t826.length co44, .slice none 0 0, .slice none 0 0, .slice none 0 0, .slice none 0 0]) ?_ 9 _ rfl; (with_reducible repeat (first | refine blk_drewN ?_ _ | refine blk_drew ?_ | refine blk_alloc ?_ _)); refine blk_put (cs := #[.int .i64 t808, .int .i64 t809, .slice Ao39 t810.length co39, .slice Ao40 t813.length co40, .slice Ao41 t816.length co41, .slice Ao42 t819.length co42, .int .i64 t822, .slice Ao43 t823.length co43, .slice none 0 0, .slice none 0 0, .slice none 0 0, .slice none 0 0, .slice none 0 0]) ?_ 8 _ rfl; (with_reducible repeat (first | refine blk_drewN ?_ _ | refine blk_drew ?_ | refine blk_alloc ?_ _)); refine blk_put (cs := #[.int .i64 t808, .int .i64 t809, .slice Ao39 t810.length co39, .slice Ao40 t813.length co40, .slice Ao41 t816.length co41, .slice Ao42 t819.length co42, .int .i64 t822, .slice none 0 0, .slice none 0 0, .slice none 0 0, .slice none 0 0, .slice none 0 0, .slice none 0 0]) ?_ 7 _ rfl; (with_reducible repeat (first | refine blk_drewN ?_ _ | refine blk_drew ?_ | refine blk_alloc ?_ _)); refine blk_put (cs := #[.int .i64 t808, .int .i64 t809, .slice Ao39 t810.length co39, .slice Ao40 t813.length co40, .slice Ao41 t816.length co41, .slice Ao42 t819.length co42, .int .i64 0, .slice none 0 0, .slice none 0 0, .slice none 0 0, .slice none 0 0, .slice none 0 0, .slice none 0 0]) ?_ 6 _ rfl; (with_reducible repeat (first | refine blk_drewN ?_ _ | refine blk_drew ?_ | refine blk_alloc ?_ _)); refine blk_put (cs := #[.int .i64 t808, .int .i64 t809, .slice Ao39 t810.length co39, .slice Ao40 t813.length co40, .slice Ao41 t816.length co41, .slice none 0 0, .int .i64 0, .slice none 0 0, .slice none 0 0, .slice none 0 0, .slice none 0 0, .slice none 0 0, .slice none 0 0]) ?_ 5 _ rfl; (with_reducible repeat (first | refine blk_drewN ?_ _ | refine blk_drew ?_ | refine blk_alloc ?_ _)); refine blk_put (cs := #[.int .i64 t808, .int .i64 t809, .slice Ao39 t810.length co39, .slice Ao40 t813.length co40, .slice none 0 0, .slice none 0 0, .int .i64 0, .slice none 0 0, .slice none 0 0, .slice none 0 0, .slice none 0 0, .slice none 0 0, .slice none 0 0]) ?_ 4 _ rfl; (with_reducible repeat (first | refine blk_drewN ?_ _ | refine blk_drew ?_ | refine blk_alloc ?_ _)); refine blk_put (cs := #[.int .i64 t808, .int .i64 t809, .slice Ao39 t810.length co39, .slice none 0 0, .slice none 0 0, .slice none 0 0, .int .i64 0, .slice none 0 0, .slice none 0 0, .slice none 0 0, .slice none 0 0, .slice none 0 0, .slice none 0 0]) ?_ 3 _ rfl; (with_reducible repeat (first | refine blk_drewN ?_ _ | refine blk_drew ?_ | refine blk_alloc ?_ _)); refine blk_put (cs := #[.int .i64 t808, .int .i64 t809, .slice none 0 0, .slice none 0 0, .slice none 0 0, .slice none 0 0, .int .i64 0, .slice none 0 0, .slice none 0 0, .slice none 0 0, .slice none 0 0, .slice none 0 0, .slice none 0 0]) ?_ 2 _ rfl; (with_reducible repeat (first | refine blk_drewN ?_ _ | refine blk_drew ?_ | refine blk_alloc ?_ _)); refine blk_put (cs := #[.int .i64 t808, .int .i64 0, .slice none 0 0, .slice none 0 0, .slice none 0 0, .slice none 0 0, .int .i64 0, .slice none 0 0, .slice none 0 0, .slice none 0 0, .slice none 0 0, .slice none 0 0, .slice none 0 0]) ?_ 1 _ rfl; (with_reducible repeat (first | refine blk_drewN ?_ _ | refine blk_drew ?_ | refine blk_alloc ?_ _)); refine blk_put (cs := #[.int .i64 0, .int .i64 0, .slice none 0 0, .slice none 0 0, .slice none 0 0, .slice none 0 0, .int .i64 0, .slice none 0 0, .slice none 0 0, .slice none 0 0, .slice none 0 0, .slice none 0 0, .slice none 0 0]) ?_ 0 _ rfl; (with_reducible repeat (first | refine blk_drewN ?_ _ | refine blk_drew ?_ | refine blk_alloc ?_ _)); exact BK841.out) hb); have n22_ := Aside0.mk (below_step BG hb); clear HO778; clear HO781; clear HO784; clear HO787; clear HO791; clear HO794; clear HO797; clear HO800; clear HO803; clear HO806; clear HO812; clear HO815; clear HO818; clear HO821; clear HO825; clear HO828; clear HO831; clear HO834; clear HO837; clear HO840; clear BK772; clear BK841; clear HB; have HO778 := n0_; have HO781 := n1_; have HO784 := n2_; have HO787 := n3_; have HO791 := n4_; have HO794 := n5_; have HO797 := n6_; have HO800 := n7_; have HO803 := n8_; have HO806 := n9_; have HO812 := n10_; have HO815 := n11_; have HO818 := n12_; have HO821 := n13_; have HO825 := n14_; have HO828 := n15_; have HO831 := n16_; have HO834 := n17_; have HO837 := n18_; have HO840 := n19_; have BK772 := n20_; have BK841 := n21_; have HB := n22_; clear n0_ n1_ n2_ n3_ n4_ n5_ n6_ n7_ n8_ n9_ n10_ n11_ n12_ n13_ n14_ n15_ n16_ n17_ n18_ n19_ n20_ n21_ n22_; (try clear hb); (try clear hb2); (try clear hk); (try clear hi)))
          have n0_ := Aside0.mk (Kd.R_drew HO778.out)
          have n1_ := Aside0.mk (Kd.R_drew HO781.out)
          have n2_ := Aside0.mk (Kd.R_drew HO784.out)
          have n3_ := Aside0.mk (Kd.R_drew HO787.out)
          have n4_ := Aside0.mk (Kd.R_drew HO791.out)
          have n5_ := Aside0.mk (Kd.R_drew HO794.out)
          have n6_ := Aside0.mk (Kd.R_drew HO797.out)
          have n7_ := Aside0.mk (Kd.R_drew HO800.out)
          have n8_ := Aside0.mk (Kd.S_drew HO803.out)
          have n9_ := Aside0.mk (Kd.R_drew HO806.out)
          have n10_ := Aside0.mk (Kd.R_drew HO812.out)
          have n11_ := Aside0.mk (Kd.R_drew HO815.out)
          have n12_ := Aside0.mk (Kd.R_drew HO818.out)
          have n13_ := Aside0.mk (Kd.R_drew HO821.out)
          have n14_ := Aside0.mk (Kd.R_drew HO825.out)
          have n15_ := Aside0.mk (Kd.R_drew HO828.out)
          have n16_ := Aside0.mk (Kd.R_drew HO831.out)
          have n17_ := Aside0.mk (Kd.R_drew HO834.out)
          have n18_ := Aside0.mk (Kd.S_drew HO837.out)
          have n19_ := Aside0.mk (Kd.R_drew HO840.out)
          have n20_ := Aside0.mk (blk_drew BK772.out)
          have n21_ := Aside0.mk (blk_drew BK841.out)
          have n22_ := Aside0.mk (below_drew1 HB.out)
          clear HO778
          clear HO781
          clear HO784
          clear HO787
          clear HO791
          clear HO794
          clear HO797
          clear HO800
          clear HO803
          clear HO806
          clear HO812
          clear HO815
          clear HO818
          clear HO821
          clear HO825
          clear HO828
          clear HO831
          clear HO834
          clear HO837
          clear HO840
          clear BK772
          clear BK841
          clear HB
          have HO778 := n0_
          have HO781 := n1_
          have HO784 := n2_
          have HO787 := n3_
          have HO791 := n4_
          have HO794 := n5_
          have HO797 := n6_
          have HO800 := n7_
          have HO803 := n8_
          have HO806 := n9_
          have HO812 := n10_
          have HO815 := n11_
          have HO818 := n12_
          have HO821 := n13_
          have HO825 := n14_
          have HO828 := n15_
          have HO831 := n16_
          have HO834 := n17_
          have HO837 := n18_
          have HO840 := n19_
          have BK772 := n20_
          have BK841 := n21_
          have HB := n22_
          clear n0_ n1_ n2_ n3_ n4_ n5_ n6_ n7_ n8_ n9_ n10_ n11_ n12_ n13_ n14_ n15_ n16_ n17_ n18_ n19_ n20_ n21_ n22_
          refine start_ (n := 5) (S := fun w' => w'.cell? ⟨gb841, 0, none⟩ = some (.int .i64 t808) ∧ w'.cell? ⟨gb841, 1, none⟩ = some (.int .i64 t809) ∧ w'.cell? ⟨gb841, 2, none⟩ = some (.slice Ao39 t810.length co39) ∧ w'.cell? ⟨gb841, 3, none⟩ = some (.slice Ao40 t813.length co40) ∧ w'.cell? ⟨gb841, 4, none⟩ = some (.slice Ao41 t816.length co41) ∧ w'.cell? ⟨gb841, 5, none⟩ = some (.slice Ao42 t819.length co42) ∧ w'.cell? ⟨gb841, 6, none⟩ = some (.int .i64 t822) ∧ w'.cell? ⟨gb841, 7, none⟩ = some (.slice Ao43 t823.length co43) ∧ w'.cell? ⟨gb841, 8, none⟩ = some (.slice Ao44 t826.length co44) ∧ w'.cell? ⟨gb841, 9, none⟩ = some (.slice Ao45 t829.length co45) ∧ w'.cell? ⟨gb841, 10, none⟩ = some (.slice Ao46 t832.length co46) ∧ w'.cell? ⟨gb841, 11, none⟩ = some (.slice Ao47 t835.length co47) ∧ w'.cell? ⟨gb841, 12, none⟩ = some (.slice Ao48 t838.length co48) ∧ w'.cell? ⟨gb772, 0, none⟩ = some (.int .i64 a0_0) ∧ w'.cell? ⟨gb772, 1, none⟩ = some (.int .i64 a0_1) ∧ w'.cell? ⟨gb772, 2, none⟩ = some (.slice A0_2 l0_2.length c0_2) ∧ w'.cell? ⟨gb772, 3, none⟩ = some (.slice A0_3 l0_3.length c0_3) ∧ w'.cell? ⟨gb772, 4, none⟩ = some (.slice A0_4 l0_4.length c0_4) ∧ w'.cell? ⟨gb772, 5, none⟩ = some (.slice A0_5 l0_5.length c0_5) ∧ w'.cell? ⟨gb772, 6, none⟩ = some (.int .i64 a0_6) ∧ w'.cell? ⟨gb772, 7, none⟩ = some (.slice A0_7 l0_7.length c0_7) ∧ w'.cell? ⟨gb772, 8, none⟩ = some (.slice A0_8 l0_8.length c0_8) ∧ w'.cell? ⟨gb772, 9, none⟩ = some (.slice A0_9 l0_9.length c0_9) ∧ w'.cell? ⟨gb772, 10, none⟩ = some (.slice A0_10 l0_10.length c0_10) ∧ w'.cell? ⟨gb772, 11, none⟩ = some (.slice A0_11 l0_11.length c0_11) ∧ w'.cell? ⟨gb772, 12, none⟩ = some (.slice A0_12 l0_12.length c0_12)) (ds := []) #[false, false, false, false, false] (by kernel_rfl) rfl rfl ⟨(blk_cell BK841.out 0).trans rfl, (blk_cell BK841.out 1).trans rfl, (blk_cell BK841.out 2).trans rfl, (blk_cell BK841.out 3).trans rfl, (blk_cell BK841.out 4).trans rfl, (blk_cell BK841.out 5).trans rfl, (blk_cell BK841.out 6).trans rfl, (blk_cell BK841.out 7).trans rfl, (blk_cell BK841.out 8).trans rfl, (blk_cell BK841.out 9).trans rfl, (blk_cell BK841.out 10).trans rfl, (blk_cell BK841.out 11).trans rfl, (blk_cell BK841.out 12).trans rfl, (blk_cell BK772.out 0).trans rfl, (blk_cell BK772.out 1).trans rfl, (blk_cell BK772.out 2).trans rfl, (blk_cell BK772.out 3).trans rfl, (blk_cell BK772.out 4).trans rfl, (blk_cell BK772.out 5).trans rfl, (blk_cell BK772.out 6).trans rfl, (blk_cell BK772.out 7).trans rfl, (blk_cell BK772.out 8).trans rfl, (blk_cell BK772.out 9).trans rfl, (blk_cell BK772.out 10).trans rfl, (blk_cell BK772.out 11).trans rfl, (blk_cell BK772.out 12).trans rfl⟩ (fun hHeld => ?_)
          generalize w49.drew = w50 at HO778 HO781 HO784 HO787 HO791 HO794 HO797 HO800 HO803 HO806 HO812 HO815 HO818 HO821 HO825 HO828 HO831 HO834 HO837 HO840 BK772 BK841 HB hHeld ⊢
          refine take_ (i := 0) (N := some 29) (v := ?_) (a' := ?_) #[true, false, false, false, false] rfl rfl (by kernel_rfl) (fun _ _ _ h => h) (Or.inl ⟨by rfl, ?_⟩) hHeld ?_ ?_
          rotate_left
          · rintro w' ⟨s0, s1, s2, s3, s4, s5, s6, s7, s8, s9, s10, s11, s12, s13, s14, s15, s16, s17, s18, s19, s20, s21, s22, s23, s24, s25⟩
            go_simp
            with_reducible rfl
          rotate_left
          · simp only [Act.put, List.setIfInBounds_toArray, List.set_cons_zero, List.set_cons_succ, i64_w, i32_w]
            rfl
          refine take_ (i := 1) (N := some 30) (v := ?_) (a' := ?_) #[true, true, false, false, false] rfl rfl (by kernel_rfl) (fun _ _ _ h => h) (Or.inl ⟨by rfl, ?_⟩) hHeld ?_ ?_
          rotate_left
          · rintro w' ⟨s0, s1, s2, s3, s4, s5, s6, s7, s8, s9, s10, s11, s12, s13, s14, s15, s16, s17, s18, s19, s20, s21, s22, s23, s24, s25⟩
            go_simp
            with_reducible rfl
          rotate_left
          · simp only [Act.put, List.setIfInBounds_toArray, List.set_cons_zero, List.set_cons_succ, i64_w, i32_w]
            rfl
          refine one_ (i := 2) (N := some 31) #[true, true, true, false, false] rfl rfl (by kernel_rfl) (by decide) (fun K hK => ?_)
          refine goes_ Try.func35 (by kernel_rfl) rfl #[.agg #[.int .i64 a0_0, .int .i64 a0_1, .slice A0_2 l0_2.length c0_2, .slice A0_3 l0_3.length c0_3, .slice A0_4 l0_4.length c0_4, .slice A0_5 l0_5.length c0_5, .int .i64 a0_6, .slice A0_7 l0_7.length c0_7, .slice A0_8 l0_8.length c0_8, .slice A0_9 l0_9.length c0_9, .slice A0_10 l0_10.length c0_10, .slice A0_11 l0_11.length c0_11, .slice A0_12 l0_12.length c0_12]] (by rfl) rfl rfl AQ ?_
          with_reducible refine (laws_toDesk.calls k a0_0 a0_1 _ _ l0_2 _ _ l0_3 _ _ l0_4 _ _ l0_5 a0_6 _ _ l0_7 _ _ l0_8 _ _ l0_9 _ _ l0_10 _ _ l0_11 _ _ l0_12 t843 t844 t845 t848 t851 t854 t857 t858 t861 t864 t867 t870 t873 _ ?side1 ?side2 ?side3 ?side4 ?side5 ?side6 ?side7 ?side8 ?side9 ?side10 ?side11 ?side12 ?side13 ?side14 ?side15 ?side16 ?side17 ?side18 ?side19 ?side20 A15.out).mono ?_
          (case side1 => repeat (first | exact (Kd.C_below HR0_2.out HB.out) | (with_reducible refine Kd.C_alloc ?_ _) | (with_reducible refine Kd.C_drewN ?_ _) | (with_reducible refine Kd.C_drew ?_)))
          (case side2 => exact HC0_2.out)
          (case side3 => repeat (first | exact (Kd.C_below HR0_3.out HB.out) | (with_reducible refine Kd.C_alloc ?_ _) | (with_reducible refine Kd.C_drewN ?_ _) | (with_reducible refine Kd.C_drew ?_)))
          (case side4 => exact HC0_3.out)
          (case side5 => repeat (first | exact (Kd.C_below HR0_4.out HB.out) | (with_reducible refine Kd.C_alloc ?_ _) | (with_reducible refine Kd.C_drewN ?_ _) | (with_reducible refine Kd.C_drew ?_)))
          (case side6 => exact HC0_4.out)
          (case side7 => repeat (first | exact (Kd.C_below HR0_5.out HB.out) | (with_reducible refine Kd.C_alloc ?_ _) | (with_reducible refine Kd.C_drewN ?_ _) | (with_reducible refine Kd.C_drew ?_)))
          (case side8 => exact HC0_5.out)
          (case side9 => repeat (first | exact (Kd.C_below HR0_7.out HB.out) | (with_reducible refine Kd.C_alloc ?_ _) | (with_reducible refine Kd.C_drewN ?_ _) | (with_reducible refine Kd.C_drew ?_)))
          (case side10 => exact HC0_7.out)
          (case side11 => repeat (first | exact (Kd.C_below HR0_8.out HB.out) | (with_reducible refine Kd.C_alloc ?_ _) | (with_reducible refine Kd.C_drewN ?_ _) | (with_reducible refine Kd.C_drew ?_)))
          (case side12 => exact HC0_8.out)
          (case side13 => repeat (first | exact (Kd.C_below HR0_9.out HB.out) | (with_reducible refine Kd.C_alloc ?_ _) | (with_reducible refine Kd.C_drewN ?_ _) | (with_reducible refine Kd.C_drew ?_)))
          (case side14 => exact HC0_9.out)
          (case side15 => repeat (first | exact (Kd.C_below HR0_10.out HB.out) | (with_reducible refine Kd.C_alloc ?_ _) | (with_reducible refine Kd.C_drewN ?_ _) | (with_reducible refine Kd.C_drew ?_)))
          (case side16 => exact HC0_10.out)
          (case side17 => repeat (first | exact (Kd.C_below HR0_11.out HB.out) | (with_reducible refine Kd.C_alloc ?_ _) | (with_reducible refine Kd.C_drewN ?_ _) | (with_reducible refine Kd.C_drew ?_)))
          (case side18 => exact HC0_11.out)
          (case side19 => repeat (first | exact (Kd.C_below HR0_12.out HB.out) | (with_reducible refine Kd.C_alloc ?_ _) | (with_reducible refine Kd.C_drewN ?_ _) | (with_reducible refine Kd.C_drew ?_)))
          (case side20 => exact HC0_12.out)
          rintro e w51 ⟨v846, v849, v852, v855, v859, v862, v865, v868, v871, v874, rfl, ho0, ho1, ho2, ho3, ho4, ho5, ho6, ho7, ho8, ho9, hb⟩
          refine ⟨_, rfl, ?_⟩
          have n0_ := Aside0.mk (Kd.R_mono (Kd.R_told (Kd.R_told (Kd.R_old (by (with_reducible repeat (first | apply Kd.R_alloc | apply Kd.R_drewN | apply Kd.R_drew)); exact HO778.out) hb) (Kd.R_base ho0)) (Kd.R_base ho1)) (fun _ h_ => h_.1))
          have n1_ := Aside0.mk (Kd.R_mono (Kd.R_told (Kd.R_told (Kd.R_old (by (with_reducible repeat (first | apply Kd.R_alloc | apply Kd.R_drewN | apply Kd.R_drew)); exact HO781.out) hb) (Kd.R_base ho0)) (Kd.R_base ho1)) (fun _ h_ => h_.1))
          have n2_ := Aside0.mk (Kd.R_mono (Kd.R_told (Kd.R_told (Kd.R_told (Kd.R_told (Kd.R_old (by (with_reducible repeat (first | apply Kd.R_alloc | apply Kd.R_drewN | apply Kd.R_drew)); exact HO784.out) hb) (Kd.R_base ho2)) (Kd.R_base ho3)) (Kd.R_base ho4)) (Kd.R_base ho6)) (fun _ h_ => h_.1))
          have n3_ := Aside0.mk (Kd.R_mono (Kd.R_told (Kd.R_told (Kd.R_told (Kd.R_told (Kd.R_old (by (with_reducible repeat (first | apply Kd.R_alloc | apply Kd.R_drewN | apply Kd.R_drew)); exact HO787.out) hb) (Kd.R_base ho2)) (Kd.R_base ho3)) (Kd.R_base ho4)) (Kd.R_base ho6)) (fun _ h_ => h_.1))
          have n4_ := Aside0.mk (Kd.R_mono (Kd.R_told (Kd.R_told (Kd.R_told (Kd.R_told (Kd.R_old (by (with_reducible repeat (first | apply Kd.R_alloc | apply Kd.R_drewN | apply Kd.R_drew)); exact HO791.out) hb) (Kd.R_base ho2)) (Kd.R_base ho3)) (Kd.R_base ho4)) (Kd.R_base ho6)) (fun _ h_ => h_.1))
          have n5_ := Aside0.mk (Kd.R_elder' (by (with_reducible repeat (first | apply Kd.R_alloc | apply Kd.R_drewN | apply Kd.R_drew)); exact HO794.out) (Kd.R_base ho5) hb)
          have n6_ := Aside0.mk (Kd.R_mono (Kd.R_told (Kd.R_told (Kd.R_told (Kd.R_told (Kd.R_old (by (with_reducible repeat (first | apply Kd.R_alloc | apply Kd.R_drewN | apply Kd.R_drew)); exact HO797.out) hb) (Kd.R_base ho2)) (Kd.R_base ho3)) (Kd.R_base ho4)) (Kd.R_base ho6)) (fun _ h_ => h_.1))
          have n7_ := Aside0.mk (Kd.R_elder' (by (with_reducible repeat (first | apply Kd.R_alloc | apply Kd.R_drewN | apply Kd.R_drew)); exact HO800.out) (Kd.R_base ho7) hb)
          have n8_ := Aside0.mk (Kd.S_elder' (by (with_reducible repeat (first | apply Kd.S_alloc | apply Kd.S_drewN | apply Kd.S_drew)); exact HO803.out) (Kd.S_base ho8) hb)
          have n9_ := Aside0.mk (Kd.R_elder' (by (with_reducible repeat (first | apply Kd.R_alloc | apply Kd.R_drewN | apply Kd.R_drew)); exact HO806.out) (Kd.R_base ho9) hb)
          have n10_ := Aside0.mk (Kd.R_mono (Kd.R_told (Kd.R_told (Kd.R_old (by (with_reducible repeat (first | apply Kd.R_alloc | apply Kd.R_drewN | apply Kd.R_drew)); exact HO812.out) hb) (Kd.R_base ho0)) (Kd.R_base ho1)) (fun _ h_ => h_.1))
          have n11_ := Aside0.mk (Kd.R_mono (Kd.R_told (Kd.R_told (Kd.R_old (by (with_reducible repeat (first | apply Kd.R_alloc | apply Kd.R_drewN | apply Kd.R_drew)); exact HO815.out) hb) (Kd.R_base ho0)) (Kd.R_base ho1)) (fun _ h_ => h_.1))
          have n12_ := Aside0.mk (Kd.R_mono (Kd.R_told (Kd.R_told (Kd.R_told (Kd.R_told (Kd.R_old (by (with_reducible repeat (first | apply Kd.R_alloc | apply Kd.R_drewN | apply Kd.R_drew)); exact HO818.out) hb) (Kd.R_base ho2)) (Kd.R_base ho3)) (Kd.R_base ho4)) (Kd.R_base ho6)) (fun _ h_ => h_.1))
          have n13_ := Aside0.mk (Kd.R_mono (Kd.R_told (Kd.R_told (Kd.R_told (Kd.R_told (Kd.R_old (by (with_reducible repeat (first | apply Kd.R_alloc | apply Kd.R_drewN | apply Kd.R_drew)); exact HO821.out) hb) (Kd.R_base ho2)) (Kd.R_base ho3)) (Kd.R_base ho4)) (Kd.R_base ho6)) (fun _ h_ => h_.1))
          have n14_ := Aside0.mk (Kd.R_mono (Kd.R_told (Kd.R_told (Kd.R_told (Kd.R_told (Kd.R_old (by (with_reducible repeat (first | apply Kd.R_alloc | apply Kd.R_drewN | apply Kd.R_drew)); exact HO825.out) hb) (Kd.R_base ho2)) (Kd.R_base ho3)) (Kd.R_base ho4)) (Kd.R_base ho6)) (fun _ h_ => h_.1))
          have n15_ := Aside0.mk (Kd.R_elder' (by (with_reducible repeat (first | apply Kd.R_alloc | apply Kd.R_drewN | apply Kd.R_drew)); exact HO828.out) (Kd.R_base ho5) hb)
          have n16_ := Aside0.mk (Kd.R_mono (Kd.R_told (Kd.R_told (Kd.R_told (Kd.R_told (Kd.R_old (by (with_reducible repeat (first | apply Kd.R_alloc | apply Kd.R_drewN | apply Kd.R_drew)); exact HO831.out) hb) (Kd.R_base ho2)) (Kd.R_base ho3)) (Kd.R_base ho4)) (Kd.R_base ho6)) (fun _ h_ => h_.1))
          have n17_ := Aside0.mk (Kd.R_elder' (by (with_reducible repeat (first | apply Kd.R_alloc | apply Kd.R_drewN | apply Kd.R_drew)); exact HO834.out) (Kd.R_base ho7) hb)
          have n18_ := Aside0.mk (Kd.S_elder' (by (with_reducible repeat (first | apply Kd.S_alloc | apply Kd.S_drewN | apply Kd.S_drew)); exact HO837.out) (Kd.S_base ho8) hb)
          have n19_ := Aside0.mk (Kd.R_elder' (by (with_reducible repeat (first | apply Kd.R_alloc | apply Kd.R_drewN | apply Kd.R_drew)); exact HO840.out) (Kd.R_base ho9) hb)
          have n20_ := Aside0.mk (Kd.R_lower (Kd.R_new' (Kd.R_new' (Kd.R_new' (Kd.R_new' ho0 (Kd.R_lt (by (with_reducible repeat (first | apply Kd.R_alloc | apply Kd.R_drewN | apply Kd.R_drew)); exact HO778.out))) (Kd.R_lt (by (with_reducible repeat (first | apply Kd.R_alloc | apply Kd.R_drewN | apply Kd.R_drew)); exact HO781.out))) (Kd.R_lt (by (with_reducible repeat (first | apply Kd.R_alloc | apply Kd.R_drewN | apply Kd.R_drew)); exact HO812.out))) (Kd.R_lt (by (with_reducible repeat (first | apply Kd.R_alloc | apply Kd.R_drewN | apply Kd.R_drew)); exact HO815.out))) (below_size BG))
          have n21_ := Aside0.mk (Kd.R_lower (Kd.R_new' (Kd.R_new' (Kd.R_new' (Kd.R_new' ho1 (Kd.R_lt (by (with_reducible repeat (first | apply Kd.R_alloc | apply Kd.R_drewN | apply Kd.R_drew)); exact HO778.out))) (Kd.R_lt (by (with_reducible repeat (first | apply Kd.R_alloc | apply Kd.R_drewN | apply Kd.R_drew)); exact HO781.out))) (Kd.R_lt (by (with_reducible repeat (first | apply Kd.R_alloc | apply Kd.R_drewN | apply Kd.R_drew)); exact HO812.out))) (Kd.R_lt (by (with_reducible repeat (first | apply Kd.R_alloc | apply Kd.R_drewN | apply Kd.R_drew)); exact HO815.out))) (below_size BG))
          have n22_ := Aside0.mk (Kd.R_lower (Kd.R_new' (Kd.R_new' (Kd.R_new' (Kd.R_new' (Kd.R_new' (Kd.R_new' (Kd.R_new' (Kd.R_new' ho2 (Kd.R_lt (by (with_reducible repeat (first | apply Kd.R_alloc | apply Kd.R_drewN | apply Kd.R_drew)); exact HO784.out))) (Kd.R_lt (by (with_reducible repeat (first | apply Kd.R_alloc | apply Kd.R_drewN | apply Kd.R_drew)); exact HO787.out))) (Kd.R_lt (by (with_reducible repeat (first | apply Kd.R_alloc | apply Kd.R_drewN | apply Kd.R_drew)); exact HO791.out))) (Kd.R_lt (by (with_reducible repeat (first | apply Kd.R_alloc | apply Kd.R_drewN | apply Kd.R_drew)); exact HO797.out))) (Kd.R_lt (by (with_reducible repeat (first | apply Kd.R_alloc | apply Kd.R_drewN | apply Kd.R_drew)); exact HO818.out))) (Kd.R_lt (by (with_reducible repeat (first | apply Kd.R_alloc | apply Kd.R_drewN | apply Kd.R_drew)); exact HO821.out))) (Kd.R_lt (by (with_reducible repeat (first | apply Kd.R_alloc | apply Kd.R_drewN | apply Kd.R_drew)); exact HO825.out))) (Kd.R_lt (by (with_reducible repeat (first | apply Kd.R_alloc | apply Kd.R_drewN | apply Kd.R_drew)); exact HO831.out))) (below_size BG))
          have n23_ := Aside0.mk (Kd.R_lower (Kd.R_new' (Kd.R_new' (Kd.R_new' (Kd.R_new' (Kd.R_new' (Kd.R_new' (Kd.R_new' (Kd.R_new' ho3 (Kd.R_lt (by (with_reducible repeat (first | apply Kd.R_alloc | apply Kd.R_drewN | apply Kd.R_drew)); exact HO784.out))) (Kd.R_lt (by (with_reducible repeat (first | apply Kd.R_alloc | apply Kd.R_drewN | apply Kd.R_drew)); exact HO787.out))) (Kd.R_lt (by (with_reducible repeat (first | apply Kd.R_alloc | apply Kd.R_drewN | apply Kd.R_drew)); exact HO791.out))) (Kd.R_lt (by (with_reducible repeat (first | apply Kd.R_alloc | apply Kd.R_drewN | apply Kd.R_drew)); exact HO797.out))) (Kd.R_lt (by (with_reducible repeat (first | apply Kd.R_alloc | apply Kd.R_drewN | apply Kd.R_drew)); exact HO818.out))) (Kd.R_lt (by (with_reducible repeat (first | apply Kd.R_alloc | apply Kd.R_drewN | apply Kd.R_drew)); exact HO821.out))) (Kd.R_lt (by (with_reducible repeat (first | apply Kd.R_alloc | apply Kd.R_drewN | apply Kd.R_drew)); exact HO825.out))) (Kd.R_lt (by (with_reducible repeat (first | apply Kd.R_alloc | apply Kd.R_drewN | apply Kd.R_drew)); exact HO831.out))) (below_size BG))
          have n24_ := Aside0.mk (Kd.R_lower (Kd.R_new' (Kd.R_new' (Kd.R_new' (Kd.R_new' (Kd.R_new' (Kd.R_new' (Kd.R_new' (Kd.R_new' ho4 (Kd.R_lt (by (with_reducible repeat (first | apply Kd.R_alloc | apply Kd.R_drewN | apply Kd.R_drew)); exact HO784.out))) (Kd.R_lt (by (with_reducible repeat (first | apply Kd.R_alloc | apply Kd.R_drewN | apply Kd.R_drew)); exact HO787.out))) (Kd.R_lt (by (with_reducible repeat (first | apply Kd.R_alloc | apply Kd.R_drewN | apply Kd.R_drew)); exact HO791.out))) (Kd.R_lt (by (with_reducible repeat (first | apply Kd.R_alloc | apply Kd.R_drewN | apply Kd.R_drew)); exact HO797.out))) (Kd.R_lt (by (with_reducible repeat (first | apply Kd.R_alloc | apply Kd.R_drewN | apply Kd.R_drew)); exact HO818.out))) (Kd.R_lt (by (with_reducible repeat (first | apply Kd.R_alloc | apply Kd.R_drewN | apply Kd.R_drew)); exact HO821.out))) (Kd.R_lt (by (with_reducible repeat (first | apply Kd.R_alloc | apply Kd.R_drewN | apply Kd.R_drew)); exact HO825.out))) (Kd.R_lt (by (with_reducible repeat (first | apply Kd.R_alloc | apply Kd.R_drewN | apply Kd.R_drew)); exact HO831.out))) (below_size BG))
          have n25_ := Aside0.mk (Kd.R_lower (Kd.R_new' (Kd.R_new' ho5 (Kd.R_lt (by (with_reducible repeat (first | apply Kd.R_alloc | apply Kd.R_drewN | apply Kd.R_drew)); exact HO794.out))) (Kd.R_lt (by (with_reducible repeat (first | apply Kd.R_alloc | apply Kd.R_drewN | apply Kd.R_drew)); exact HO828.out))) (below_size BG))
          have n26_ := Aside0.mk (Kd.R_lower (Kd.R_new' (Kd.R_new' (Kd.R_new' (Kd.R_new' (Kd.R_new' (Kd.R_new' (Kd.R_new' (Kd.R_new' ho6 (Kd.R_lt (by (with_reducible repeat (first | apply Kd.R_alloc | apply Kd.R_drewN | apply Kd.R_drew)); exact HO784.out))) (Kd.R_lt (by (with_reducible repeat (first | apply Kd.R_alloc | apply Kd.R_drewN | apply Kd.R_drew)); exact HO787.out))) (Kd.R_lt (by (with_reducible repeat (first | apply Kd.R_alloc | apply Kd.R_drewN | apply Kd.R_drew)); exact HO791.out))) (Kd.R_lt (by (with_reducible repeat (first | apply Kd.R_alloc | apply Kd.R_drewN | apply Kd.R_drew)); exact HO797.out))) (Kd.R_lt (by (with_reducible repeat (first | apply Kd.R_alloc | apply Kd.R_drewN | apply Kd.R_drew)); exact HO818.out))) (Kd.R_lt (by (with_reducible repeat (first | apply Kd.R_alloc | apply Kd.R_drewN | apply Kd.R_drew)); exact HO821.out))) (Kd.R_lt (by (with_reducible repeat (first | apply Kd.R_alloc | apply Kd.R_drewN | apply Kd.R_drew)); exact HO825.out))) (Kd.R_lt (by (with_reducible repeat (first | apply Kd.R_alloc | apply Kd.R_drewN | apply Kd.R_drew)); exact HO831.out))) (below_size BG))
          have n27_ := Aside0.mk (Kd.R_lower (Kd.R_new' (Kd.R_new' ho7 (Kd.R_lt (by (with_reducible repeat (first | apply Kd.R_alloc | apply Kd.R_drewN | apply Kd.R_drew)); exact HO800.out))) (Kd.R_lt (by (with_reducible repeat (first | apply Kd.R_alloc | apply Kd.R_drewN | apply Kd.R_drew)); exact HO834.out))) (below_size BG))
          have n28_ := Aside0.mk (Kd.S_lower (Kd.S_new' (Kd.S_new' ho8 (Kd.S_lt (by (with_reducible repeat (first | apply Kd.S_alloc | apply Kd.S_drewN | apply Kd.S_drew)); exact HO803.out))) (Kd.S_lt (by (with_reducible repeat (first | apply Kd.S_alloc | apply Kd.S_drewN | apply Kd.S_drew)); exact HO837.out))) (below_size BG))
          have n29_ := Aside0.mk (Kd.R_lower (Kd.R_new' (Kd.R_new' ho9 (Kd.R_lt (by (with_reducible repeat (first | apply Kd.R_alloc | apply Kd.R_drewN | apply Kd.R_drew)); exact HO806.out))) (Kd.R_lt (by (with_reducible repeat (first | apply Kd.R_alloc | apply Kd.R_drewN | apply Kd.R_drew)); exact HO840.out))) (below_size BG))
          have n30_ := Aside0.mk (blk_below (g := gb772) (o := .cells #[.int .i64 a0_0, .int .i64 a0_1, .slice A0_2 l0_2.length c0_2, .slice A0_3 l0_3.length c0_3, .slice A0_4 l0_4.length c0_4, .slice A0_5 l0_5.length c0_5, .int .i64 a0_6, .slice A0_7 l0_7.length c0_7, .slice A0_8 l0_8.length c0_8, .slice A0_9 l0_9.length c0_9, .slice A0_10 l0_10.length c0_10, .slice A0_11 l0_11.length c0_11, .slice A0_12 l0_12.length c0_12] 64 (0, 0)) (by (with_reducible repeat (first | refine blk_drewN ?_ _ | refine blk_drew ?_ | refine blk_alloc ?_ _)); exact BK772.out) hb)
          have n31_ := Aside0.mk (blk_below (g := gb841) (o := .cells #[.int .i64 t808, .int .i64 t809, .slice Ao39 t810.length co39, .slice Ao40 t813.length co40, .slice Ao41 t816.length co41, .slice Ao42 t819.length co42, .int .i64 t822, .slice Ao43 t823.length co43, .slice Ao44 t826.length co44, .slice Ao45 t829.length co45, .slice Ao46 t832.length co46, .slice Ao47 t835.length co47, .slice Ao48 t838.length co48] 76 (0, 0)) (by (with_reducible repeat (first | refine blk_drewN ?_ _ | refine blk_drew ?_ | refine blk_alloc ?_ _)); exact BK841.out) hb)
          have n32_ := Aside0.mk (below_step BG hb)
          clear HO778
          clear HO781
          clear HO784
          clear HO787
          clear HO791
          clear HO794
          clear HO797
          clear HO800
          clear HO803
          clear HO806
          clear HO812
          clear HO815
          clear HO818
          clear HO821
          clear HO825
          clear HO828
          clear HO831
          clear HO834
          clear HO837
          clear HO840
          clear BK772
          clear BK841
          clear HB
          have HO778 := n0_
          have HO781 := n1_
          have HO784 := n2_
          have HO787 := n3_
          have HO791 := n4_
          have HO794 := n5_
          have HO797 := n6_
          have HO800 := n7_
          have HO803 := n8_
          have HO806 := n9_
          have HO812 := n10_
          have HO815 := n11_
          have HO818 := n12_
          have HO821 := n13_
          have HO825 := n14_
          have HO828 := n15_
          have HO831 := n16_
          have HO834 := n17_
          have HO837 := n18_
          have HO840 := n19_
          have HO847 := n20_
          have HO850 := n21_
          have HO853 := n22_
          have HO856 := n23_
          have HO860 := n24_
          have HO863 := n25_
          have HO866 := n26_
          have HO869 := n27_
          have HO872 := n28_
          have HO875 := n29_
          have BK772 := n30_
          have BK841 := n31_
          have HB := n32_
          clear n0_ n1_ n2_ n3_ n4_ n5_ n6_ n7_ n8_ n9_ n10_ n11_ n12_ n13_ n14_ n15_ n16_ n17_ n18_ n19_ n20_ n21_ n22_ n23_ n24_ n25_ n26_ n27_ n28_ n29_ n30_ n31_ n32_
          (try clear hb)
          (try clear hb2)
          (try clear hk)
          (try clear hi)
          (try clear ho0)
          (try clear ho1)
          (try clear ho2)
          (try clear ho3)
          (try clear ho4)
          (try clear ho5)
          (try clear ho6)
          (try clear ho7)
          (try clear ho8)
          (try clear ho9)
          obtain ⟨Ao52, co52, eo52⟩ := Kd.R_slice HO847.out
          (first | subst eo52 | (injection eo52 with f1_ f2_ f3_; have f4_ := f1_.symm; have f5_ := f3_.symm; clear f1_ f2_ f3_; subst f4_; subst f5_))
          obtain ⟨Ao53, co53, eo53⟩ := Kd.R_slice HO850.out
          (first | subst eo53 | (injection eo53 with f1_ f2_ f3_; have f4_ := f1_.symm; have f5_ := f3_.symm; clear f1_ f2_ f3_; subst f4_; subst f5_))
          obtain ⟨Ao54, co54, eo54⟩ := Kd.R_slice HO853.out
          (first | subst eo54 | (injection eo54 with f1_ f2_ f3_; have f4_ := f1_.symm; have f5_ := f3_.symm; clear f1_ f2_ f3_; subst f4_; subst f5_))
          obtain ⟨Ao55, co55, eo55⟩ := Kd.R_slice HO856.out
          (first | subst eo55 | (injection eo55 with f1_ f2_ f3_; have f4_ := f1_.symm; have f5_ := f3_.symm; clear f1_ f2_ f3_; subst f4_; subst f5_))
          obtain ⟨Ao56, co56, eo56⟩ := Kd.R_slice HO860.out
          (first | subst eo56 | (injection eo56 with f1_ f2_ f3_; have f4_ := f1_.symm; have f5_ := f3_.symm; clear f1_ f2_ f3_; subst f4_; subst f5_))
          obtain ⟨Ao57, co57, eo57⟩ := Kd.R_slice HO863.out
          (first | subst eo57 | (injection eo57 with f1_ f2_ f3_; have f4_ := f1_.symm; have f5_ := f3_.symm; clear f1_ f2_ f3_; subst f4_; subst f5_))
          obtain ⟨Ao58, co58, eo58⟩ := Kd.R_slice HO866.out
          (first | subst eo58 | (injection eo58 with f1_ f2_ f3_; have f4_ := f1_.symm; have f5_ := f3_.symm; clear f1_ f2_ f3_; subst f4_; subst f5_))
          obtain ⟨Ao59, co59, eo59⟩ := Kd.R_slice HO869.out
          (first | subst eo59 | (injection eo59 with f1_ f2_ f3_; have f4_ := f1_.symm; have f5_ := f3_.symm; clear f1_ f2_ f3_; subst f4_; subst f5_))
          obtain ⟨Ao60, co60, eo60⟩ := Kd.S_slice HO872.out
          (first | subst eo60 | (injection eo60 with f1_ f2_ f3_; have f4_ := f1_.symm; have f5_ := f3_.symm; clear f1_ f2_ f3_; subst f4_; subst f5_))
          obtain ⟨Ao61, co61, eo61⟩ := Kd.R_slice HO875.out
          (first | subst eo61 | (injection eo61 with f1_ f2_ f3_; have f4_ := f1_.symm; have f5_ := f3_.symm; clear f1_ f2_ f3_; subst f4_; subst f5_))
          refine hK.out _ _ ⟨(blk_cell BK841.out 0).trans rfl, (blk_cell BK841.out 1).trans rfl, (blk_cell BK841.out 2).trans rfl, (blk_cell BK841.out 3).trans rfl, (blk_cell BK841.out 4).trans rfl, (blk_cell BK841.out 5).trans rfl, (blk_cell BK841.out 6).trans rfl, (blk_cell BK841.out 7).trans rfl, (blk_cell BK841.out 8).trans rfl, (blk_cell BK841.out 9).trans rfl, (blk_cell BK841.out 10).trans rfl, (blk_cell BK841.out 11).trans rfl, (blk_cell BK841.out 12).trans rfl, (blk_cell BK772.out 0).trans rfl, (blk_cell BK772.out 1).trans rfl, (blk_cell BK772.out 2).trans rfl, (blk_cell BK772.out 3).trans rfl, (blk_cell BK772.out 4).trans rfl, (blk_cell BK772.out 5).trans rfl, (blk_cell BK772.out 6).trans rfl, (blk_cell BK772.out 7).trans rfl, (blk_cell BK772.out 8).trans rfl, (blk_cell BK772.out 9).trans rfl, (blk_cell BK772.out 10).trans rfl, (blk_cell BK772.out 11).trans rfl, (blk_cell BK772.out 12).trans rfl⟩ (fun hHeld => ?_)
          clear hK K
          refine norm_ (a' := ?_) ?_ ?_
          rotate_left
          · show Act.put _ (some 31) _ = _
            simp only [Act.put, List.setIfInBounds_toArray, List.set_cons_zero, List.set_cons_succ, i64_w, i32_w]
            rfl
          refine one_ (i := 3) (N := some 32) #[true, true, true, true, false] rfl rfl (by kernel_rfl) (by decide) (fun K hK => ?_)
          refine goes_ Try.func37 (by kernel_rfl) rfl #[.agg #[.int .i64 t808, .int .i64 t809, .slice Ao39 t810.length co39, .slice Ao40 t813.length co40, .slice Ao41 t816.length co41, .slice Ao42 t819.length co42, .int .i64 t822, .slice Ao43 t823.length co43, .slice Ao44 t826.length co44, .slice Ao45 t829.length co45, .slice Ao46 t832.length co46, .slice Ao47 t835.length co47, .slice Ao48 t838.length co48], .agg #[.int .i64 t843, .int .i64 t844, .slice Ao52 t845.length co52, .slice Ao53 t848.length co53, .slice Ao54 t851.length co54, .slice Ao55 t854.length co55, .int .i64 t857, .slice Ao56 t858.length co56, .slice Ao57 t861.length co57, .slice Ao58 t864.length co58, .slice Ao59 t867.length co59, .slice Ao60 t870.length co60, .slice Ao61 t873.length co61]] (by rfl) rfl rfl AQ ?_
          with_reducible refine (laws_eqDesk.calls k t808 t809 _ _ t810 _ _ t813 _ _ t816 _ _ t819 t822 _ _ t823 _ _ t826 _ _ t829 _ _ t832 _ _ t835 _ _ t838 t843 t844 _ _ t845 _ _ t848 _ _ t851 _ _ t854 t857 _ _ t858 _ _ t861 _ _ t864 _ _ t867 _ _ t870 _ _ t873 true _ ?side1 ?side2 ?side3 ?side4 ?side5 ?side6 ?side7 ?side8 ?side9 ?side10 ?side11 ?side12 ?side13 ?side14 ?side15 ?side16 ?side17 ?side18 ?side19 ?side20 ?side21 ?side22 ?side23 ?side24 ?side25 ?side26 ?side27 ?side28 ?side29 ?side30 ?side31 ?side32 ?side33 ?side34 ?side35 ?side36 ?side37 ?side38 ?side39 ?side40 A16.out).mono ?_
          (case side1 => repeat (first | exact (Kd.R_reads' HO812.out).2.2 | (with_reducible refine Kd.C_alloc ?_ _) | (with_reducible refine Kd.C_drewN ?_ _) | (with_reducible refine Kd.C_drew ?_)))
          (case side2 => exact (Kd.R_reads' HO812.out).2.1)
          (case side3 => repeat (first | exact (Kd.R_reads' HO815.out).2.2 | (with_reducible refine Kd.C_alloc ?_ _) | (with_reducible refine Kd.C_drewN ?_ _) | (with_reducible refine Kd.C_drew ?_)))
          (case side4 => exact (Kd.R_reads' HO815.out).2.1)
          (case side5 => repeat (first | exact (Kd.R_reads' HO818.out).2.2 | (with_reducible refine Kd.C_alloc ?_ _) | (with_reducible refine Kd.C_drewN ?_ _) | (with_reducible refine Kd.C_drew ?_)))
          (case side6 => exact (Kd.R_reads' HO818.out).2.1)
          (case side7 => repeat (first | exact (Kd.R_reads' HO821.out).2.2 | (with_reducible refine Kd.C_alloc ?_ _) | (with_reducible refine Kd.C_drewN ?_ _) | (with_reducible refine Kd.C_drew ?_)))
          (case side8 => exact (Kd.R_reads' HO821.out).2.1)
          (case side9 => repeat (first | exact (Kd.R_reads' HO825.out).2.2 | (with_reducible refine Kd.C_alloc ?_ _) | (with_reducible refine Kd.C_drewN ?_ _) | (with_reducible refine Kd.C_drew ?_)))
          (case side10 => exact (Kd.R_reads' HO825.out).2.1)
          (case side11 => repeat (first | exact (Kd.R_reads' HO828.out).2.2 | (with_reducible refine Kd.C_alloc ?_ _) | (with_reducible refine Kd.C_drewN ?_ _) | (with_reducible refine Kd.C_drew ?_)))
          (case side12 => exact (Kd.R_reads' HO828.out).2.1)
          (case side13 => repeat (first | exact (Kd.R_reads' HO831.out).2.2 | (with_reducible refine Kd.C_alloc ?_ _) | (with_reducible refine Kd.C_drewN ?_ _) | (with_reducible refine Kd.C_drew ?_)))
          (case side14 => exact (Kd.R_reads' HO831.out).2.1)
          (case side15 => repeat (first | exact (Kd.R_reads' HO834.out).2.2 | (with_reducible refine Kd.C_alloc ?_ _) | (with_reducible refine Kd.C_drewN ?_ _) | (with_reducible refine Kd.C_drew ?_)))
          (case side16 => exact (Kd.R_reads' HO834.out).2.1)
          (case side17 => repeat (first | exact (Kd.S_reads' HO837.out).2.2 | (with_reducible refine Kd.C_alloc ?_ _) | (with_reducible refine Kd.C_drewN ?_ _) | (with_reducible refine Kd.C_drew ?_)))
          (case side18 => exact (Kd.S_reads' HO837.out).2.1)
          (case side19 => repeat (first | exact (Kd.R_reads' HO840.out).2.2 | (with_reducible refine Kd.C_alloc ?_ _) | (with_reducible refine Kd.C_drewN ?_ _) | (with_reducible refine Kd.C_drew ?_)))
          (case side20 => exact (Kd.R_reads' HO840.out).2.1)
          (case side21 => repeat (first | exact (Kd.R_reads' HO847.out).2.2 | (with_reducible refine Kd.C_alloc ?_ _) | (with_reducible refine Kd.C_drewN ?_ _) | (with_reducible refine Kd.C_drew ?_)))
          (case side22 => exact (Kd.R_reads' HO847.out).2.1)
          (case side23 => repeat (first | exact (Kd.R_reads' HO850.out).2.2 | (with_reducible refine Kd.C_alloc ?_ _) | (with_reducible refine Kd.C_drewN ?_ _) | (with_reducible refine Kd.C_drew ?_)))
          (case side24 => exact (Kd.R_reads' HO850.out).2.1)
          (case side25 => repeat (first | exact (Kd.R_reads' HO853.out).2.2 | (with_reducible refine Kd.C_alloc ?_ _) | (with_reducible refine Kd.C_drewN ?_ _) | (with_reducible refine Kd.C_drew ?_)))
          (case side26 => exact (Kd.R_reads' HO853.out).2.1)
          (case side27 => repeat (first | exact (Kd.R_reads' HO856.out).2.2 | (with_reducible refine Kd.C_alloc ?_ _) | (with_reducible refine Kd.C_drewN ?_ _) | (with_reducible refine Kd.C_drew ?_)))
          (case side28 => exact (Kd.R_reads' HO856.out).2.1)
          (case side29 => repeat (first | exact (Kd.R_reads' HO860.out).2.2 | (with_reducible refine Kd.C_alloc ?_ _) | (with_reducible refine Kd.C_drewN ?_ _) | (with_reducible refine Kd.C_drew ?_)))
          (case side30 => exact (Kd.R_reads' HO860.out).2.1)
          (case side31 => repeat (first | exact (Kd.R_reads' HO863.out).2.2 | (with_reducible refine Kd.C_alloc ?_ _) | (with_reducible refine Kd.C_drewN ?_ _) | (with_reducible refine Kd.C_drew ?_)))
          (case side32 => exact (Kd.R_reads' HO863.out).2.1)
          (case side33 => repeat (first | exact (Kd.R_reads' HO866.out).2.2 | (with_reducible refine Kd.C_alloc ?_ _) | (with_reducible refine Kd.C_drewN ?_ _) | (with_reducible refine Kd.C_drew ?_)))
          (case side34 => exact (Kd.R_reads' HO866.out).2.1)
          (case side35 => repeat (first | exact (Kd.R_reads' HO869.out).2.2 | (with_reducible refine Kd.C_alloc ?_ _) | (with_reducible refine Kd.C_drewN ?_ _) | (with_reducible refine Kd.C_drew ?_)))
          (case side36 => exact (Kd.R_reads' HO869.out).2.1)
          (case side37 => repeat (first | exact (Kd.S_reads' HO872.out).2.2 | (with_reducible refine Kd.C_alloc ?_ _) | (with_reducible refine Kd.C_drewN ?_ _) | (with_reducible refine Kd.C_drew ?_)))
          (case side38 => exact (Kd.S_reads' HO872.out).2.1)
          (case side39 => repeat (first | exact (Kd.R_reads' HO875.out).2.2 | (with_reducible refine Kd.C_alloc ?_ _) | (with_reducible refine Kd.C_drewN ?_ _) | (with_reducible refine Kd.C_drew ?_)))
          (case side40 => exact (Kd.R_reads' HO875.out).2.1)
          rintro e w62 ⟨rfl, hb⟩
          refine ⟨_, rfl, ?_⟩
          have n0_ := Aside0.mk (Kd.R_below (by (with_reducible repeat (first | apply Kd.R_alloc | apply Kd.R_drewN | apply Kd.R_drew)); exact HO778.out) hb)
          have n1_ := Aside0.mk (Kd.R_below (by (with_reducible repeat (first | apply Kd.R_alloc | apply Kd.R_drewN | apply Kd.R_drew)); exact HO781.out) hb)
          have n2_ := Aside0.mk (Kd.R_below (by (with_reducible repeat (first | apply Kd.R_alloc | apply Kd.R_drewN | apply Kd.R_drew)); exact HO784.out) hb)
          have n3_ := Aside0.mk (Kd.R_below (by (with_reducible repeat (first | apply Kd.R_alloc | apply Kd.R_drewN | apply Kd.R_drew)); exact HO787.out) hb)
          have n4_ := Aside0.mk (Kd.R_below (by (with_reducible repeat (first | apply Kd.R_alloc | apply Kd.R_drewN | apply Kd.R_drew)); exact HO791.out) hb)
          have n5_ := Aside0.mk (Kd.R_below (by (with_reducible repeat (first | apply Kd.R_alloc | apply Kd.R_drewN | apply Kd.R_drew)); exact HO794.out) hb)
          have n6_ := Aside0.mk (Kd.R_below (by (with_reducible repeat (first | apply Kd.R_alloc | apply Kd.R_drewN | apply Kd.R_drew)); exact HO797.out) hb)
          have n7_ := Aside0.mk (Kd.R_below (by (with_reducible repeat (first | apply Kd.R_alloc | apply Kd.R_drewN | apply Kd.R_drew)); exact HO800.out) hb)
          have n8_ := Aside0.mk (Kd.S_below (by (with_reducible repeat (first | apply Kd.S_alloc | apply Kd.S_drewN | apply Kd.S_drew)); exact HO803.out) hb)
          have n9_ := Aside0.mk (Kd.R_below (by (with_reducible repeat (first | apply Kd.R_alloc | apply Kd.R_drewN | apply Kd.R_drew)); exact HO806.out) hb)
          have n10_ := Aside0.mk (Kd.R_below (by (with_reducible repeat (first | apply Kd.R_alloc | apply Kd.R_drewN | apply Kd.R_drew)); exact HO812.out) hb)
          have n11_ := Aside0.mk (Kd.R_below (by (with_reducible repeat (first | apply Kd.R_alloc | apply Kd.R_drewN | apply Kd.R_drew)); exact HO815.out) hb)
          have n12_ := Aside0.mk (Kd.R_below (by (with_reducible repeat (first | apply Kd.R_alloc | apply Kd.R_drewN | apply Kd.R_drew)); exact HO818.out) hb)
          have n13_ := Aside0.mk (Kd.R_below (by (with_reducible repeat (first | apply Kd.R_alloc | apply Kd.R_drewN | apply Kd.R_drew)); exact HO821.out) hb)
          have n14_ := Aside0.mk (Kd.R_below (by (with_reducible repeat (first | apply Kd.R_alloc | apply Kd.R_drewN | apply Kd.R_drew)); exact HO825.out) hb)
          have n15_ := Aside0.mk (Kd.R_below (by (with_reducible repeat (first | apply Kd.R_alloc | apply Kd.R_drewN | apply Kd.R_drew)); exact HO828.out) hb)
          have n16_ := Aside0.mk (Kd.R_below (by (with_reducible repeat (first | apply Kd.R_alloc | apply Kd.R_drewN | apply Kd.R_drew)); exact HO831.out) hb)
          have n17_ := Aside0.mk (Kd.R_below (by (with_reducible repeat (first | apply Kd.R_alloc | apply Kd.R_drewN | apply Kd.R_drew)); exact HO834.out) hb)
          have n18_ := Aside0.mk (Kd.S_below (by (with_reducible repeat (first | apply Kd.S_alloc | apply Kd.S_drewN | apply Kd.S_drew)); exact HO837.out) hb)
          have n19_ := Aside0.mk (Kd.R_below (by (with_reducible repeat (first | apply Kd.R_alloc | apply Kd.R_drewN | apply Kd.R_drew)); exact HO840.out) hb)
          have n20_ := Aside0.mk (Kd.R_below (by (with_reducible repeat (first | apply Kd.R_alloc | apply Kd.R_drewN | apply Kd.R_drew)); exact HO847.out) hb)
          have n21_ := Aside0.mk (Kd.R_below (by (with_reducible repeat (first | apply Kd.R_alloc | apply Kd.R_drewN | apply Kd.R_drew)); exact HO850.out) hb)
          have n22_ := Aside0.mk (Kd.R_below (by (with_reducible repeat (first | apply Kd.R_alloc | apply Kd.R_drewN | apply Kd.R_drew)); exact HO853.out) hb)
          have n23_ := Aside0.mk (Kd.R_below (by (with_reducible repeat (first | apply Kd.R_alloc | apply Kd.R_drewN | apply Kd.R_drew)); exact HO856.out) hb)
          have n24_ := Aside0.mk (Kd.R_below (by (with_reducible repeat (first | apply Kd.R_alloc | apply Kd.R_drewN | apply Kd.R_drew)); exact HO860.out) hb)
          have n25_ := Aside0.mk (Kd.R_below (by (with_reducible repeat (first | apply Kd.R_alloc | apply Kd.R_drewN | apply Kd.R_drew)); exact HO863.out) hb)
          have n26_ := Aside0.mk (Kd.R_below (by (with_reducible repeat (first | apply Kd.R_alloc | apply Kd.R_drewN | apply Kd.R_drew)); exact HO866.out) hb)
          have n27_ := Aside0.mk (Kd.R_below (by (with_reducible repeat (first | apply Kd.R_alloc | apply Kd.R_drewN | apply Kd.R_drew)); exact HO869.out) hb)
          have n28_ := Aside0.mk (Kd.S_below (by (with_reducible repeat (first | apply Kd.S_alloc | apply Kd.S_drewN | apply Kd.S_drew)); exact HO872.out) hb)
          have n29_ := Aside0.mk (Kd.R_below (by (with_reducible repeat (first | apply Kd.R_alloc | apply Kd.R_drewN | apply Kd.R_drew)); exact HO875.out) hb)
          have n30_ := Aside0.mk (blk_below (g := gb772) (o := .cells #[.int .i64 a0_0, .int .i64 a0_1, .slice A0_2 l0_2.length c0_2, .slice A0_3 l0_3.length c0_3, .slice A0_4 l0_4.length c0_4, .slice A0_5 l0_5.length c0_5, .int .i64 a0_6, .slice A0_7 l0_7.length c0_7, .slice A0_8 l0_8.length c0_8, .slice A0_9 l0_9.length c0_9, .slice A0_10 l0_10.length c0_10, .slice A0_11 l0_11.length c0_11, .slice A0_12 l0_12.length c0_12] 64 (0, 0)) (by (with_reducible repeat (first | refine blk_drewN ?_ _ | refine blk_drew ?_ | refine blk_alloc ?_ _)); exact BK772.out) hb)
          have n31_ := Aside0.mk (blk_below (g := gb841) (o := .cells #[.int .i64 t808, .int .i64 t809, .slice Ao39 t810.length co39, .slice Ao40 t813.length co40, .slice Ao41 t816.length co41, .slice Ao42 t819.length co42, .int .i64 t822, .slice Ao43 t823.length co43, .slice Ao44 t826.length co44, .slice Ao45 t829.length co45, .slice Ao46 t832.length co46, .slice Ao47 t835.length co47, .slice Ao48 t838.length co48] 76 (0, 0)) (by (with_reducible repeat (first | refine blk_drewN ?_ _ | refine blk_drew ?_ | refine blk_alloc ?_ _)); exact BK841.out) hb)
          have n32_ := Aside0.mk (below_step BG hb)
          clear HO778
          clear HO781
          clear HO784
          clear HO787
          clear HO791
          clear HO794
          clear HO797
          clear HO800
          clear HO803
          clear HO806
          clear HO812
          clear HO815
          clear HO818
          clear HO821
          clear HO825
          clear HO828
          clear HO831
          clear HO834
          clear HO837
          clear HO840
          clear HO847
          clear HO850
          clear HO853
          clear HO856
          clear HO860
          clear HO863
          clear HO866
          clear HO869
          clear HO872
          clear HO875
          clear BK772
          clear BK841
          clear HB
          have HO778 := n0_
          have HO781 := n1_
          have HO784 := n2_
          have HO787 := n3_
          have HO791 := n4_
          have HO794 := n5_
          have HO797 := n6_
          have HO800 := n7_
          have HO803 := n8_
          have HO806 := n9_
          have HO812 := n10_
          have HO815 := n11_
          have HO818 := n12_
          have HO821 := n13_
          have HO825 := n14_
          have HO828 := n15_
          have HO831 := n16_
          have HO834 := n17_
          have HO837 := n18_
          have HO840 := n19_
          have HO847 := n20_
          have HO850 := n21_
          have HO853 := n22_
          have HO856 := n23_
          have HO860 := n24_
          have HO863 := n25_
          have HO866 := n26_
          have HO869 := n27_
          have HO872 := n28_
          have HO875 := n29_
          have BK772 := n30_
          have BK841 := n31_
          have HB := n32_
          clear n0_ n1_ n2_ n3_ n4_ n5_ n6_ n7_ n8_ n9_ n10_ n11_ n12_ n13_ n14_ n15_ n16_ n17_ n18_ n19_ n20_ n21_ n22_ n23_ n24_ n25_ n26_ n27_ n28_ n29_ n30_ n31_ n32_
          (try clear hb)
          (try clear hb2)
          (try clear hk)
          (try clear hi)
          refine hK.out _ _ ⟨(blk_cell BK841.out 0).trans rfl, (blk_cell BK841.out 1).trans rfl, (blk_cell BK841.out 2).trans rfl, (blk_cell BK841.out 3).trans rfl, (blk_cell BK841.out 4).trans rfl, (blk_cell BK841.out 5).trans rfl, (blk_cell BK841.out 6).trans rfl, (blk_cell BK841.out 7).trans rfl, (blk_cell BK841.out 8).trans rfl, (blk_cell BK841.out 9).trans rfl, (blk_cell BK841.out 10).trans rfl, (blk_cell BK841.out 11).trans rfl, (blk_cell BK841.out 12).trans rfl, (blk_cell BK772.out 0).trans rfl, (blk_cell BK772.out 1).trans rfl, (blk_cell BK772.out 2).trans rfl, (blk_cell BK772.out 3).trans rfl, (blk_cell BK772.out 4).trans rfl, (blk_cell BK772.out 5).trans rfl, (blk_cell BK772.out 6).trans rfl, (blk_cell BK772.out 7).trans rfl, (blk_cell BK772.out 8).trans rfl, (blk_cell BK772.out 9).trans rfl, (blk_cell BK772.out 10).trans rfl, (blk_cell BK772.out 11).trans rfl, (blk_cell BK772.out 12).trans rfl⟩ (fun hHeld => ?_)
          clear hK K
          refine norm_ (a' := ?_) ?_ ?_
          rotate_left
          · show Act.put _ (some 32) _ = _
            simp only [Act.put, List.setIfInBounds_toArray, List.set_cons_zero, List.set_cons_succ, i64_w, i32_w]
            rfl
          refine pure_ (i := 4) (N := some 33) (v := ?_) (a' := ?_) #[true, true, true, true, true] rfl rfl (by kernel_rfl) (fun _ _ _ h => h) (Or.inl ⟨by rfl, ?_⟩) ?_ ?_
          rotate_left
          · intro w'
            go_simp
            with_reducible rfl
          rotate_left
          · simp only [Act.put, List.setIfInBounds_toArray, List.set_cons_zero, List.set_cons_succ, i64_w, i32_w]
            rfl
          refine done_ (by kernel_rfl) ?_
          try go_wp2
          go_ret
          exact ⟨by first | rfl | (simp [errW_none, errW_some] <;> rfl) | (simp [*, errW_none, errW_some] <;> rfl), BG⟩
        · replace c17 := Bool.eq_false_iff.mpr c17
          subst c17
          have H1 : (none) = some r := by rw [if_neg (show ¬ (false = true) by decide)] at H; exact H
          clear H
          have H := H1
          clear H1
          exact absurd H (by simp)
      · rw [if_neg c14] at H
        exact absurd H (by simp)
end Go.Proofs.Ytmbfjhhlpnjeoaa.G

namespace Go.Proofs.Ytmbfjhhlpnjeoaa.G
open Go.RowKit Go.Proofs.YtmbfjhhlpnjeoaaW.PrintWords Go.Proofs.YtmbfjhhlpnjeoaaW.PrintLast Go.Proofs.YtmbfjhhlpnjeoaaW.PrintMore Go.Proofs.Ytmbfjhhlpnjeoaa.Sh
attribute [local go_sem] max2_int min2_int max_two min_two max_three min_three max_four min_four
set_option linter.unusedVariables false
set_option linter.unusedSimpArgs false
def laws_markIntS.l0 : Nat → List Int → Int → Int → Option (Int × List Int)
  | 0, _, _, _ => none
  | k + 1, x0, x1, x5 => if x5 < (x0.length : Int) then (if 0 ≤ x5 then (laws_markIntS.l0 k (x0.set (x5 : Int).toNat x1) (wrap64 (x1 + 1)) (wrap64 (x5 + 1))) else (none)) else (some (x1, x0))
def laws_markIntS.f (k : Nat) (l0 : List Int) (a1 : Int) : Option (Int × List Int) := laws_markIntS.l0 k l0 a1 0
theorem laws_markIntS.mono_l : ∀ k, (∀ y0 y1 y2, LeO (laws_markIntS.l0 k y0 y1 y2) (laws_markIntS.l0 (k + 1) y0 y1 y2))
  | 0 => fun _ _ _ r h => by simp [laws_markIntS.l0] at h
  | k + 1 => by
    have ih0 := laws_markIntS.mono_l k
    · intro y0 y1 y2
      unfold laws_markIntS.l0
      repeat' first
      | (with_reducible exact ih0 _ _ _)
      | (with_reducible exact LeO.refl _)
      | (with_reducible exact LeO.none _)
      | (with_reducible refine LeO.ite ?_ ?_)
      | (with_reducible refine LeO.bind ?_ (fun _ => ?_))
      | exact ih0 _ _ _
      | exact LeO.none _
      | refine LeO.ite ?_ ?_
      | refine LeO.bind ?_ (fun _ => ?_)
theorem laws_markIntS.mono : ∀ a0 a1 k, LeO (laws_markIntS.f k a0 a1) (laws_markIntS.f (k + 1) a0 a1) := by
  intro a0 a1 k
  have ih0 := laws_markIntS.mono_l k
  unfold laws_markIntS.f
  repeat' first
      | (with_reducible exact ih0 _ _ _)
      | (with_reducible exact LeO.refl _)
      | (with_reducible exact LeO.none _)
      | (with_reducible refine LeO.ite ?_ ?_)
      | (with_reducible refine LeO.bind ?_ (fun _ => ?_))
      | exact ih0 _ _ _
      | exact LeO.none _
      | refine LeO.ite ?_ ?_
      | refine LeO.bind ?_ (fun _ => ?_)
set_option maxHeartbeats 8000000 in
set_option maxRecDepth 100000 in
theorem laws_markIntS.calls (k : Nat) (P0_ : Nat → Prop) (u9000_ : Value) (l0 : List Int) (a1 : Int) (r1 : Int) (r2 : List Int) (w0 w : World) (hB : Below w0.heap.size w0 w) (ho0 : Kd.R (Kd.int .i64) 3 w w0.heap.size P0_ u9000_ l0) (h : laws_markIntS.f k l0 a1 = some (r1, r2)) :
    Calls Try.prog 46 #[u9000_, .int .i64 a1] w fun e w' => e = .returned (.int .i64 r1) ∧ Kd.R (Kd.int .i64) 3 w' w0.heap.size (fun k_ => (P0_ k_ ∨ w.heap.size ≤ k_)) u9000_ r2 ∧ Below w0.heap.size w0 w' ∧ Kept w w' (fun k_ => P0_ k_) := by
  have HO0 := Aside0.mk (show Kd.R (Kd.int .i64) 3 w w0.heap.size (fun k_ => (P0_ k_ ∨ w.heap.size ≤ k_)) u9000_ l0 from Kd.R_mono ho0 (fun k_ hk => (.inl hk)))
  have HK := Aside0.mk (Kept.refl w (fun k_ => P0_ k_))
  have HW0 := Aside0.mk hB.size
  have HB := Aside0.mk hB
  clear hB
  have H : (laws_markIntS.l0 k l0 a1 0) = some (r1, r2) := h
  clear h
  have H' := Aside0.mk H
  clear H
  go_enter Try.func46, Try.ntmps46
  go_wp2
  go_loopg [1, 5] k (fun kq v1 v5 w' => ∃ (x0_1 : List Int) (x1_1 : Int) (x5_1 : Int), v1 = .int .i64 x1_1 ∧ v5 = .int .i64 x5_1 ∧ Aside0 (laws_markIntS.l0 kq x0_1 x1_1 x5_1 = some (r1, r2)) ∧ Aside0 (kq ≤ k) ∧ Aside0 (Kd.R (Kd.int .i64) 3 w' w0.heap.size (fun k_ => (P0_ k_ ∨ w.heap.size ≤ k_)) u9000_ x0_1) ∧ Aside0 (Kept w w' (fun k_ => P0_ k_)) ∧ Aside0 (Below w0.heap.size w0 w'))
  case atStart => exact ⟨(l0), (a1), (0), RS, RS, H', ⟨Nat.le_refl _⟩, ⟨by (with_reducible repeat (first | apply Kd.R_alloc | apply Kd.R_drewN | apply Kd.R_drew)); exact HO0.out⟩, ⟨by repeat (first | (with_reducible first | exact HK.out | apply Kept.alloc | apply Kept.drewN | apply Kept.drew) | exact HK.out)⟩, ⟨by repeat (first | (with_reducible first | exact HB.out | apply below_alloc | apply pw_below_drewN | apply below_drew1) | exact HB.out)⟩⟩
  case round =>
    clear H'
    try clear p2
    obtain ⟨x0_1, x1_1, x5_1, rfl, rfl, HA, HK1, HO_0, HK, HB⟩ := hrel
    cases gk with
    | zero => exact absurd HA.out (by simp [laws_markIntS.l0])
    | succ k1 =>
      have H := HA.out
      clear HA
      simp only [laws_markIntS.l0] at H
      by_cases c3 : x5_1 < (x0_1.length : Int)
      · rw [if_pos c3] at H
        have c3b0 : decide (x5_1 < (x0_1.length : Int)) = true := decide_eq_true c3
        clear c3
        by_cases c4 : 0 ≤ x5_1
        · rw [if_pos c4] at H
          have c4b0 : decide (0 ≤ x5_1) = true := decide_eq_true c4
          clear c4
          obtain ⟨y982, hy982⟩ : ∃ y_ : List Int, y_ = (x0_1.set (x5_1 : Int).toNat x1_1) := ⟨_, rfl⟩
          replace H : (laws_markIntS.l0 k1 y982 (wrap64 (x1_1 + 1)) (wrap64 (x5_1 + 1))) = some (r1, r2) := by first | (rw [hy982]; with_reducible exact H) | (have H2_ := (Option.bind_some _ _).symm.trans H; rw [hy982]; with_reducible exact H2_) | (have H2_ := (Option.bind_some _ _).symm.trans H; with_reducible exact H2_) | with_reducible exact H | (rw [hy982]; exact H) | exact H
          have Ny982 := Aside0.mk hy982
          clear hy982
          have H' := Aside0.mk H
          clear H
          obtain ⟨Ao6, co6, eo6⟩ := Kd.R_slice HO_0.out
          subst eo6
          have p5 : 0 ≤ (x5_1 : Int) := of_decide_eq_true AS
          have q5 : (x5_1 : Int) < ((x0_1.length : Int) : Int) := of_decide_eq_true AS
          obtain ⟨go5, co5, eo5, gb5, gl5, cl5, HG5⟩ := Kd.R_form HO_0.out (by omega)
          (first | cases eo5 | (injection eo5 with ea_ en_ ec_; (first | subst ea_ | (injection ea_ with ea_; subst ea_)); subst ec_; clear en_))
          have GB5 := Aside0.mk gb5
          have GG5 := Aside0.mk HG5
          clear gb5 gl5 HG5
          have HMgo5 := Aside0.mk (show (P0_ go5 ∨ w.heap.size ≤ go5) from (HO_0.out.1 _ rfl))
          obtain ⟨hx5_0, hf5_0⟩ := Kd.R_celln 0 HO_0.out (x5_1 : Int) p5 q5
          replace p5 := eq_true p5
          replace q5 := eq_true q5
          have HP7 := Kd.R_putg HO_0.out (x5_1 : Int) x1_1
          go_wp2_with (first | ((with_reducible refine gate_store (t := 3) (p := 15) rfl ?_); refine store_event (t := 3) (p := 15) (v := ?vo_w8) (w1 := (wr.setCell ⟨go5, (x5_1 : Int).toNat, none⟩ (.int .i64 x1_1))) ?hg ?ho ?hn ?hr ?_; (case ho => rfl); (case hg => rfl); (case hn => rfl); (case hr => first | (go_simp; done) | (go_simp; rfl)); intro w8 hw; have hg : wr.grownBy w8 (some go5) := (by rw [hw]; exact HP7.2); have hp_ : Kd.R (Kd.int .i64) 3 w8 w0.heap.size (fun k_ => (P0_ k_ ∨ w.heap.size ≤ k_)) (.slice (some ⟨go5, 0, none⟩) x0_1.length co6) y982 := (by rw [hw, Ny982.out]; exact HP7.1); clear HP7; have n0_ := Aside0.mk (hp_); have n1_ := Aside0.mk ((by rw [hw]; exact below_set (HB.out) GB5.out : Below w0.heap.size w0 w8)); have n2_ := Aside0.mk (Kept.of_grown (S := (fun k_ => P0_ k_)) hg (by repeat (first | (with_reducible first | exact HK.out | apply Kept.alloc | apply Kept.drewN | apply Kept.drew) | exact HK.out)) (fun k_ e_ => (HO_0.out.1 k_ e_))); clear HO_0; clear HB; clear HK; have HO_0 := n0_; have HB := n1_; have HK := n2_; clear n0_ n1_ n2_; clear hg hw hp_))
          go_roundg k1
          case measure => have := HK1.out; omega
          case rel => exact ⟨(y982), (wrap64 (x1_1 + 1)), (wrap64 (x5_1 + 1)), RS, RS, H', ⟨by have := HK1.out; omega⟩, ⟨by (with_reducible repeat (first | apply Kd.R_alloc | apply Kd.R_drewN | apply Kd.R_drew)); exact HO_0.out⟩, ⟨by repeat (first | (with_reducible first | exact HK.out | apply Kept.alloc | apply Kept.drewN | apply Kept.drew) | exact HK.out)⟩, ⟨by repeat (first | (with_reducible first | exact HB.out | apply below_alloc | apply pw_below_drewN | apply below_drew1) | exact HB.out)⟩⟩
        · rw [if_neg c4] at H
          exact absurd H (by simp)
      · rw [if_neg c3] at H
        have c3b0 : decide (x5_1 < (x0_1.length : Int)) = false := decide_eq_false c3
        clear c3
        simp only [Option.some.injEq, Prod.mk.injEq] at H
        obtain ⟨rfl, rfl⟩ := H
        obtain ⟨Ao9, co9, eo9⟩ := Kd.R_slice HO_0.out
        subst eo9
        go_wp2
        go_ret
        exact ⟨by first | rfl | (simp [errW_none, errW_some] <;> rfl) | (simp [*, errW_none, errW_some] <;> rfl), by (with_reducible repeat (first | apply Kd.R_alloc | apply Kd.R_drewN | apply Kd.R_drew)); exact HO_0.out, by repeat (first | (with_reducible first | exact HB.out | apply below_alloc | apply pw_below_drewN | apply below_drew1) | exact HB.out), by repeat (first | (with_reducible first | exact HK.out | apply Kept.alloc | apply Kept.drewN | apply Kept.drew) | exact HK.out)⟩
end Go.Proofs.Ytmbfjhhlpnjeoaa.G

namespace Go.Proofs.Ytmbfjhhlpnjeoaa.G
open Go.RowKit Go.Proofs.YtmbfjhhlpnjeoaaW.PrintWords Go.Proofs.YtmbfjhhlpnjeoaaW.PrintLast Go.Proofs.YtmbfjhhlpnjeoaaW.PrintMore Go.Proofs.Ytmbfjhhlpnjeoaa.Sh
attribute [local go_sem] max2_int min2_int max_two min_two max_three min_three max_four min_four
set_option linter.unusedVariables false
set_option linter.unusedSimpArgs false
def laws_markText.l0 : Nat → Int → ByteArray → Option (ByteArray)
  | 0, _, _ => none
  | k + 1, x0, x3 => if x0 > 0 then ((some (([(wrap64 (48 + (Int.tmod x0 10))) % 256] : List Int) : List Int)).bind fun y334 => (if (strOfNums y334).size + x3.size ≤ 9223372036854775807 then (laws_markText.l0 k (wrap64 (Int.tdiv x0 10)) ((strOfNums y334) ++ x3)) else (none))) else (if 1 + x3.size ≤ 9223372036854775807 then (some ((⟨#[109]⟩ : ByteArray) ++ x3)) else (none))
def laws_markText.f (k : Nat) (a0 : Int) : Option (ByteArray) := if a0 ≤ 0 then (some (⟨#[109, 48]⟩ : ByteArray)) else (laws_markText.l0 k a0 (⟨#[]⟩ : ByteArray))
theorem laws_markText.mono_l : ∀ k, (∀ y0 y1, LeO (laws_markText.l0 k y0 y1) (laws_markText.l0 (k + 1) y0 y1))
  | 0 => fun _ _ r h => by simp [laws_markText.l0] at h
  | k + 1 => by
    have ih0 := laws_markText.mono_l k
    · intro y0 y1
      unfold laws_markText.l0
      repeat' first
      | (with_reducible exact ih0 _ _)
      | (with_reducible exact LeO.refl _)
      | (with_reducible exact LeO.none _)
      | (with_reducible refine LeO.ite ?_ ?_)
      | (with_reducible refine LeO.bind ?_ (fun _ => ?_))
      | exact ih0 _ _
      | exact LeO.none _
      | refine LeO.ite ?_ ?_
      | refine LeO.bind ?_ (fun _ => ?_)
theorem laws_markText.mono : ∀ a0 k, LeO (laws_markText.f k a0) (laws_markText.f (k + 1) a0) := by
  intro a0 k
  have ih0 := laws_markText.mono_l k
  unfold laws_markText.f
  repeat' first
      | (with_reducible exact ih0 _ _)
      | (with_reducible exact LeO.refl _)
      | (with_reducible exact LeO.none _)
      | (with_reducible refine LeO.ite ?_ ?_)
      | (with_reducible refine LeO.bind ?_ (fun _ => ?_))
      | exact ih0 _ _
      | exact LeO.none _
      | refine LeO.ite ?_ ?_
      | refine LeO.bind ?_ (fun _ => ?_)
set_option maxHeartbeats 8000000 in
set_option maxRecDepth 100000 in
theorem laws_markText.calls (k : Nat) (a0 : Int) (r : ByteArray) (w : World) (h : laws_markText.f k a0 = some r) :
    Calls Try.prog 88 #[.int .i64 a0] w fun e w' => e = .returned (.string r) ∧ Below w.heap.size w w' := by
  have HB := Aside0.mk (Below.refl w.heap.size w)
  have H : (if a0 ≤ 0 then (some (⟨#[109, 48]⟩ : ByteArray)) else (laws_markText.l0 k a0 (⟨#[]⟩ : ByteArray))) = some r := h
  clear h
  by_cases c2 : a0 ≤ 0
  · rw [if_pos c2] at H
    have c2b0 : decide (a0 ≤ 0) = true := decide_eq_true c2
    clear c2
    obtain rfl := Option.some.inj H
    go_enter Try.func88, Try.ntmps88
    go_wp2
    go_ret
    exact ⟨by first | rfl | (simp [errW_none, errW_some] <;> rfl) | (simp [*, errW_none, errW_some] <;> rfl), BL⟩
  · rw [if_neg c2] at H
    have c2b0 : decide (a0 ≤ 0) = false := decide_eq_false c2
    clear c2
    have H' := Aside0.mk H
    clear H
    go_enter Try.func88, Try.ntmps88
    go_wp2
    go_loopg [0, 3] k (fun kq v0 v3 w' => ∃ (x0_1 : Int) (x3_1 : ByteArray), v0 = .int .i64 x0_1 ∧ v3 = .string x3_1 ∧ Aside0 (laws_markText.l0 kq x0_1 x3_1 = some r) ∧ Aside0 (kq ≤ k) ∧ Aside0 (Below w.heap.size w w'))
    case atStart => exact ⟨(a0), ((⟨#[]⟩ : ByteArray)), RS, RS, H', ⟨Nat.le_refl _⟩, ⟨by repeat (first | (with_reducible first | exact HB.out | apply below_alloc | apply pw_below_drewN | apply below_drew1) | exact HB.out)⟩⟩
    case round =>
      clear H'
      try clear c2
      try clear c2b0
      try clear p2
      obtain ⟨x0_1, x3_1, rfl, rfl, HA, HK1, HB⟩ := hrel
      cases gk with
      | zero => exact absurd HA.out (by simp [laws_markText.l0])
      | succ k1 =>
        have H := HA.out
        clear HA
        simp only [laws_markText.l0] at H
        by_cases c3 : x0_1 > 0
        · rw [if_pos c3] at H
          have c3b0 : decide (0 < x0_1) = true := decide_eq_true c3
          clear c3
          obtain ⟨y334, hy334⟩ : ∃ y_ : List Int, y_ = (([(wrap64 (48 + (Int.tmod x0_1 10))) % 256] : List Int)) := ⟨_, rfl⟩
          replace H : (if (strOfNums y334).size + x3_1.size ≤ 9223372036854775807 then (laws_markText.l0 k1 (wrap64 (Int.tdiv x0_1 10)) ((strOfNums y334) ++ x3_1)) else (none)) = some r := by first | (rw [hy334]; with_reducible exact H) | (have H2_ := (Option.bind_some _ _).symm.trans H; rw [hy334]; with_reducible exact H2_) | (have H2_ := (Option.bind_some _ _).symm.trans H; with_reducible exact H2_) | with_reducible exact H | (rw [hy334]; exact H) | exact H
          have Ny334 := Aside0.mk hy334
          clear hy334
          by_cases c4 : (strOfNums y334).size + x3_1.size ≤ 9223372036854775807
          · rw [if_pos c4] at H
            have c4b0 := eq_true c4
            have c4b1 : decide ((strOfNums y334).size + x3_1.size ≤ 9223372036854775807) = true := decide_eq_true c4
            try have c4b2 : (9223372036854775807 < (strOfNums y334).size + x3_1.size) = False := eq_false (Nat.not_lt.2 c4)
            have H' := Aside0.mk H
            clear H
            go_wp2_with (first | ((with_reducible refine gate_dst (N := 12) rfl ?_); refine Kd.R_lit (Kd.int .u8) _ 5 ?hg (N := 12) ?hd (xs := ([(wrap64 (48 + (Int.tmod x0_1 10))) % 256] : List Int)) (inner := [.int .u8 ((wrap64 (48 + (Int.tmod x0_1 10))) % 256)]) (ok := fun _ => True) (okp := fun _ => True) ?hr ?hp (fun _ hk => hk) trivial (Below.refl _ _) (Nat.le_refl _) (by simp) ?_; (case hd => rfl); (case hg => rfl); (case hr => first | (go_simp; done) | (go_simp; rfl)); (case hp => exact (Reps.one (show Kd.M (Kd.int .u8) _ _ _ ((wrap64 (48 + (Int.tmod x0_1 10))) % 256) [.int .u8 ((wrap64 (48 + (Int.tmod x0_1 10))) % 256)] from rfl) (Reps.none _ _))); intro v335 w5 ho6 hb hg_ hnew_; clear hg_ hnew_; (first | rw [← Ny334.out] at ho6 | (simp only [Int.reduceToNat] at ho6; rw [← Ny334.out] at ho6)); have n0_ := Aside0.mk (Kd.R_lower ho6 (below_size BL)); have n1_ := Aside0.mk (below_step BL hb); clear HB; have HO336 := n0_; have HB := n1_; clear n0_ n1_; clear hb ho6; have hcv7 := own_string (P := Try.prog) Try.underlying171 Try.underlying5 Try.underlying9 (Kd.own_of_R HO336.out)))
            go_roundg k1
            case measure => have := HK1.out; omega
            case rel => exact ⟨(wrap64 (Int.tdiv x0_1 10)), ((strOfNums y334) ++ x3_1), RS, RS, H', ⟨by have := HK1.out; omega⟩, ⟨by repeat (first | (with_reducible first | exact HB.out | apply below_alloc | apply pw_below_drewN | apply below_drew1) | exact HB.out)⟩⟩
          · rw [if_neg c4] at H
            exact absurd H (by simp)
        · rw [if_neg c3] at H
          have c3b0 : decide (0 < x0_1) = false := decide_eq_false c3
          clear c3
          by_cases c8 : 1 + x3_1.size ≤ 9223372036854775807
          · rw [if_pos c8] at H
            have c8b0 := eq_true c8
            have c8b1 : decide (1 + x3_1.size ≤ 9223372036854775807) = true := decide_eq_true c8
            try have c8b2 : (9223372036854775807 < 1 + x3_1.size) = False := eq_false (Nat.not_lt.2 c8)
            obtain rfl := Option.some.inj H
            go_wp2
            go_ret
            exact ⟨by first | rfl | (simp [errW_none, errW_some] <;> rfl) | (simp [*, errW_none, errW_some] <;> rfl), BL⟩
          · rw [if_neg c8] at H
            exact absurd H (by simp)
end Go.Proofs.Ytmbfjhhlpnjeoaa.G
